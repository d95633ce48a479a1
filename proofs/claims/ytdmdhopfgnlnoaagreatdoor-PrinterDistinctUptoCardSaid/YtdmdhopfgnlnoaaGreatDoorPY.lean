/- A region that draws its zi, by an invariant over the set of what has come up: each operation once. The law's region of composite literals (awake of scriptinglaw07). -/
import Derived.Test.YtdmdhopfgnlnoaaGreatDoorPU
import Derived.RegionTactic
import Derived.Deep.DeepCutAuto
import Derived.Deep.RegionWith
namespace Go.Proofs.YtdmdhopfgnlnoaaGreatDoor
open Go.RowKit
set_option linter.unusedVariables false
set_option linter.unusedSimpArgs false
set_option maxHeartbeats 4000000
def leftB' (l:Array Bool):Nat:=l.toList.countP (fun b => !b)
theorem left_set {l:Array Bool} {i:Nat} (hi:i<l.size) (h:l[i]=false):leftB' (l.setIfInBounds i true)+1=leftB' l:=by
  unfold leftB';rw [Array.toList_setIfInBounds,List.countP_set (by simpa using hi)];have h1:0<List.countP (fun b => !b) l.toList:=List.countP_pos_iff.2 ⟨l[i],by simp,by rw [h];rfl⟩;rw [Array.getElem_toList,h];simp only [Bool.not_false,Bool.not_true,if_true,Bool.false_eq_true,if_false];omega
theorem vo {md:Region.Mode} {ops:Array Oper} {l:Array Bool} {i:Nat} (h:i ∈ Region.ready md ops l):i<ops.size∧l.getD i true=false∧((ops[i]?).map (·.after.all fun e => !Region.binds md e || l.getD e.on false)).getD false=true:=by
  unfold Region.ready at h;rw [List.mem_filter,List.mem_range] at h;obtain ⟨h1,h2⟩:=h;rw [Bool.and_eq_true] at h2;exact ⟨h1,by simpa using h2.1,h2.2⟩
theorem vO {P:Program} {md:Region.Mode} {ops:Array Oper} {Q:Exit→Act→World→Prop} {I:Array Bool→Act→World→Prop} (hz:∀ l a w,I l a w→l.size=ops.size)
    (hstep:∀ l a w i,I l a w→i ∈ Region.ready md ops l→wpOp P ops Q i (I (l.setIfInBounds i true)) a w) (hend:∀ l a w,I l a w→Region.ready md ops l=[]→Q .normal a w) :
    ∀ (fuel:Nat) (l:Array Bool) (a:Act) (w:World),leftB' l≤fuel→I l a w→wpAny P md ops Q fuel l a w
  | 0,l,a,w,hf,hI=>by
    have hr:Region.ready md ops l=[]:=by
      cases hr:Region.ready md ops l with
      | nil=>rfl
      | cons i r =>
        obtain ⟨h1,h2,-⟩:=vo (show i ∈ Region.ready md ops l by rw [hr];simp);have hi:i<l.size:=by rw [hz l a w hI];exact h1
        have h3:l[i]=false:=by simpa [Array.getD,hi] using h2
        have:=left_set hi h3;omega
    exact ⟨hr,hend l a w hI hr⟩
  | fuel+1,l,a,w,hf,hI=>⟨hend l a w hI,fun i hi=>wpOp_mono (fun a' w' h'=>vO hz hstep hend fuel _ a' w' (by
      obtain ⟨h1,h2,-⟩:=vo hi;have hi':i<l.size:=by rw [hz l a w hI];exact h1
      have h3:l[i]=false:=by simpa [Array.getD,hi'] using h2
      have:=left_set hi' h3;omega) h') (hstep l a w i hI hi)⟩
abbrev nmV:Array Value:=#[.int .i64 7,.int .i64 0,.int .i64 0,.int .i64 0,.int .i64 0,.string ⟨#[97]⟩,.slice none 0 0,.slice none 0 0]
abbrev retV (a5:Option Addr):Array Value:=#[.int .i64 11,.int .i64 0,.slice none 0 0,.slice none 0 0,.slice a5 1 1,.slice none 0 0,.string ⟨#[]⟩]
abbrev locV (gL:Nat):Array Value:=#[.int .i64 1,.int .i64 0,.slice (some ⟨gL,0,none⟩) 1 1,.slice none 0 0,.slice none 0 0,.slice none 0 0,.string ⟨#[]⟩]
abbrev ifV (gR gB:Nat):Array Value:=#[.int .i64 8,.int .i64 0,.slice none 0 0,.slice none 0 0,.slice (some ⟨gR,0,none⟩) 1 1,.slice (some ⟨gB,0,none⟩) 1 1,.string ⟨#[]⟩]
structure Fr6 (a0 a:Act) (X:Nat→Value):Prop where
  defers:a.defers=a0.defers
  size:a.tmps.size=a0.tmps.size
  other:∀ j,¬ (j=8∨(40≤j∧j≤49))→a.tmps[j]?=a0.tmps[j]?
  at_:∀ j,(j=8∨(40≤j∧j≤49))→a.tmps[j]?=some (X j)
def upd (X:Nat→Value) (d:Nat) (v:Value) (j:Nat):Value:=if j=d then v else X j
theorem Qh (X:Nat→Value) (d:Nat) (v:Value):upd X d v d=v:=if_pos rfl
theorem qP {X:Nat→Value} {d j:Nat} {v:Value} (h:j≠d):upd X d v j=X j:=if_neg h
theorem Fr6.put {a0 a:Act} {X:Nat→Value} (h:Fr6 a0 a X) (hs:50≤a0.tmps.size) (d:Nat) (v:Value) (hd:d=8∨(40≤d∧d≤49)):Fr6 a0 (a.put (some d) v) (upd X d v):=by
  refine ⟨h.defers,by simp [Act.put,h.size],fun j hj=>?_,fun j hj=>?_⟩
  · have hne:d≠j:=by rintro rfl;exact hj hd
    show (a.tmps.setIfInBounds d v)[j]?=_;rw [Array.getElem?_setIfInBounds_ne hne,h.other j hj]
  · show (a.tmps.setIfInBounds d v)[j]?=_;by_cases hne:d=j
    · subst hne;have hz:=h.size;rw [Array.getElem?_setIfInBounds_self,Qh,if_pos (by omega)]
    · rw [Array.getElem?_setIfInBounds_ne hne,h.at_ j hj,qP (Ne.symm hne)]
structure Inv6 (a0:Act) (a5:Option Addr) (w5:World) (l:Array Bool) (a:Act) (w:World):Prop where
  size:l.size=11
  below:Below w5.heap.size w5 w
  vals:∃ (X:Nat→Value) (gL gR gS gB g:Nat),Fr6 a0 a X ∧
    (l[0]?=some true→X 40=.agg #[.string ⟨#[97]⟩,.int .i64 1]) ∧
    (l[1]?=some true→X 41=.slice (some ⟨gL,0,none⟩) 1 1∧w.heap[gL]?=some (.cells #[.string ⟨#[97]⟩,.int .i64 1] 46)) ∧
    (l[2]?=some true→l[1]?=some true∧X 42=.agg (locV gL)) ∧
    (l[3]?=some true→X 43=.agg nmV) ∧
    (l[4]?=some true→X 44=.slice (some ⟨gR,0,none⟩) 1 1∧w.heap[gR]?=some (.cells nmV 37)) ∧
    (l[5]?=some true→X 45=.agg (retV a5)) ∧
    (l[6]?=some true→X 46=.slice (some ⟨gS,0,none⟩) 1 1∧w.heap[gS]?=some (.cells (retV a5) 44)) ∧
    (l[7]?=some true→l[6]?=some true∧X 47=.slice (some ⟨gB,0,none⟩) 1 1∧w.heap[gB]?=some (.cells #[.slice (some ⟨gS,0,none⟩) 1 1] 22)) ∧
    (l[8]?=some true→(l[4]?=some true∧l[7]?=some true)∧X 48=.agg (ifV gR gB)) ∧
    (l[9]?=some true→(l[2]?=some true∧l[8]?=some true)∧X 49=.slice (some ⟨g,0,none⟩) 2 2∧w.heap[g]?=some (.cells (locV gL++ifV gR gB) 44)) ∧
    (l[10]?=some true→l[9]?=some true∧X 8=.slice (some ⟨g,0,none⟩) 2 2)
abbrev qF:Array Oper:=#[{ dst:=some 40,op:=Op.build 46 #[(0,Operand.const (Value.string { data:=#[97] })),(1,Operand.const (Value.int IntKind.i64 1))],type:=46,pos := "law.go:28",after:=#[],guard:=none },
  { dst:=some 41,op:=Op.buildSlice 41 1 #[(0,Operand.tmp 40)],type:=41,pos := "law.go:28",after:=#[{ on:=0,ground:=Ground.data }],guard:=none },
  { dst:=some 42,op:=Op.build 44 #[(0,Operand.const (Value.int IntKind.i64 1)),(2,Operand.tmp 41)],type:=44,pos := "law.go:28",after:=#[{ on:=1,ground:=Ground.data }],guard:=none },
  { dst:=some 43,op:=Op.call { callee:=Callee.value (Operand.func 12),args:=#[Operand.const (Value.string { data:=#[97] })],argTypes:=#[9] },type:=37,pos := "law.go:28",after:=#[],guard:=none },
  { dst:=some 44,op:=Op.buildSlice 34 1 #[(0,Operand.tmp 43)],type:=34,pos := "law.go:28",after:=#[{ on:=3,ground:=Ground.data }],guard:=none },
  { dst:=some 45,op:=Op.load 44 (Operand.tmp 7),type:=44,pos := "law.go:28",after:=#[],guard:=none },
  { dst:=some 46,op:=Op.buildSlice 22 1 #[(0,Operand.tmp 45)],type:=22,pos := "law.go:28",after:=#[{ on:=5,ground:=Ground.data }],guard:=none },
  { dst:=some 47,op:=Op.buildSlice 42 1 #[(0,Operand.tmp 46)],type:=42,pos := "law.go:28",after:=#[{ on:=6,ground:=Ground.data }],guard:=none },
  { dst:=some 48,op:=Op.build 44 #[(0,Operand.const (Value.int IntKind.i64 8)),(4,Operand.tmp 44),(5,Operand.tmp 47)],type:=44,pos := "law.go:28",after:=#[{ on:=4,ground:=Ground.data },{ on:=7,ground:=Ground.data }],guard:=none },
  { dst:=some 49,op:=Op.buildSlice 22 2 #[(0,Operand.tmp 42),(1,Operand.tmp 48)],type:=22,pos := "law.go:28",after:=#[{ on:=2,ground:=Ground.data },{ on:=8,ground:=Ground.data }],guard:=none },
  { dst:=some 8,op:=Op.assign (Operand.tmp 49),type:=22,pos := "law.go:28",after:=#[{ on:=9,ground:=Ground.data },{ on:=3,ground:=Ground.chain },{ on:=0,ground:=Ground.phase },{ on:=1,ground:=Ground.phase },{ on:=2,ground:=Ground.phase },{ on:=3,ground:=Ground.phase },{ on:=4,ground:=Ground.phase },{ on:=5,ground:=Ground.phase },{ on:=6,ground:=Ground.phase },{ on:=7,ground:=Ground.phase },{ on:=8,ground:=Ground.phase },{ on:=9,ground:=Ground.phase }],guard:=none }]
theorem VU {l:Array Bool} {i:Nat} (h:l.getD i false=true):l[i]?=some true:=by
  rw [Array.getD_eq_getD_getElem?] at h;cases hq:l[i]? with
  | none=>rw [hq] at h;cases h
  | some b=>rw [hq] at h;simp at h;rw [h]
theorem QW {l:Array Bool} {i k:Nat} (h:i≠k):(l.setIfInBounds i true)[k]?=l[k]?:=Array.getElem?_setIfInBounds_ne h
theorem qV {w:World} {F:Nat→Prop} (c:UInt8):(nmE c).At F w ⟨none,0,none,0⟩:=leaf_at _ (show 1≤MX by unfold MX;omega) (QV (by omega) (by omega)) Qq Qq
theorem vt (c:UInt8) (w:World):Calls Tryz.prog 12 #[.string ⟨#[c]⟩] w fun e w'=>e=.returned (.agg #[.int .i64 7,.int .i64 0,.int .i64 0,.int .i64 0,.int .i64 0,.string ⟨#[c]⟩,.slice none 0 0,.slice none 0 0])∧Below w.heap.size w w':=by
  go_enter Tryz.func12,Tryz.ntmps12
  go_wp2_with fail
  refine bodyPost_ret (v:=.agg #[.int .i64 7,.int .i64 0,.int .i64 0,.int .i64 0,.int .i64 0,.string ⟨#[c]⟩,.slice none 0 0,.slice none 0 0]) (by simp [results,Tryz.results12,go_sem]) rfl ⟨rfl,?_⟩;exact bw
theorem z6 {P:Prop} (h:P:=by
  intro h;rw [QW (by decide)] at h
  first
  | exact absurd (f2 h).1 hn
  | exact absurd (f7 h).1 hn
  | exact absurd (f8 h).1.1 hn
  | exact absurd (f8 h).1.2 hn
  | exact absurd (f2 (f9 h).1.1).1 hn
  | exact absurd (f8 (f9 h).1.2).1.1 hn
  | exact absurd (f8 (f9 h).1.2).1.2 hn
  | exact absurd (f9 h).1.1 hn
  | exact absurd (f9 h).1.2 hn
  | exact absurd (f10 h).1 hn
  | ((repeat rw [QW (by decide)]);(try rw [qP (by decide)]);first
    | exact f0 h
    | exact ⟨(f1 h).1,hm (f1 h).2⟩
    | exact f2 h
    | exact f3 h
    | exact ⟨(f4 h).1,hm (f4 h).2⟩
    | exact f5 h
    | exact ⟨(f6 h).1,hm (f6 h).2⟩
    | exact ⟨(f7 h).1,(f7 h).2.1,hm (f7 h).2.2⟩
    | exact f8 h
    | exact ⟨(f9 h).1,(f9 h).2.1,hm (f9 h).2.2⟩
    | exact f10 h
    )):P:=h
set_option maxRecDepth 100000 in
theorem reg6_step {Q:Exit→Act→World→Prop} {a0:Act} {b5:Nat} {a5:Option Addr} {w5:World} (hs0:50≤a0.tmps.size) (h7:a0.tmps[7]?=some (.pointer (some ⟨b5,0,none⟩)))
    (hb5:w5.heap[b5]?=some (.cells (retV a5) 44)) (l:Array Bool) (a:Act) (w:World) (i:Nat) (hI:Inv6 a0 a5 w5 l a w) (hi:i ∈ Region.ready .any qF l) :
    wpOp Tryz.prog qF Q i (Inv6 a0 a5 w5 (l.setIfInBounds i true)) a w:=by
  obtain ⟨h1,h2,h3⟩:=vo hi;have hi11:i<11:=h1;obtain ⟨hz,hb,X,gL,gR,gS,gB,g,hF,f0,f1,f2,f3,f4,f5,f6,f7,f8,f9,f10⟩:=hI
  have hn:l[i]?≠some true:=by
    intro hq;rw [Array.getD_eq_getD_getElem?,hq] at h2;cases h2
  have hl:i<l.size:=by omega
  have hcase:i=0∨i=1∨i=2∨i=3∨i=4∨i=5∨i=6∨i=7∨i=8∨i=9∨i=10:=by omega
  clear h1 h2 hi hi11;have hs1:∀ k,(l.setIfInBounds k true).size=11:=fun k=>by simp [hz]
  rcases hcase with rfl|rfl|rfl|rfl|rfl|rfl|rfl|rfl|rfl|rfl|rfl
  · refine wpOp_step (o:=qF[0]) rfl (fun K hK=>?_);rw [if_pos (by rfl)]
    go_simp
    have hm:∀ {b:Nat} {cs:Array Value} {T:TypeId},w.heap[b]?=some (.cells cs T)→w.heap[b]?=some (.cells cs T):=fun h=>h;refine hK _ _ ⟨hs1 _,hb,upd X 40 _,gL,gR,gS,gB,g,hF.put hs0 40 _ (by decide),fun _=>Qh _ _ _,?_,?_,?_,?_,?_,?_,?_,?_,?_,?_⟩
    all_goals exact z6
  · have d0:=f0 (VU (by simpa [Region.binds] using h3));have e0:=hF.at_ 40 (by decide);rw [d0] at e0;refine wpOp_step (o:=qF[1]) rfl (fun K hK=>?_);rw [if_pos (by rfl)]
    go_simp
    have hm:∀ {o:Obj} {b:Nat} {cs:Array Value} {T:TypeId},w.heap[b]?=some (.cells cs T)→(w.alloc o).heap[b]?=some (.cells cs T):=fun h=>Zm h _;refine hK _ _ ⟨hs1 _,Zj hb _,upd X 41 _,w.heap.size,gR,gS,gB,g,hF.put hs0 41 _ (by decide),?_,fun _=>⟨Qh _ _ _,Zk rfl⟩,?_,?_,?_,?_,?_,?_,?_,?_,?_⟩
    all_goals exact z6
  · have l1:=VU (l:=l) (i:=1) (by simpa [Region.binds] using h3);have e0:=hF.at_ 41 (by decide);rw [(f1 l1).1] at e0;refine wpOp_step (o:=qF[2]) rfl (fun K hK=>?_);rw [if_pos (by rfl)]
    go_simp
    have hm:∀ {b:Nat} {cs:Array Value} {T:TypeId},w.heap[b]?=some (.cells cs T)→w.heap[b]?=some (.cells cs T):=fun h=>h;refine hK _ _ ⟨hs1 _,hb,upd X 42 _,gL,gR,gS,gB,g,hF.put hs0 42 _ (by decide),?_,?_,fun _=>⟨by rw [QW (by decide)];exact l1,Qh _ _ _⟩,?_,?_,?_,?_,?_,?_,?_,?_⟩
    all_goals exact z6
  · refine wpOp_step (o:=qF[3]) rfl (fun K hK=>?_);rw [if_pos (by rfl)]
    go_simp
    refine (vt 97 w).mono ?_;rintro e w' ⟨rfl,hb3⟩;have hm:∀ {b:Nat} {cs:Array Value} {T:TypeId},w.heap[b]?=some (.cells cs T)→w'.heap[b]?=some (.cells cs T):=fun h=>Zd hb3 h;refine hK _ _ ⟨hs1 _,thru hb3 hb,upd X 43 _,gL,gR,gS,gB,g,hF.put hs0 43 _ (by decide),?_,?_,?_,fun _=>Qh _ _ _,?_,?_,?_,?_,?_,?_,?_⟩
    all_goals exact z6
  · have d0:=f3 (VU (by simpa [Region.binds] using h3));have e0:=hF.at_ 43 (by decide);rw [d0] at e0;refine wpOp_step (o:=qF[4]) rfl (fun K hK=>?_);rw [if_pos (by rfl)]
    go_simp
    have hm:∀ {o:Obj} {b:Nat} {cs:Array Value} {T:TypeId},w.heap[b]?=some (.cells cs T)→(w.alloc o).heap[b]?=some (.cells cs T):=fun h=>Zm h _;refine hK _ _ ⟨hs1 _,Zj hb _,upd X 44 _,gL,w.heap.size,gS,gB,g,hF.put hs0 44 _ (by decide),?_,?_,?_,?_,fun _=>⟨Qh _ _ _,Zk rfl⟩,?_,?_,?_,?_,?_,?_⟩
    all_goals exact z6
  · have e0:=(hF.other 7 (by decide)).trans h7;have hx:=Zd hb hb5;have kb:=fun i=>Za hx i;refine wpOp_step (o:=qF[5]) rfl (fun K hK=>?_);rw [if_pos (by rfl)]
    go_simp
    have hm:∀ {b:Nat} {cs:Array Value} {T:TypeId},w.heap[b]?=some (.cells cs T)→w.heap[b]?=some (.cells cs T):=fun h=>h;refine hK _ _ ⟨hs1 _,hb,upd X 45 _,gL,gR,gS,gB,g,hF.put hs0 45 _ (by decide),?_,?_,?_,?_,?_,fun _=>Qh _ _ _,?_,?_,?_,?_,?_⟩
    all_goals exact z6
  · have d0:=f5 (VU (by simpa [Region.binds] using h3));have e0:=hF.at_ 45 (by decide);rw [d0] at e0;refine wpOp_step (o:=qF[6]) rfl (fun K hK=>?_);rw [if_pos (by rfl)]
    go_simp
    have hm:∀ {o:Obj} {b:Nat} {cs:Array Value} {T:TypeId},w.heap[b]?=some (.cells cs T)→(w.alloc o).heap[b]?=some (.cells cs T):=fun h=>Zm h _;refine hK _ _ ⟨hs1 _,Zj hb _,upd X 46 _,gL,gR,w.heap.size,gB,g,hF.put hs0 46 _ (by decide),?_,?_,?_,?_,?_,?_,fun _=>⟨Qh _ _ _,Zk rfl⟩,?_,?_,?_,?_⟩
    all_goals exact z6
  · have l1:=VU (l:=l) (i:=6) (by simpa [Region.binds] using h3);have e0:=hF.at_ 46 (by decide);rw [(f6 l1).1] at e0;refine wpOp_step (o:=qF[7]) rfl (fun K hK=>?_);rw [if_pos (by rfl)]
    go_simp
    have hm:∀ {o:Obj} {b:Nat} {cs:Array Value} {T:TypeId},w.heap[b]?=some (.cells cs T)→(w.alloc o).heap[b]?=some (.cells cs T):=fun h=>Zm h _;refine hK _ _ ⟨hs1 _,Zj hb _,upd X 47 _,gL,gR,gS,w.heap.size,g,hF.put hs0 47 _ (by decide),?_,?_,?_,?_,?_,?_,?_,fun _=>⟨by rw [QW (by decide)];exact l1,Qh _ _ _,Zk rfl⟩,?_,?_,?_⟩
    all_goals exact z6
  · have l1:l[4]?=some true∧l[7]?=some true:=by simp [Region.binds] at h3;exact ⟨VU (by simpa using h3.1),VU (by simpa using h3.2)⟩
    have e0:=hF.at_ 44 (by decide);have e1:=hF.at_ 47 (by decide);rw [(f4 l1.1).1] at e0;rw [(f7 l1.2).2.1] at e1;refine wpOp_step (o:=qF[8]) rfl (fun K hK=>?_);rw [if_pos (by rfl)]
    go_simp
    have hm:∀ {b:Nat} {cs:Array Value} {T:TypeId},w.heap[b]?=some (.cells cs T)→w.heap[b]?=some (.cells cs T):=fun h=>h;refine hK _ _ ⟨hs1 _,hb,upd X 48 _,gL,gR,gS,gB,g,hF.put hs0 48 _ (by decide),?_,?_,?_,?_,?_,?_,?_,?_,fun _=>⟨by rw [QW (by decide),QW (by decide)];exact l1,Qh _ _ _⟩,?_,?_⟩
    all_goals exact z6
  · have l1:l[2]?=some true∧l[8]?=some true:=by simp [Region.binds] at h3;exact ⟨VU (by simpa using h3.1),VU (by simpa using h3.2)⟩
    have e0:=hF.at_ 42 (by decide);have e1:=hF.at_ 48 (by decide);rw [(f2 l1.1).2] at e0;rw [(f8 l1.2).2] at e1;refine wpOp_step (o:=qF[9]) rfl (fun K hK=>?_);rw [if_pos (by rfl)]
    go_simp
    have hm:∀ {o:Obj} {b:Nat} {cs:Array Value} {T:TypeId},w.heap[b]?=some (.cells cs T)→(w.alloc o).heap[b]?=some (.cells cs T):=fun h=>Zm h _;refine hK _ _ ⟨hs1 _,Zj hb _,upd X 49 _,gL,gR,gS,gB,w.heap.size,hF.put hs0 49 _ (by decide),?_,?_,?_,?_,?_,?_,?_,?_,?_,fun _=>⟨by rw [QW (by decide),QW (by decide)];exact l1,Qh _ _ _,Zk rfl⟩,?_⟩
    all_goals exact z6
  · have l1:l[9]?=some true:=by simp [Region.binds] at h3;exact VU (by simpa using h3.1)
    have e0:=hF.at_ 49 (by decide);rw [(f9 l1).2.1] at e0;refine wpOp_step (o:=qF[10]) rfl (fun K hK=>?_);rw [if_pos (by rfl)]
    go_simp
    have hm:∀ {b:Nat} {cs:Array Value} {T:TypeId},w.heap[b]?=some (.cells cs T)→w.heap[b]?=some (.cells cs T):=fun h=>h;refine hK _ _ ⟨hs1 _,hb,upd X 8 _,gL,gR,gS,gB,g,hF.put hs0 8 _ (by decide),?_,?_,?_,?_,?_,?_,?_,?_,?_,?_,fun _=>⟨by rw [QW (by decide)];exact l1,Qh _ _ _⟩⟩
    all_goals exact z6
theorem puts_at (X:Nat→Value) (j:Nat):∀ (ds:List Nat) (a:Act),(∀ d ∈ ds,d<a.tmps.size)→(ds.foldl (fun a d=>a.put (some d) (X d)) a).tmps[j]?=if j ∈ ds then some (X j) else a.tmps[j]?
  | [],a,_=>by simp
  | d::r,a,h=>by
    rw [List.foldl_cons,puts_at X j r _ (fun e he=>by have:=h e (by simp [he]);simpa [Act.put] using this)];have hd:=h d (by simp);by_cases h1:j ∈ r
    · simp [h1]
    · rw [if_neg h1];show (a.tmps.setIfInBounds d (X d))[j]?=_;by_cases h2:j=d
      · subst h2;rw [Array.getElem?_setIfInBounds_self,if_pos hd,if_pos (by simp)]
      · rw [Array.getElem?_setIfInBounds_ne (Ne.symm h2),if_neg (by simp [h1,h2])]
theorem qh (X:Nat→Value):∀ (ds:List Nat) (a:Act),(ds.foldl (fun a d=>a.put (some d) (X d)) a).defers=a.defers
  | [],_=>rfl
  | _::r,a=>by rw [List.foldl_cons,qh X r];rfl
theorem Fr6.eq {a0 a:Act} {X:Nat→Value} (h:Fr6 a0 a X) (hs:50≤a0.tmps.size):a=[8,40,41,42,43,44,45,46,47,48,49].foldl (fun a d=>a.put (some d) (X d)) a0:=by
  have hd:=qh X [8,40,41,42,43,44,45,46,47,48,49] a0
  have ht:a.tmps=([8,40,41,42,43,44,45,46,47,48,49].foldl (fun a d=>a.put (some d) (X d)) a0).tmps:=by
    apply Array.ext_getElem?;intro j;rw [puts_at X j _ a0 (fun d hd=>by simp at hd;omega)];by_cases hj:j=8∨(40≤j∧j≤49)
    · rw [if_pos (by simp;omega),h.at_ j hj]
    · rw [if_neg (by simp;omega),h.other j hj]
  have hdef:=h.defers.trans hd.symm;clear hd h hs;generalize [8,40,41,42,43,44,45,46,47,48,49].foldl (fun a d=>a.put (some d) (X d)) a0=b at ht hdef ⊢;obtain ⟨t,d⟩:=a;obtain ⟨t',d'⟩:=b;simp only at ht hdef;rw [ht,hdef]
theorem reg6 {Q:Exit→Act→World→Prop} {a0:Act} {b5:Nat} {a5:Option Addr} {w5:World} (hs0:50≤a0.tmps.size) (h7:a0.tmps[7]?=some (.pointer (some ⟨b5,0,none⟩)))
    (hb5:w5.heap[b5]?=some (.cells (retV a5) 44)) (hQ:∀ (a:Act) (w:World) (X:Nat→Value) (gL gR gS gB g:Nat),Fr6 a0 a X→Below w5.heap.size w5 w→X 8=.slice (some ⟨g,0,none⟩) 2 2 →
      w.heap[gL]?=some (.cells #[.string ⟨#[97]⟩,.int .i64 1] 46)→w.heap[gR]?=some (.cells nmV 37)→w.heap[gS]?=some (.cells (retV a5) 44)→w.heap[gB]?=some (.cells #[.slice (some ⟨gS,0,none⟩) 1 1] 22) →
      w.heap[g]?=some (.cells (locV gL++ifV gR gB) 44)→Q .normal a w):(Code.region 6 qF true).wp Tryz.prog Q a0 w5:=by
  refine wp_region_any (by kernel_rfl) (vO (ops:=qF) (I:=Inv6 a0 a5 w5) (fun l a w h=>h.size) (fun l a w i hI hi=>reg6_step hs0 h7 hb5 l a w i hI hi) (fun l a w hI hr=>?_) _ _ _ _ (by decide +kernel) ?_)
  · obtain ⟨hz,hb,X,gL,gR,gS,gB,g,hF,-,f1,f2,-,f4,-,f6,f7,f8,f9,f10⟩:=hI
    have hall:∀ i:Nat,i<11→l[i]?=some true:=fun i hi=>by
      apply Classical.byContradiction;intro hne
      have hex:∃ i:Nat,i<11∧l[i]?≠some true∧∀ j,j<i→l[j]?=some true:=by
        have:∀ n:Nat,(∃ i:Nat,i<n∧l[i]?≠some true)→∃ i:Nat,i<n∧l[i]?≠some true∧∀ j,j<i→l[j]?=some true:=by
          intro n
          induction n with
          | zero=>rintro ⟨i,h,-⟩;omega
          | succ n ih =>
            intro hx;by_cases h9:∃ i:Nat,i<n∧l[i]?≠some true
            · obtain ⟨i,h1,h2⟩:=ih h9;exact ⟨i,by omega,h2⟩
            · obtain ⟨i,h1,h2⟩:=hx;refine ⟨i,h1,h2,fun j hj=>?_⟩;apply Classical.byContradiction;intro h8;exact h9 ⟨j,by omega,h8⟩
        exact this 11 ⟨i,hi,hne⟩
      obtain ⟨i,h1,h2,h3⟩:=hex
      have hin:i ∈ Region.ready .any qF l:=by
        unfold Region.ready;rw [List.mem_filter,List.mem_range];have hg:∀ j,j<i→l[j]?.getD false=true:=fun j hj=>by rw [h3 j hj];rfl
        have hn:l.getD i true=false:=by
          rw [Array.getD_eq_getD_getElem?];cases hq:l[i]? with
          | none=>rw [Array.getElem?_eq_none_iff] at hq;omega
          | some b=>cases b with
            | true=>exact absurd hq h2
            | false=>rfl
        refine ⟨h1,?_⟩;rw [hn];have hcase:i=0∨i=1∨i=2∨i=3∨i=4∨i=5∨i=6∨i=7∨i=8∨i=9∨i=10:=by omega
        rcases hcase with rfl|rfl|rfl|rfl|rfl|rfl|rfl|rfl|rfl|rfl|rfl <;> simp [Region.binds,hg]
      rw [hr] at hin;cases hin
    exact hQ a w X gL gR gS gB g hF hb (f10 (hall 10 (by decide))).2 (f1 (hall 1 (by decide))).2 (f4 (hall 4 (by decide))).2 (f6 (hall 6 (by decide))).2 (f7 (hall 7 (by decide))).2.2 (f9 (hall 9 (by decide))).2.2
  · have hX:∃ X:Nat→Value,∀ j,j<a0.tmps.size→a0.tmps[j]?=some (X j):=⟨fun j=>a0.tmps[j]?.getD undef,fun j hj=>by simp [hj]⟩
    obtain ⟨X,hX⟩:=hX;exact ⟨rfl,Below.drew (Below.refl _ _),X,0,0,0,0,0,⟨rfl,rfl,fun _ _=>rfl,fun j hj=>hX j (by omega)⟩,by simp,by simp,by simp,by simp,by simp,by simp,by simp,by simp,by simp,by simp,by simp⟩
set_option maxHeartbeats 16000000
def YU (op:Int) (x y:Ex):Ex:=.mk 16 op 0 0 0 ⟨#[]⟩ [x,y] []
theorem YC (op:Int) (k1 o1 l1 p1 q1:Int) (s1:ByteArray) (a1 f1:List Ex) (d1 d2:EA) (x y:Ex) (dx dy:EA) (w:World) (ho:QO op) (hx:x.At Ze w dx) (hy:y.At Ze w dy) :
    Calls Tryz.prog 11 #[.int .i64 op,(eV x dx),(eV y dy)] w fun e w'=>∃ d,e=.returned (.agg #[.int .i64 ((YU op x y)).kind,.int .i64 ((YU op x y)).op,.int .i64 ((YU op x y)).line,.int .i64 ((YU op x y)).p,.int .i64 ((YU op x y)).q,.string ((YU op x y)).str,.slice d.a ((YU op x y)).args.length d.c,.slice d.fa ((YU op x y)).funcs.length d.fc])∧(YU op x y).At Ze w' d∧Below w.heap.size w w':=by
  delta eV
  have HX:=hI hx;have HY:=hI hy;clear hx hy
  go_enter Tryz.func11,Tryz.ntmps11
  go_wp2_with fail
  refine bodyPost_ret (v:=.agg #[.int .i64 16,.int .i64 op,.int .i64 0,.int .i64 0,.int .i64 0,.string ⟨#[]⟩,.slice (some ⟨w.heap.size+1+1+1,0,none⟩) 2 2,.slice none 0 0]) (by simp [results,Tryz.results11,go_sem]) rfl ⟨⟨some ⟨w.heap.size+1+1+1,0,none⟩,2,none,0⟩,rfl,?_,?_⟩
  · have hb3:Below w.heap.size w (((w.alloc (.cells #[.int .i64 x.kind,.int .i64 x.op,.int .i64 x.line,.int .i64 x.p,.int .i64 x.q,.string x.str,.slice dx.a x.args.length dx.c,.slice dx.fa x.funcs.length dx.fc] 37)).alloc (.cells #[.int .i64 y.kind,.int .i64 y.op,.int .i64 y.line,.int .i64 y.p,.int .i64 y.q,.string y.str,.slice dy.a y.args.length dy.c,.slice dy.fa y.funcs.length dy.fc] 37)).alloc (.cells #[.int .i64 16,.int .i64 op,.int .i64 0,.int .i64 0,.int .i64 0,.string ⟨#[]⟩,.slice (some ⟨w.heap.size+1+1+1,0,none⟩) 2 2,.slice none 0 0] 37)):=bw;have h9:=pair_at (k:=16) (o:=op) (s:=⟨#[]⟩) (QV (by omega) (by omega)) ho (by unfold MX;decide) (HX.out.keep (Zb hb3) (fun _ h=>h)) (HY.out.keep (Zb hb3) (fun _ h=>h));have e:∀ o1 o2 o3,(((w.alloc o1).alloc o2).alloc o3).heap.size=w.heap.size+1+1+1:=fun _ _ _=>by simp
    rw [e] at h9;exact h9
  · exact bw
structure KE (wa wb:World) (x:Ex) (d:EA) (b:Nat):Prop where
  below:Below wa.heap.size wa wb
  at_:x.At Ze wb d
  box:wb.heap[b]?=some (.cells #[.int .i64 x.kind,.int .i64 x.op,.int .i64 x.line,.int .i64 x.p,.int .i64 x.q,.string x.str,.slice d.a x.args.length d.c,.slice d.fa x.funcs.length d.fc] 37)
theorem KE.mk' {wa w3:World} {x:Ex} {d:EA} {b:Nat} (hb:Below wa.heap.size wa w3) (hat:x.At Ze w3 d) (h:b=w3.heap.size):KE wa (w3.alloc (.cells #[.int .i64 x.kind,.int .i64 x.op,.int .i64 x.line,.int .i64 x.p,.int .i64 x.q,.string x.str,.slice d.a x.args.length d.c,.slice d.fa x.funcs.length d.fc] 37)) x d b :=
  ⟨Zj hb _,hat.keep (keepA _) (fun _ h=>h),Zk h⟩
theorem rg_box {w:World} {b:Nat} {cs:Array Value} {T:TypeId} (h:w.heap[b]?=some (.cells cs T)):w.rangeAt b 0 cs.toList:=by
  intro j v hv;rw [Nat.zero_add,Za h];simpa using hv
theorem call_ats {w:World} {T1 T2:TypeId} {g:Nat} {o:Obj} (hg:g=w.heap.size+1) (hT:T1=37∧T2=37) :
    Ex.Ats Ze (((w.alloc (.cells #[.int .i64 7,.int .i64 0,.int .i64 0,.int .i64 0,.int .i64 0,.string ⟨#[102]⟩,.slice none 0 0,.slice none 0 0,.int .i64 7,.int .i64 0,.int .i64 0,.int .i64 0,.int .i64 0,.string ⟨#[98]⟩,.slice none 0 0,.slice none 0 0] T1)).alloc (.cells #[.int .i64 9,.int .i64 0,.int .i64 0,.int .i64 0,.int .i64 0,.string ⟨#[]⟩,.slice (some ⟨w.heap.size,0,none⟩) 2 2,.slice none 0 0] T2)).alloc o) [callE] (some ⟨g,0,none⟩):=by
  obtain ⟨rfl,rfl⟩:=hT;subst hg;have h9:=pair_at (w:=w) (k:=9) (o:=0) (s:=⟨#[]⟩) (x:=nmE 102) (y:=nmE 98) (dx:=⟨none,0,none,0⟩) (dy:=⟨none,0,none,0⟩) (QV (by omega) (by omega)) Qq (by unfold MX;decide) (qV 102) (qV 98);refine ⟨w.heap.size+1,0,⟨some ⟨w.heap.size,0,none⟩,2,none,0⟩,rfl,trivial,by simp,rg_box (Zm (Zk (by simp)) _),?_,trivial⟩;exact h9.keep (Zb (Zj (Zj (Below.refl _ _) _) _)) (fun _ h=>h)
theorem loc_ats {wx:World} {g gL gR gB gS:Nat} {ar:Option Addr}
    (hg:wx.heap[g]?=some (.cells #[.int .i64 1,.int .i64 0,.slice (some ⟨gL,0,none⟩) 1 1,.slice none 0 0,.slice none 0 0,.slice none 0 0,.string ⟨#[]⟩,.int .i64 8,.int .i64 0,.slice none 0 0,.slice none 0 0,.slice (some ⟨gR,0,none⟩) 1 1,.slice (some ⟨gB,0,none⟩) 1 1,.string ⟨#[]⟩] 44))
    (hL:wx.heap[gL]?=some (.cells #[.string ⟨#[97]⟩,.int .i64 1] 46))
    (hR:wx.heap[gR]?=some (.cells #[.int .i64 7,.int .i64 0,.int .i64 0,.int .i64 0,.int .i64 0,.string ⟨#[97]⟩,.slice none 0 0,.slice none 0 0] 37))
    (hB:wx.heap[gB]?=some (.cells #[.slice (some ⟨gS,0,none⟩) 1 1] 22))
    (hS:wx.heap[gS]?=some (.cells #[.int .i64 11,.int .i64 0,.slice none 0 0,.slice none 0 0,.slice ar 1 1,.slice none 0 0,.string ⟨#[]⟩] 44))
    (hC:Ex.Ats Ze wx [callE] ar):St.Ats Ze wx [locS,ifS] (some ⟨g,0,none⟩):=by
  have rg:∀ {b:Nat} {cs:Array Value} {T:TypeId},wx.heap[b]?=some (.cells cs T)→wx.rangeAt b 0 cs.toList:=by
    intro b cs T h j v hv;rw [Nat.zero_add,Za h];simpa using hv
  have r:=rg hg;refine ⟨g,0,⟨some ⟨gL,0,none⟩,1,none,0,none,0,none,0⟩,rfl,trivial,Zc hg,Yd (xs:=[_,_,_,_,_,_,_]) (ys:=[_,_,_,_,_,_,_]) r,?_,?_⟩
  · refine ⟨⟨QV (by omega) (by omega),Qq,by unfold MX;decide⟩,⟨by simp,⟨by show 1≤MX;unfold MX;decide,by show 1*24≤LM;unfold LM;decide⟩,by simp,⟨by simp,by simp⟩,by simp,⟨by simp,by simp⟩,by simp,by simp,by simp⟩,?_,trivial,trivial,trivial⟩;refine ⟨gL,0,fun _=>⟨rfl,trivial,Zc hL⟩,fun i x hx=>?_⟩;cases i with
    | succ i=>simp at hx
    | zero =>
      simp at hx;subst hx;refine ⟨[.string ⟨#[97]⟩,.int .i64 1],?_,rfl,by unfold MX;decide,QV (by omega) (by omega)⟩;rw [Nat.zero_mul,Nat.add_zero];exact rg hL
  · refine ⟨g,7,⟨none,0,none,0,some ⟨gR,0,none⟩,1,some ⟨gB,0,none⟩,1⟩,rfl,trivial,Zc hg,Jr (xs:=[_,_,_,_,_,_,_]) (ys:=[_,_,_,_,_,_,_]) r,?_,trivial⟩;refine ⟨⟨QV (by omega) (by omega),Qq,by unfold MX;decide⟩,⟨by simp,⟨by simp,by simp⟩,by simp,⟨by simp,by simp⟩,by simp,⟨by show 1≤MX;unfold MX;decide,by show 1*104≤LM;unfold LM;decide⟩,by simp,by show 1≤MX;unfold MX;decide,by show 1*24≤LM;unfold LM;decide⟩,Rows.nil _,trivial,?_,?_⟩
    · exact ⟨gR,0,⟨none,0,none,0⟩,rfl,trivial,Zc hR,rg hR,qV 97,trivial⟩
    · refine ⟨gB,0,some ⟨gS,0,none⟩,1,rfl,trivial,Zc hB,rg hB,⟨by simp,by unfold MX;decide,by show 1*128≤LM;unfold LM;decide⟩,?_,trivial⟩;refine ⟨gS,0,⟨none,0,none,0,ar,1,none,0⟩,rfl,trivial,Zc hS,rg hS,?_,trivial⟩;exact ⟨⟨QV (by omega) (by omega),Qq,by unfold MX;decide⟩,⟨by simp,⟨by simp,by simp⟩,by simp,⟨by simp,by simp⟩,by simp,⟨by show 1≤MX;unfold MX;decide,by show 1*104≤LM;unfold LM;decide⟩,by simp,by simp,by simp⟩,Rows.nil _,trivial,hC,trivial⟩
theorem bad_ats {wx:World} {g:Nat} (hg:wx.heap[g]?=some (.cells #[.int .i64 1,.int .i64 0,.slice none 0 0,.slice none 0 0,.slice none 0 0,.slice none 0 0,.string ⟨#[]⟩] 44)):St.Ats Ze wx [badS] (some ⟨g,0,none⟩):=by
  refine ⟨g,0,⟨none,0,none,0,none,0,none,0⟩,rfl,trivial,Zc hg,?_,?_,trivial⟩
  · intro j v hv;rw [Nat.zero_add,Za hg,←Array.getElem?_toList];exact hv
  · exact ⟨⟨QV (by omega) (by omega),Qq,by unfold MX;decide⟩,⟨by simp,⟨by simp,by simp⟩,by simp,⟨by simp,by simp⟩,by simp,⟨by simp,by simp⟩,by simp,by simp,by simp⟩,Rows.nil _,trivial,trivial,trivial⟩
set_option maxRecDepth 100000 in
theorem awake_any (w:World) (ht:Tab w):Calls Tryz.prog 5 #[] w fun e w'=>e=.returned (.bool true)∧Below w.heap.size w w':=by
  have HT:=hI ht;clear ht;have hb0:Below w.heap.size w w:=Below.refl _ _
  go_enter Tryz.func5,Tryz.ntmps5
  go_upto_region 1 with fail
  go_cut [1] (fun v1 wx=>∃ b d,v1=.pointer (some ⟨b,0,none⟩)∧KE w wx subE d b)
  case first =>
    go_wp2_with (first
      | (go_at_call 12;refine (vt _ _).mono ?_;rintro e w1 ⟨rfl,hb⟩)
      | (go_at_call 11;refine (YC 2 0 0 0 0 0 ⟨#[]⟩ [] [] ⟨none,0,none,0⟩ ⟨none,0,none,0⟩ (nmE 98) (nmE 99) ⟨none,0,none,0⟩ ⟨none,0,none,0⟩ _ (QV (by omega) (by omega)) (qV 98) (qV 99)).mono ?_;rintro e w2 ⟨d2,rfl,hat2,hb2⟩;have HAT2:=hI hat2;clear hat2)
      | (go_at_call 11;refine (YC 2 0 0 0 0 0 ⟨#[]⟩ [] [] ⟨none,0,none,0⟩ ⟨none,0,none,0⟩ (nmE 97) (YU 2 (nmE 98) (nmE 99)) ⟨none,0,none,0⟩ d2 _ (QV (by omega) (by omega)) (qV 97) HAT2.out).mono ?_;rintro e w3 ⟨d3,rfl,hat3,hb3⟩;have HAT3:=hI hat3;clear hat3))
    go_meet
    case rel=>exact ⟨_,d3,rfl,KE.mk' bw HAT3.out rfl⟩
  case rest =>
  obtain ⟨b1,d1,rfl,h1⟩:=hcut;obtain ⟨w1,rfl⟩:∃ w1:World,w1=wc:=⟨_,rfl⟩
  have hb1:=h1.below;have H1:=hI h1;clear h1;have k1:=fun i=>Za H1.out.box i;have k1z:=Zc H1.out.box
  go_upto_region 2 with fail
  go_cut [2,3] (fun v2 v3 wx=>v2=.string ⟨#[97,32,45,32,40,98,32,45,32,99,41]⟩∧v3=.int .i64 0∧Below w.heap.size w wx)
  case first =>
    go_wp2_with (go_at_call 13;go_loud (refine (Kh subE d1 _ (by decide +kernel) H1.out.at_ (HT.out.below hb1)).mono ?_;rw [ex_sub];rintro e w2 ⟨rfl,hb2⟩))
    go_meet
    case rel=>exact ⟨rfl,rfl,thru hb2 hb1⟩
  case rest =>
  obtain ⟨rfl,rfl,hbc⟩:=hcut;obtain ⟨w2,rfl⟩:∃ w2:World,w2=wc:=⟨_,rfl⟩
  clear k1 k1z H1 hb1
  go_upto_region 3 with fail
  go_cut [4] (fun v1 wx=>∃ b d,v1=.pointer (some ⟨b,0,none⟩)∧KE w wx negE d b)
  case first =>
    go_wp2_with (go_at_call 12;refine (vt _ _).mono ?_;rintro e w3 ⟨rfl,hb3⟩)
    go_meet
    case rel=>exact ⟨_,⟨some ⟨w3.heap.size,0,none⟩,1,none,0⟩,rfl,KE.mk' (x:=negE) (Zj (thru hb3 hbc) _) (single_at (k:=15) (o:=20) (s:=⟨#[]⟩) (x:=nmE 120) (dx:=⟨none,0,none,0⟩) (QV (by omega) (by omega)) (QV (by omega) (by omega)) (by unfold MX;decide) (qV 120)) (by simp)⟩
  case rest =>
  obtain ⟨b3,d3,rfl,h3⟩:=hcut;obtain ⟨w3,rfl⟩:∃ w3:World,w3=wc:=⟨_,rfl⟩
  have hb3:=h3.below;have H3:=hI h3;clear h3;have k3:=fun i=>Za H3.out.box i;have k3z:=Zc H3.out.box
  go_upto_region 4 with fail
  go_cut [5,6] (fun v2 v3 wx=>v2=.string ⟨#[49,46,50,53,32,94,32,40,45,120,41]⟩∧v3=.int .i64 0∧Below w.heap.size w wx)
  case first =>
    go_wp2_with (first
      | (go_at_call 11;refine (YC 7 0 0 0 0 0 ⟨#[]⟩ [] [] ⟨none,0,none,0⟩ ⟨none,0,none,0⟩ (.mk 4 0 0 5 4 ⟨#[]⟩ [] []) negE ⟨none,0,none,0⟩ d3 _ (QV (by omega) (by omega)) (leaf_at _ (by unfold MX;decide) (QV (by omega) (by omega)) (QV (by omega) (by omega)) (QV (by omega) (by omega))) H3.out.at_).mono ?_;rintro e w4 ⟨d4,rfl,hat4,hb4⟩;have HAT4:=hI hat4;clear hat4)
      | (go_at_call 13;go_loud (refine (Kh powE d4 _ (by decide +kernel) HAT4.out (HT.out.below (thru hb4 hb3))).mono ?_;rw [ex_pow];rintro e w5 ⟨rfl,hb5⟩)))
    go_meet
    case rel=>exact ⟨rfl,rfl,thru hb5 (thru hb4 hb3)⟩
  case rest =>
  obtain ⟨rfl,rfl,hbc⟩:=hcut;obtain ⟨w4,rfl⟩:∃ w4:World,w4=wc:=⟨_,rfl⟩
  clear k3 k3z H3 hb3
  go_upto_region 5 with fail
  go_cut [7] (fun v1 wx=>∃ b ar,v1=.pointer (some ⟨b,0,none⟩)∧Below w.heap.size w wx∧wx.heap[b]?=some (.cells #[.int .i64 11,.int .i64 0,.slice none 0 0,.slice none 0 0,.slice ar 1 1,.slice none 0 0,.string ⟨#[]⟩] 44)∧Ex.Ats Ze wx [callE] ar)
  case first =>
    go_wp2_with (go_at_call 12;refine (vt _ _).mono ?_;rintro e w5 ⟨rfl,hb5⟩;replace hbc:=thru hb5 hbc;clear hb5)
    go_meet
    case rel=>exact ⟨_,_,rfl,Zj (Zj (Zj hbc _) _) _,Zk (by simp),call_ats rfl ⟨rfl,rfl⟩⟩
  case rest =>
  obtain ⟨b5,a5,rfl,hb5,hx5,hat5⟩:=hcut;obtain ⟨w5,rfl⟩:∃ w5:World,w5=wc:=⟨_,rfl⟩
  have HX5:=hI hx5;have HAT5:=hI hat5;have k5:=fun i=>Za hx5 i;have k5z:=Zc hx5;clear hx5 hat5
  go_upto_region 6 with fail
  go_cut [8] (fun v1 wx=>∃ g,v1=.slice (some ⟨g,0,none⟩) 2 2∧Below w.heap.size w wx∧St.Ats Ze wx [locS,ifS] (some ⟨g,0,none⟩))
  case first =>
    refine reg6 (b5:=b5) (a5:=a5) (Nat.le_of_ble_eq_true rfl) rfl HX5.out (fun a wz X gL gR gS gB g hF hb9 hx8 hL hR hS hB hg=>?_);rw [hF.eq (Nat.le_of_ble_eq_true rfl)];simp only [List.foldl_cons,List.foldl_nil,Act.put,List.setIfInBounds_toArray,List.set_cons_zero,List.set_cons_succ,hx8];clear hF hx8;have hb5':=hb5
    go_wp2_with fail
    go_meet
    case rel=>exact ⟨g,rfl,thru hb9 hb5',loc_ats (ar:=a5) hg hL hR hB hS (HAT5.out.keep (Zb hb9) (fun _ h=>h))⟩
  case rest =>
  obtain ⟨g6,rfl,hb6,hat6⟩:=hcut;obtain ⟨w6,rfl⟩:∃ w6:World,w6=wc:=⟨_,rfl⟩
  have HAT6:=hI hat6;clear hat6 k5 k5z
  go_upto_region 7 with fail
  go_cut [9,10] (fun v2 v3 wx=>v2=.string ⟨#[108,111,99,97,108,32,97,32,60,99,111,110,115,116,62,10,105,102,32,97,32,116,104,101,110,10,32,32,114,101,116,117,114,110,32,102,40,98,41,10,101,110,100,10]⟩∧v3=.int .i64 0∧Below w.heap.size w wx)
  case first =>
    go_wp2_with (go_at_call 6;go_loud (refine (qS [locS,ifS] _ 2 _ (by decide +kernel) (Nat.le_refl _) (by unfold MX;decide) (by unfold LM;decide) HAT6.out (HT.out.below hb6)).mono ?_;rw [ex_two];rintro e w7 ⟨rfl,hb7⟩))
    go_meet
    case rel=>exact ⟨rfl,rfl,thru hb7 hb6⟩
  case rest =>
  obtain ⟨rfl,rfl,hb7⟩:=hcut;obtain ⟨w7,rfl⟩:∃ w7:World,w7=wc:=⟨_,rfl⟩
  go_upto_region 8 with fail
  go_cut [11,12] (fun v2 v3 wx=>v3=.int .i64 4∧Below w.heap.size w wx)
  case first =>
    go_wp2_with (go_at_call 6;go_loud (refine (qS [badS] _ 1 _ (by decide +kernel) (Nat.le_refl _) (by unfold MX;decide) (by unfold LM;decide) (bad_ats (Zk rfl)) (HT.out.below (Zj hb7 _))).mono ?_;rw [ex_bad];rintro e w8 ⟨rfl,hb8⟩))
    go_meet
    case rel=>exact ⟨rfl,thru hb8 (Zj hb7 _)⟩
  case rest =>
  obtain ⟨rfl,hb8⟩:=hcut;obtain ⟨w8,rfl⟩:∃ w8:World,w8=wc:=⟨_,rfl⟩
  clear hb7 hb6 hbc hb5
  go_upto_region 9 with fail
  go_wp2_with fail
  go_ret;exact ⟨rfl,hb8⟩
end Go.Proofs.YtdmdhopfgnlnoaaGreatDoor
