import Derived.Test.YtaddbmkkkollpaaGreatDoorCL
import Derived.Test.YtaddbmkkkollpaaGreatDoorCE
import Derived.Laws.EntriesVeiled
import Derived.Test.YtaddbmkkkollpaaGreatDoorCF
import Derived.Test.YtaddbmkkkollpaaGreatDoorC4
import Derived.Defers
import Derived.Recover
set_option linter.all false
namespace Go.Proofs.YtaddbmkkkollpaaGreatDoor
open Go.RowKit
set_option maxHeartbeats 4000000
set_option maxRecDepth 100000
structure eN (er:Int) (w:World) (e:Ending) (w':World):Prop where
  below:Below w.heap.size w w'
  ok:er=0→e=.returned (.bool true)
  no:er≠0→e=.panicked (gI er)
theorem yB {w:World} {g:Nat} {T:TypeId} (h:w.heap[g]?=some (.cells #[.string ⟨#[]⟩] T)):eD w gm (some ⟨g,0,none⟩) 1 :=
  ⟨by decide,by decide,by decide,sg _ (by decide) h,by decide⟩
theorem JV (x:Ex) (d:EA) (parent:Int) (t:cu) (a:Option Addr) (c:Nat) (w:World) (hat:x.At ak w d) (ht:eD w t a c)
    (hT:∀ y ∈ x.args,∀ dy t' a' c' w',y.At ak w' dy→eD w' t' a' c'→Calls Tryz.prog 69 #[.agg #[.int .i64 y.kind,.int .i64 y.op,.int .i64 y.line,.int .i64 y.p,.int .i64 y.q,.string y.str,.slice dy.a y.args.length dy.c,.slice dy.fa y.funcs.length dy.fc],.int .i64 x.kind,.agg #[.slice a' t'.names.length c',.string t'.method]] w' (b6 (ci t' x.kind y) w'))
    (hB:∀ f ∈ x.funcs,∀ df w',f.At ak w' df→Calls Tryz.prog 45 #[.slice df.ba f.body.length df.bc] w' (eN (iM f) w')) :
    Calls Tryz.prog 69 #[(eV x d),.int .i64 parent,.agg #[.slice a t.names.length c,.string t.method]] w (b6 (ci t parent x) w):=by
  delta eV
  have HA:=hI hat;have HA':=hI (Ex.at_iff.1 hat);have HE:=hI (uO t parent x);have hal:x.args.length≤9223372036854775807:=by have:=HA'.out.2.1.2.1.2;unfold LM at this;omega
  have hfl:x.funcs.length≤9223372036854775807:=by have:=HA'.out.2.1.2.2.2.2;unfold LM at this;omega
  have hbt:∀ w',Below w.heap.size w w'→x.At ak w' d∧eD w' t a c:=fun w' hb=>⟨hat.keep (aq hb) (fun _ h=>h),ht.below hb⟩;have HBT:=hI hbt;have HTT:=hI hT;have HBB:=hI hB;clear hat ht hbt hT hB
  go_enter Tryz.func69,Tryz.ntmps69
  go_upto_region 1 with fail
  obtain ⟨w1,hw1⟩:∃ w1:World,w1=((w.alloc (Obj.cells #[.int .i64 x.kind,.int .i64 x.op,.int .i64 x.line,.int .i64 x.p,.int .i64 x.q,.string x.str,.slice d.a x.args.length d.c,.slice d.fa x.funcs.length d.fc] 37)).alloc (Obj.cells #[.slice a t.names.length c,.string t.method] 134)):=⟨_,rfl⟩
  rw [←hw1];have HB1:=hI (show Below w.heap.size w w1 by rw [hw1];exact bw);have HBX:=hI (show w1.heap[w.heap.size]?=some (.cells #[.int .i64 x.kind,.int .i64 x.op,.int .i64 x.line,.int .i64 x.p,.int .i64 x.q,.string x.str,.slice d.a x.args.length d.c,.slice d.fa x.funcs.length d.fc] 37) by rw [hw1];exact bC (aV rfl) _);have HTX:=hI (show w1.heap[w.heap.size+1]?=some (.cells #[.slice a t.names.length c,.string t.method] 134) by rw [hw1];exact aV (by simp));clear hw1;have kb:=fun i=>au HBX.out i;have kbl:=aE HBX.out;have ktb:=fun i=>au HTX.out i;have ktl:=aE HTX.out;have HC:=hI (By x d parent t a c w1 (HBT.out w1 HB1.out).1 (HBT.out w1 HB1.out).2);by_cases hx0:gF x parent t=0
  case neg =>
    go_wp2_with (go_at_call 104;(with_reducible refine HC.out.mono ?_);rintro e w2 hres;obtain rfl:=hres.no hx0;have HB2:=hI (thru hres.below HB1.out))
    exact ⟨rfl,b6.bad HB2.out (by rw [HE.out];unfold alt;rw [if_neg hx0]) hx0⟩
  case pos =>
  go_upto_region 2 with (go_at_call 104;(with_reducible refine HC.out.mono ?_);rintro e w2 hres;obtain rfl:=hres.ok hx0;have HB2:=hI (thru hres.below HB1.out);have HBX2:=hI (aK hres.below HBX.out))
  clear HBX HTX HC kb kbl ktb ktl;rw [hx0] at HE;have kb:=fun i=>au HBX2.out i;have kbl:=aE HBX2.out
  go_wp2_with fail
  go_loopg [7,17] x.args.length (fun gk u i ws=>∃ k:Nat,gk+k=x.args.length∧i=.int .i64 k∧Below w2.heap.size w2 ws∧iC (ci gm x.kind) x.args k)
  case atStart=>exact ⟨0,by omega,rfl,Below.refl _ _,fun j _ hj=>absurd hj (by omega)⟩
  case round =>
  obtain ⟨k,hk,rfl,hbr,hno⟩:=hrel;have HBR:=hI hbr;have HNO:=hI hno;have HK:=hI hk;have HBW:=hI (thru hbr HB2.out);have HBX3:=hI (aK hbr HBX2.out);clear hbr hno kb kbl;have kb:=fun i=>au HBX3.out i;have kbl:=aE HBX3.out;by_cases hlt:k<x.args.length
  · obtain ⟨y,hy⟩:∃ y,x.args[k]?=some y:=⟨_,KP hlt⟩
    have HY:=hI hy
    have hcell:∃ b off dy,d.a=some ⟨b,off,none⟩∧b<w.heap.size∧wr.rangeAt b (off+k*8) [.int .i64 y.kind,.int .i64 y.op,.int .i64 y.line,.int .i64 y.p,.int .i64 y.q,.string y.str,.slice dy.a y.args.length dy.c,.slice dy.fa y.funcs.length dy.fc]∧y.At ak w dy:=by
      obtain ⟨b,off,h1,h2⟩:=HA'.out.2.2.1;obtain ⟨ha,-,hlb⟩:=h1 (by intro h9;rw [h9] at hlt;simp at hlt);obtain ⟨cs,hr,dy,rfl,hay⟩:=h2 k y hy;exact ⟨b,off,dy,ha,hlb,(aq HBW.out:af ak w wr).range trivial hlb hr,hay⟩
    obtain ⟨b,off,dy,ha,hlb,hr',hay⟩:=hcell;obtain ⟨a0,c00,fa0,fc0⟩:=d;subst ha;have c0:=hr' 0 _ rfl;have c1:=hr' 1 _ rfl;have c2:=hr' 2 _ rfl;have c3:=hr' 3 _ rfl;have c4:=hr' 4 _ rfl;have c5:=hr' 5 _ rfl;have c6:=hr' 6 _ rfl;have c7:=hr' 7 _ rfl;simp only [Nat.add_zero] at c0;have HAY:=hI hay;have hmem:=KR hy;have HC:=hI (fun w9 (hb:Below w.heap.size w w9) a' h9=>HTT.out y hmem dy gm a' 1 w9 (HAY.out.keep (aq hb) (fun _ h=>h)) h9);clear hr' hy hay hk hmem;by_cases h0:ci gm x.kind y=0
    case neg =>
      go_wp2_with (go_at_call 69;refine (HC.out _ (aH (aH HBW.out _) _) _ (yB (aV (by simp)))).mono ?_;rintro e w3 hres;obtain rfl:=hres.no h0;have HB4:=hI (thru hres.below (aH (aH HBW.out _) _)))
      exact ⟨rfl,b6.bad HB4.out (by rw [HE.out];unfold alt;rw [if_pos rfl,kq HNO.out HY.out h0,if_neg h0]) h0⟩
    case pos =>
    go_wp2_with (go_at_call 69;refine (HC.out _ (aH (aH HBW.out _) _) _ (yB (aV (by simp)))).mono ?_;rintro e w3 hres;obtain rfl:=hres.ok h0;have HB4:=hI (thru hres.below (aH (aH HBR.out _) _)))
    go_roundg (gk - 1)
    case rel=>exact ⟨k+1,by have:=HK.out;omega,by go_num,HB4.out,HNO.out.succ HY.out h0⟩
    case measure=>have:=HK.out;omega
  · have hke:k=x.args.length:=by omega
    have e4:aB (x.args.map (ci gm x.kind))=0:=qM (by rw [←hke];exact HNO.out);rw [e4] at HE;have hfk3:decide (k<x.args.length)=false:=by simp;omega
    clear hk hke hlt e4
    go_wp2_with fail
    go_loopg [9,31] x.funcs.length (fun gk u i ws=>∃ k:Nat,gk+k=x.funcs.length∧i=.int .i64 k∧Below w.heap.size w ws∧iC iM x.funcs k)
    case atStart=>exact ⟨0,by omega,rfl,HBW.out,fun j _ hj=>absurd hj (by omega)⟩
    case round =>
    obtain ⟨k2,hk,rfl,hbr,hno⟩:=hrel;have HB9:=hI hbr;have HN9:=hI hno;have HK9:=hI hk;clear hbr hno kb kbl;by_cases hlt:k2<x.funcs.length
    · obtain ⟨y,hy⟩:∃ y,x.funcs[k2]?=some y:=⟨_,KP hlt⟩
      have HY:=hI hy
      have hcell:∃ b off dy,d.fa=some ⟨b,off,none⟩∧b<w.heap.size∧wr.rangeAt b (off+k2*5) [.string y.name,.slice dy.a y.params.length dy.c,.bool y.vararg,.slice dy.ba y.body.length dy.bc,.int .i64 y.line]∧y.At ak w dy:=by
        obtain ⟨b,off,h1,h2⟩:=HA'.out.2.2.2;obtain ⟨ha,-,hlb⟩:=h1 (by intro h9;rw [h9] at hlt;simp at hlt);obtain ⟨cs,hr,dy,rfl,hay⟩:=h2 k2 y hy;exact ⟨b,off,dy,ha,hlb,(aq HB9.out:af ak w wr).range trivial hlb hr,hay⟩
      obtain ⟨b,off,dy,ha,hlb,hr',hay⟩:=hcell;obtain ⟨a0,c00,fa0,fc0⟩:=d;subst ha;have c0:=hr' 0 _ rfl;have c1:=hr' 1 _ rfl;have c2:=hr' 2 _ rfl;have c3:=hr' 3 _ rfl;have c4:=hr' 4 _ rfl;simp only [Nat.add_zero] at c0;have HBA:=hI (aH HB9.out (.cells #[.string y.name,.slice dy.a y.params.length dy.c,.bool y.vararg,.slice dy.ba y.body.length dy.bc,.int .i64 y.line] 81));have HC:=hI (HBB.out y (KR hy) dy _ (hay.keep (aq HBA.out) (fun _ h=>h)));clear hr' hy hay hk;by_cases h0:iM y=0
      case neg =>
        go_wp2_with (go_at_call 45;(with_reducible refine HC.out.mono ?_);rintro e w3 hres;obtain rfl:=hres.no h0;have HB4:=hI (thru hres.below HBA.out))
        exact ⟨rfl,b6.bad HB4.out (by rw [HE.out];unfold alt;rw [if_pos rfl,if_pos rfl];exact kq HN9.out HY.out h0) h0⟩
      case pos =>
      go_wp2_with (go_at_call 45;(with_reducible refine HC.out.mono ?_);rintro e w3 hres;obtain rfl:=hres.ok h0;have HB4:=hI (thru hres.below HBA.out))
      go_roundg (gk - 1)
      case rel=>exact ⟨k2+1,by have:=HK9.out;omega,by go_num,HB4.out,HN9.out.succ HY.out h0⟩
      case measure=>have:=HK9.out;omega
    · have hke:k2=x.funcs.length:=by omega
      have e4:aB (x.funcs.map iM)=0:=qM (by rw [←hke];exact HN9.out);rw [e4] at HE;have hfk4:decide (k2<x.funcs.length)=false:=by simp;omega
      clear hk hke hlt e4
      go_wp2_with fail
      go_end0;exact ⟨HB9.out,fun _=>rfl,fun h9=>absurd HE.out h9⟩
theorem eN.bad {er n:Int} {w w':World} (hb:Below w.heap.size w w') (h:er=n) (hn:n≠0):eN er w (.panicked (gI n)) w':=⟨hb,fun h9=>absurd (h.symm.trans h9) hn,fun _=>by rw [h]⟩
theorem AX (x:Ex) (d:EA) (t:cu) (a:Option Addr) (c tb:Nat) (w:World) (htb:w.heap[tb]?=some (.cells #[.slice a t.names.length c,.string t.method] 134))
    (hC:∀ w',Below w.heap.size w w'→Calls Tryz.prog 69 #[.agg #[.int .i64 x.kind,.int .i64 x.op,.int .i64 x.line,.int .i64 x.p,.int .i64 x.q,.string x.str,.slice d.a x.args.length d.c,.slice d.fa x.funcs.length d.fc],.int .i64 0,.agg #[.slice a t.names.length c,.string t.method]] w' (b6 (ci t 0 x) w')) :
    Calls Tryz.prog 68 #[(eV x d),.pointer (some ⟨tb,0,none⟩)] w (eN (ci t 0 x) w):=by
  delta eV
  have HC:=hI hC;have HTB:=hI htb;have kt:=fun i=>au HTB.out i;have ktl:=aE HTB.out;clear hC htb;by_cases h0:ci t 0 x=0
  · go_enter Tryz.func68,Tryz.ntmps68
    go_wp2_with (go_at_call 69;(with_reducible refine (HC.out _ bw).mono ?_);rintro e w3 hres;obtain rfl:=hres.ok h0;have HB4:=hI (thru hres.below (bw:Below w.heap.size w _)))
    go_ret;exact ⟨HB4.out,fun _=>rfl,fun h9=>absurd h0 h9⟩
  · go_enter Tryz.func68,Tryz.ntmps68
    go_wp2_with (go_at_call 69;(with_reducible refine (HC.out _ bw).mono ?_);rintro e w3 hres;obtain rfl:=hres.no h0;have HB4:=hI (thru hres.below (bw:Below w.heap.size w _)))
    exact ⟨rfl,eN.bad HB4.out rfl h0⟩
theorem qD (last:Bool) (s:St):eF last s=alt (et s last) (aB ((bj s).map (cL (ci (bK s) 0) (fun b=>aB (bN b))))):=by
  rw [uL];unfold bj;rw [xf,List.map_map,List.map_map,List.map_map];rfl
theorem qE:∀ {l:List St} {k:Nat} {s:St},(∀ j s,j<k→l[j]?=some s→eF (decide (j+1=l.length)) s=0)→l[k]?=some s→eF (decide (k+1=l.length)) s≠0→aB (bN l)=eF (decide (k+1=l.length)) s
  | y::r,0,s,h,hs,hp=>by
    simp at hs;subst hs;have e:decide (0+1=(y::r).length)=r.isEmpty:=by cases r <;> simp
    rw [e] at hp ⊢;simp only [bN,aB];unfold alt;rw [if_neg hp]
  | y::r,k+1,s,h,hs,hp=>by
    have h0:=h 0 y (by omega) rfl;have e:decide (0+1=(y::r).length)=r.isEmpty:=by cases r <;> simp
    rw [e] at h0;have e2:∀ j,decide (j+1+1=(y::r).length)=decide (j+1=r.length):=fun j=>by simp
    rw [e2] at hp ⊢;simp only [bN,aB];unfold alt;rw [if_pos h0];exact qE (fun j s hj hs=>by rw [←e2];exact h (j+1) s (by omega) (by simpa using hs)) (by simpa using hs) hp
theorem uN:∀ {l:List St},(∀ j s,j<l.length→l[j]?=some s→eF (decide (j+1=l.length)) s=0)→aB (bN l)=0
  | [],h=>rfl
  | y::r,h=>by
    have h0:=h 0 y (by simp) rfl;have e:decide (0+1=(y::r).length)=r.isEmpty:=by cases r <;> simp
    rw [e] at h0;have e2:∀ j,decide (j+1+1=(y::r).length)=decide (j+1=r.length):=fun j=>by simp
    simp only [bN,aB];unfold alt;rw [if_pos h0];exact uN fun j s hj hs=>by rw [←e2];exact h (j+1) s (by simp;omega) (by simpa using hs)
theorem Ct:∀ args w,(callFunc 68 args).run Tryz.prog w=.ok (.enter 68 args) w:=enters_of Tryz.func68 (by kernel_rfl) rfl
theorem Cs:∀ args w,(callFunc 45 args).run Tryz.prog w=.ok (.enter 45 args) w:=enters_of Tryz.func45 (by kernel_rfl) rfl
theorem eN.res {er:Int} {w:World} {e:Ending} {w':World} (v:Int) (h:eN er w e w'):gx none v er (.bool true) w e w':=⟨Gr.of_below h.below,fun h0=>⟨h.ok h0,fun b hb=>by cases hb⟩,h.no⟩
theorem tZ (l:List St) (la:Option Addr) (lc:Nat) (w:World) (hl:l.length≤lc) (hlm:l.length*128≤LM) (hrow:aj ak w 7 (ip ak w) l la) (hw:∀ s ∈ l,s.wz≤1073741824)
    (hT:∀ s ∈ l,∀ x,x ∈ s.left∨x ∈ s.right→∀ d t a c w',x.At ak w' d→eD w' t a c→Calls Tryz.prog 69 #[.agg #[.int .i64 x.kind,.int .i64 x.op,.int .i64 x.line,.int .i64 x.p,.int .i64 x.q,.string x.str,.slice d.a x.args.length d.c,.slice d.fa x.funcs.length d.fc],.int .i64 0,.agg #[.slice a t.names.length c,.string t.method]] w' (b6 (ci t 0 x) w'))
    (hB:∀ s ∈ l,∀ b ∈ s.blocks,∀ a c w',b.length≤c→c≤MX→b.length*128≤LM→aj ak w' 7 (ip ak w') b a→Calls Tryz.prog 45 #[.slice a b.length c] w' (eN (aB (bN b)) w')) :
    Calls Tryz.prog 45 #[.slice la l.length lc] w (eN (aB (bN l)) w):=by
  have hll:l.length≤9223372036854775807:=by unfold LM at hlm;omega
  have HR:=hI hrow;have HTT:=hI hT;have HBB:=hI hB;have HWZ:=hI hw;clear hrow hT hB hw
  go_enter Tryz.func45,Tryz.ntmps45
  go_wp2_with fail
  go_loopg [3,4,5,8] l.length (fun gk u3 u4 u5 i wr=>∃ k:Nat,gk+k=l.length∧i=.int .i64 k∧Below w.heap.size w wr∧∀ j s,j<k→l[j]?=some s→eF (decide (j+1=l.length)) s=0)
  case atStart=>exact ⟨0,by omega,rfl,Below.refl _ _,fun j _ hj=>absurd hj (by omega)⟩
  case round =>
  obtain ⟨k,hk,rfl,hbr,hno⟩:=hrel;have HBW:=hI hbr;have HNO:=hI hno;have HK:=hI hk;clear hbr hno;by_cases hlt:k<l.length
  · obtain ⟨s,hs⟩:∃ s,l[k]?=some s:=⟨_,KP hlt⟩
    have HS:=hI hs;have HM:=hI (KR hs)
    have hcell:∃ b off d,la=some ⟨b,off,none⟩∧b<w.heap.size∧wr.rangeAt b (off+k*7) [.int .i64 s.kind,.int .i64 s.line,.slice d.na s.names.length d.nc,.slice d.la s.left.length d.lc,.slice d.ra s.right.length d.rc,.slice d.ba s.blocks.length d.bc,.string s.label]∧s.At ak w d:=by
      obtain ⟨b,off,h1,h2⟩:=HR.out;obtain ⟨ha,-,hlb⟩:=h1 (by intro h9;rw [h9] at hlt;simp at hlt);obtain ⟨cs,hr,d,rfl,hat⟩:=h2 k s hs;exact ⟨b,off,d,ha,hlb,(aq HBW.out:af ak w wr).range trivial hlb hr,hat⟩
    obtain ⟨b,off,d,rfl,hlb,hr',hat⟩:=hcell;have c0:=hr' 0 _ rfl;have c1:=hr' 1 _ rfl;have c2:=hr' 2 _ rfl;have c3:=hr' 3 _ rfl;have c4:=hr' 4 _ rfl;have c5:=hr' 5 _ rfl;have c6:=hr' 6 _ rfl;simp only [Nat.add_zero] at c0;have HAT:=hI hat;have HBA:=hI (aH HBW.out (.cells #[.int .i64 s.kind,.int .i64 s.line,.slice d.na s.names.length d.nc,.slice d.la s.left.length d.lc,.slice d.ra s.right.length d.rc,.slice d.ba s.blocks.length d.bc,.string s.label] 64));have HC:=hI (BB l _ lc k s _ hl hlm (HR.out.keep (aq HBA.out) (fun _ _=>trivial) (fun _ _ _ h=>by obtain ⟨d9,q1,q2⟩:=h;exact ⟨d9,q1,q2.keep (aq HBA.out) (fun _ h=>h)⟩)) hs);clear hr' hat hk hs;by_cases h0:et s (decide (k+1=l.length))=0
    case neg =>
      go_wp2_with (go_at_call 66;(with_reducible refine HC.out.mono ?_);rintro e w3 hres;obtain rfl:=hres.no h0;have HB4:=hI (thru hres.below HBA.out))
      refine ⟨rfl,eN.bad HB4.out ?_ h0⟩;have he:eF (decide (k+1=l.length)) s=et s (decide (k+1=l.length)):=by rw [qD];unfold alt;rw [if_neg h0]
      rw [←he];exact qE HNO.out HS.out (by rw [he];exact h0)
    case pos =>
    go_wp2_with (go_at_call 66;(with_reducible refine HC.out.mono ?_);rintro e w3 hres;obtain rfl:=hres.ok h0;have HB4:=hI (thru hres.below HBA.out);have HB4X:=hI (aK hres.below (aV rfl));have kb:=fun i=>au HB4X.out i;have kbl:=aE HB4X.out)
    have HTI:=hI (JF s d w3 (HAT.out.keep (aq HB4.out) (fun _ h=>h)) (HWZ.out s HM.out))
    go_wp2_with (go_at_call 67;(with_reducible refine HTI.out.mono ?_);rintro e w4 hti;obtain ⟨ta,tc,rfl,htt⟩:=hti.run;have HTTL:=hI htt;have HB5:=hI (thru hti.below HB4.out);have HB5X:=hI (aK hti.below HB4X.out);have kb:=fun i=>au HB5X.out i;have kbl:=aE HB5X.out)
    have HTB:=hI (aV rfl:(w4.alloc (.cells #[.slice ta (bK s).names.length tc,.string (bK s).method] 134)).heap[w4.heap.size]?=_);have HB6:=hI (aH HB5.out (.cells #[.slice ta (bK s).names.length tc,.string (bK s).method] 134));have HTT6:=hI (HTTL.out.below (aH (Below.refl _ _) (.cells #[.slice ta (bK s).names.length tc,.string (bK s).method] 134)))
    have HST:=hI (sp (row:=none) (stE:=fun v _=>v) (stB:=fun v _=>v) (erE:=ci (bK s) 0) (erB:=fun b=>aB (bN b)) (fste:=#[]) (cape:=#[.pointer (some ⟨w4.heap.size,0,none⟩)]) (fstb:=#[]) (capb:=#[]) Ct Cs s d _ 0 (HAT.out.keep (aq HB6.out) (fun _ _=>by simp)) (fun b h=>by cases h)
      (fun x hx v dx w9 hg hax _=>(AX x dx (bK s) ta tc w4.heap.size w9 (aK hg.none_below HTB.out) (fun w' hb=>HTT.out s HM.out x hx dx _ _ _ w' (hax.keep (aq hb) (fun _ _=>trivial)) ((HTT6.out.below hg.none_below).below hb))).mono fun e w' h=>h.res v)
      (fun b hb v ab cb w9 hg h1 h2 h3 hab _=>(HBB.out s HM.out b hb ab cb w9 h1 h2 h3 (St.ats_iff.1 (St.Ats.keep (af.refl _ _) (fun _ _=>trivial) hab))).mono fun e w' h=>h.res v))
    by_cases h1:aB ((bj s).map (cL (ci (bK s) 0) (fun b=>aB (bN b))))=0
    case neg =>
      go_wp2_with (go_at_call 26;(refine HST.out.mono ?_);rintro e w7 hres;obtain rfl:=hres.no h1;have HB7:=hI (thru hres.gr.none_below HB6.out))
      refine ⟨rfl,eN.bad HB7.out ?_ h1⟩;have he:=qD (decide (k+1=l.length)) s;unfold alt at he;rw [if_pos h0] at he;rw [←he];exact qE HNO.out HS.out (by rw [he];exact h1)
    case pos =>
    go_wp2_with (go_at_call 26;(refine HST.out.mono ?_);rintro e w7 hres;obtain rfl:=(hres.ok h1).1;have HB7:=hI (thru hres.gr.none_below HB6.out))
    go_roundg (gk - 1)
    case rel =>
      refine ⟨k+1,by have:=HK.out;omega,by go_num,HB7.out,fun j s9 hj hs9=>?_⟩;rcases (by omega:j<k∨j=k) with h9|rfl
      · exact HNO.out j s9 h9 hs9
      · rw [HS.out] at hs9;cases hs9;rw [qD];unfold alt;rw [if_pos h0];exact h1
    case measure=>have:=HK.out;omega
  · have hke:k=l.length:=by omega
    have h0:aB (bN l)=0:=uN (fun j s9 hj=>HNO.out j s9 (by omega));have hfk:decide (k<l.length)=false:=by simp;omega
    clear hk hke hlt
    go_wp2_with fail
    go_ret;exact ⟨HBW.out,fun _=>rfl,fun h9=>absurd h0 h9⟩
def zX (n:Nat):Prop:=∀ (x:Ex) (d:EA) (parent:Int) (t:cu) (a:Option Addr) (c:Nat) (w:World),x.wz≤n→x.At ak w d→eD w t a c→Calls Tryz.prog 69 #[.agg #[.int .i64 x.kind,.int .i64 x.op,.int .i64 x.line,.int .i64 x.p,.int .i64 x.q,.string x.str,.slice d.a x.args.length d.c,.slice d.fa x.funcs.length d.fc],.int .i64 parent,.agg #[.slice a t.names.length c,.string t.method]] w (b6 (ci t parent x) w)
def zO (n:Nat):Prop:=∀ (l:List St) (a:Option Addr) (c:Nat) (w:World),St.wzs l≤n→l.length≤c→l.length*128≤LM→aj ak w 7 (ip ak w) l a→Calls Tryz.prog 45 #[.slice a l.length c] w (eN (aB (bN l)) w)
theorem Ex.wz_pos (x:Ex):1≤x.wz:=by rw [x.wz_eq];omega
theorem BD (n:Nat) (hn:n≤1073741824):zX n∧zO n:=by
  induction n with
  | zero =>
    refine ⟨fun x d p t a c w h=>absurd h (by have:=x.wz_pos;omega),fun l a c w h h1 h2 hr=>?_⟩;refine tZ l a c w h1 h2 hr (fun s hs=>by have:=St.wz_mem hs;omega) (fun s hs x hx d t a c w' _ _=>?_) (fun s hs b hb a c w' _ _ _ _=>?_)
    · exfalso;have:=St.wz_mem hs;rw [s.wz_eq] at this;omega
    · exfalso;have:=St.wz_mem hs;rw [s.wz_eq] at this;omega
  | succ n ih =>
    obtain ⟨hT,hB⟩:=ih (by omega);refine ⟨fun x d p t a c w h hat ht=>?_,fun l a c w h h1 h2 hr=>?_⟩
    · refine JV x d p t a c w hat ht (fun y hy dy t' a' c' w' hay hat'=>hT y dy _ t' a' c' w' (by have:=Ex.argsW hy;omega) hay hat') (fun f hf df w' haf=>?_);obtain ⟨nm,ps,va,body,ln⟩:=f;have hb:=Ex.bodyW hf;simp only [Fn.At] at haf;rw [uK];exact hB body df.ba df.bc w' (by simp only [Fn.body] at hb;omega) haf.2.1.2.2.1 haf.2.1.2.2.2.2 (St.ats_iff.1 haf.2.2.2)
    · refine tZ l a c w h1 h2 hr (fun s hs=>by have:=St.wz_mem hs;omega) (fun s hs x hx d t a c w' hax hat'=>?_) (fun s hs b hb a c w' g1 g2 g3 hr'=>?_)
      · have h3:=St.wz_mem hs;have h4:x.wz<s.wz:=by rcases hx with hx|hx;exact St.leftW hx;exact St.rightW hx
        exact hT x d 0 t a c w' (by omega) hax hat'
      · have h3:=St.wz_mem hs;have h4:=St.blocksW hb;exact hB b a c w' (by omega) g1 g3 hr'
theorem A3 (l:List St) (a:Option Addr) (c:Nat) (w:World) (hw:St.wzs l≤1073741824) (h1:l.length≤c) (h2:l.length*128≤LM) (hat:St.Ats ak w l a):Calls Tryz.prog 45 #[.slice a l.length c] w (eN (aB (bN l)) w) :=
  (BD _ hw).2 l a c w (KU _) h1 h2 (St.ats_iff.1 hat)
theorem z7 (n:Int) (w:World):Sem.run Tryz.prog (Instr.typeAssert (.iface 110 (.agg #[.int .i64 n])) 20 110 false) w=.ok (.agg #[.int .i64 n]) w:=by kernel_rfl
theorem CX (n:Int) (w:World):Sem.run Tryz.prog (Instr.field 110 (.agg #[.int .i64 n]) 0) w=.ok (.int .i64 n) w:=by kernel_rfl
theorem Bu (p:Addr) (x n:Int) (w:World) (hc:w.cell? p=some (.int .i64 x)) (hz:w.frozen? p=false) :
    CallsD Tryz.prog 44 #[.pointer (some p)] (.panicking (gI n)) w fun e u' w' =>
      e=.returned (.tuple #[])∧u'=.panicking [{ v:=.iface 110 (.agg #[.int .i64 n]),recovered:=true }]∧w'=w.setCell p (.int .i64 n):=by
  unfold gI;refine callsD_of_wpS Tryz.func44 rfl fun c₀ cs hu=>?_;apply wpS_seq;apply wpS_region;simp [wpOpsS,go_sem,recoverD,hu,Tryz.ntmps44,Exit.thenS];apply wpS_seq;apply wpS_region;simp [wpOpsS,go_sem,hu,Exit.thenS];refine wpS_cond (t:=true) (by simp [Act.eval,Array.replicate]) ?_;simp only [if_true];apply wpS_region;simp [wpOpsS,go_sem,z7,CX,hc,hz,bodyPostS,results,Tryz.results44]
theorem Bs (p:Addr) (w:World) :
    CallsD Tryz.prog 44 #[.pointer (some p)] .returning w fun e u' w'=>e=.returned (.tuple #[])∧u'=.returning∧w'=w:=by
  refine callsD_of_wpS Tryz.func44 rfl fun c₀ cs hu=>?_;apply wpS_seq;apply wpS_region;simp [wpOpsS,go_sem,recoverD,hu,Tryz.ntmps44,Exit.thenS];apply wpS_seq;apply wpS_region;simp [wpOpsS,go_sem,hu,Exit.thenS];refine wpS_cond (t:=false) (by simp [Act.eval,Array.replicate]) ?_;simp only [Bool.false_eq_true,if_false];refine wpS_of_wp (wp_skip ?_);cases c₀;simp_all [bodyPostS,results,Tryz.results44]
mutual
theorem FB:∀ x:Ex,mE x≤x.sz
  | .mk _ _ _ _ _ s a f=>by have:=oV a;have:=wF f;simp only [Ex.sz,mE];omega
theorem oV:∀ l:List Ex,cO l≤Ex.szs l
  | []=>KU _
  | x::r=>by have:=FB x;have:=oV r;simp only [Ex.szs,cO];omega
theorem FE:∀ x:Fn,mF x≤x.sz
  | .mk _ _ _ b _=>by have:=oW b;simp only [Fn.sz,mF];omega
theorem wF:∀ l:List Fn,gg l≤Fn.szs l
  | []=>KU _
  | x::r=>by have:=FE x;have:=wF r;simp only [Fn.szs,gg];omega
theorem FI:∀ x:St,mS x≤x.sz
  | .mk _ _ _ l r b _=>by have:=oV l;have:=oV r;have:=wD b;simp only [St.sz,mS];omega
theorem oW:∀ l:List St,cz l≤St.szs l
  | []=>KU _
  | x::r=>by have:=FI x;have:=oW r;simp only [St.szs,cz];omega
theorem wD:∀ l:List (List St),ge l≤St.szss l
  | []=>KU _
  | x::r=>by have:=oW x;have:=wD r;simp only [St.szss,ge];omega
end
theorem Iz (b:List St) (a:Option Addr) (c:Nat) (w:World) (hw:St.wzs b≤1073741824) (h1:b.length≤c) (h2:c≤MX) (h3:b.length*128≤LM) (hat:St.Ats ak w b a) :
    Calls Tryz.prog 42 #[.slice a b.length c] w fun e w'=>e=.returned (.int .i64 ((cz b:Nat):Int))∧Below w.heap.size w w':=by
  have h9:=JX b a c w h1 h2 h3 hat
  have e:dP 0 (cz b)=((cz b:Nat):Int):=by
    have:=oW b;have:=St.szs_wz b;unfold dP wrap64;split <;> omega
  rw [e] at h9;exact h9
def ei (b:List St):Int:=if 65536<cz b∨64<1+bM b then 3 else aB (bN b)
theorem JC (b:List St) (a:Option Addr) (c:Nat) (w:World) (hw:St.wzs b≤1073741824) (h1:b.length≤c) (h2:c≤MX) (h3:b.length*128≤LM) (hat:St.Ats ak w b a) :
    Calls Tryz.prog 30 #[.slice a b.length c] w fun e w'=>e=.returned (.int .i64 (ei b))∧Below w.heap.size w w':=by
  have hmf:∀ (fn:Go.Fn) (first cap:Array Value) (w:World),(Instr.makeFunc fn first cap).run Tryz.prog w=.ok (.func fn first cap) w:=fun _ _ _ _=>rfl;obtain ⟨m,hm⟩:∃ m,m=cz b:=⟨_,rfl⟩
  obtain ⟨dd,hd⟩:∃ m,m=1+bM b:=⟨_,rfl⟩
  obtain ⟨er,her⟩:∃ m,m=aB (bN b):=⟨_,rfl⟩
  have HV:=hI (show ei b=if 65536<m∨64<dd then 3 else er by rw [hm,hd,her];rfl);have HS:∀ w',Below w.heap.size w w'→Hid (Calls Tryz.prog 42 #[.slice a b.length c] w' fun e w''=>e=.returned (.int .i64 (m:Int))∧Below w'.heap.size w' w''):=fun w' h=>hI (by rw [hm];exact Iz b a c w' hw h1 h2 h3 (St.Ats.keep (aq h) (fun _ _=>trivial) hat));have HD:∀ w',Below w.heap.size w w'→Hid (Calls Tryz.prog 43 #[.slice a b.length c] w' fun e w''=>e=.returned (.int .i64 (dd:Int))∧Below w'.heap.size w' w''):=fun w' h=>hI (by rw [hd];exact B3 b a c w' (by have:=St.szs_wz b;omega) h1 h2 h3 (St.Ats.keep (aq h) (fun _ _=>trivial) hat));have HB:∀ w',Below w.heap.size w w'→Hid (Calls Tryz.prog 45 #[.slice a b.length c] w' (eN er w')):=fun w' h=>hI (by rw [her];exact A3 b a c w' hw h1 h3 (St.Ats.keep (aq h) (fun _ _=>trivial) hat));clear hm hd her hw h1 h2 h3 hat;rw [HV.out];by_cases hbig:65536<m
  · have t1:decide ((65536:Int)<(m:Int))=true:=by simp;omega
    rw [if_pos (.inl hbig)];clear HV hbig
    go_enter_defers Tryz.func30,Tryz.ntmps30
    go_wp2_with (first
      | (go_at_call 42;refine ((HS _ bw).out).mono ?_;rintro e w2 ⟨rfl,hb2⟩;have hbx:=aK hb2 (aV rfl);have kb:=fun i=>au hbx i;have kbf:=bi hbx;have kbz:=aE hbx;have HBX:=hI hbx;clear hbx))
    simp [bodyPostD,Leaves,settle,results,Tryz.results30,go_sem,kb];exact bw
  · have t1:decide ((65536:Int)<(m:Int))=false:=by simp;omega
    by_cases hdeep:64<dd
    · have t2:decide ((64:Int)<(dd:Int))=true:=by simp;omega
      rw [if_pos (.inr hdeep)];clear HV hbig hdeep
      go_enter_defers Tryz.func30,Tryz.ntmps30
      go_wp2_with (first
        | (go_at_call 42;refine ((HS _ bw).out).mono ?_;rintro e w2 ⟨rfl,hb2⟩;have hbx:=aK hb2 (aV rfl);have HBX:=hI hbx;clear hbx)
        | (go_at_call 43;refine ((HD _ bw).out).mono ?_;rintro e w3 ⟨rfl,hb3⟩;have hbx:=aK hb3 HBX.out;have HBX3:=hI hbx;have kb:=fun i=>au hbx i;have kbf:=bi hbx;have kbz:=aE hbx;clear hbx))
      simp [bodyPostD,Leaves,settle,results,Tryz.results30,go_sem,kb];exact bw
    · have t2:decide ((64:Int)<(dd:Int))=false:=by simp;omega
      rw [if_neg (by omega)];by_cases h0:er=0
      · go_enter_defers Tryz.func30,Tryz.ntmps30
        go_wp2_with (first
          | (go_at_call 42;refine ((HS _ bw).out).mono ?_;rintro e w2 ⟨rfl,hb2⟩;have hbx:=aK hb2 (aV rfl);have HBX:=hI hbx;clear hbx)
          | (go_at_call 43;refine ((HD _ bw).out).mono ?_;rintro e w3 ⟨rfl,hb3⟩;have hbx:=aK hb3 HBX.out;have HBX3:=hI hbx;clear hbx)
          | (go_at_call 45;refine ((HB _ bw).out).mono ?_;rintro e w4 hres;obtain rfl:=hres.ok h0;have hbx:=aK hres.below HBX3.out;have HBX4:=hI hbx;have kb:=fun i=>au hbx i;have kbf:=bi hbx;have kbz:=aE hbx;have HB4:=hI hres.below;clear hres hbx))
        refine leaves_cons (f:=44) (args:=#[.pointer (some ⟨w.heap.size,0,none⟩)]) (by simp) (by simp [go_sem]) ?_;refine (Bs ⟨w.heap.size,0,none⟩ _).mono ?_;rintro e u' w'' ⟨rfl,rfl,rfl⟩;have hb5:=HB4.out;simp [Leaves,settle,results,Tryz.results30,go_sem,kb,h0];exact bw
      · go_enter_defers Tryz.func30,Tryz.ntmps30
        go_wp2_with (first
          | (go_at_call 42;refine ((HS _ bw).out).mono ?_;rintro e w2 ⟨rfl,hb2⟩;have hbx:=aK hb2 (aV rfl);have HBX:=hI hbx;clear hbx)
          | (go_at_call 43;refine ((HD _ bw).out).mono ?_;rintro e w3 ⟨rfl,hb3⟩;have hbx:=aK hb3 HBX.out;have HBX3:=hI hbx;clear hbx)
          | (go_at_call 45;refine ((HB _ bw).out).mono ?_;rintro e w4 hres;obtain rfl:=hres.no h0;have hbx:=aK hres.below HBX3.out;have HBX4:=hI hbx;have kb:=fun i=>au hbx i;have kbf:=bi hbx;have kbz:=aE hbx;have HB4:=hI hres.below;clear hres hbx))
        refine leaves_cons (f:=44) (args:=#[.pointer (some ⟨w.heap.size,0,none⟩)]) (by simp) (by simp [go_sem]) ?_;refine (Bu ⟨w.heap.size,0,none⟩ 0 er _ (kb 0) (kbf 0)).mono ?_;rintro e u' w'' ⟨rfl,rfl,rfl⟩;have hb5:=HB4.out;simp [Leaves,settle,results,Tryz.results30,go_sem,kb];exact bw
