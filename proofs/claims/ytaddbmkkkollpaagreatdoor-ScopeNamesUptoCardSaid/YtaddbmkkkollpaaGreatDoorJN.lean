/- Contract of the parser's method function. -/
import Derived.Test.YtaddbmkkkollpaaGreatDoorJH
namespace Go.Proofs.YtaddbmkkkollpaaGreatDoor
open Go.RowKit
set_option linter.unusedVariables false
set_option linter.unusedSimpArgs false
theorem take_mem {C:PC} {w:World} {l l1:List Tk} {t:Tk} (h:C.At w l) (hm:takeR l=.ok t l1):t ∈ C.L:=by
  cases l with
  | nil=>cases hm
  | cons t' r=>cases hm;obtain ⟨i,-,-,ht,-⟩:=h.cut;exact List.mem_of_getElem? ht
theorem name_mem {C:PC} {w:World} {l l1:List Tk} {t:Tk} (h:C.At w l) (hm:nameR l=.ok t l1):t ∈ C.L:=by
  unfold nameR at hm;split at hm
  · exact take_mem h hm
  · cases hm
def pathM (m:Bool) (n:Nat) (e:Ex) (s:Sb) (l:List Tk):Res (Ex × Sb × Bool):=match m with
  | true=>.ok (e,s,true) l
  | false=>pathG n e s l
abbrev pathB (k:Nat) (e:Ex) (s:Sb) (l:List Tk) (f:Ex × Sb × Bool→List Tk→Res St):Res St:=(takeR l).bind fun t l1=>(nameR l1).bind fun n l2=>(pathM (t.text.toList==[58]) k (ndA 8 t.line [e,ndS 5 n.line n.text]) (s++t.text.data.toList++n.text.data.toList) l2).bind f
theorem path_step (k:Nat) (e:Ex) (s:Sb) (l:List Tk) (f:Ex × Sb × Bool→List Tk→Res St):(pathG (k+1) e s l).bind f=if isB [46] l=true then pathB k e s l f else if isB [58] l=true then pathB k e s l f else f (e,s,false) l:=by
  have h1:(isB [46] l=true∨isB [58] l=true)→((nameR l.tail).bind fun n l1=>if (nextK l).text.data.toList=[58] then Res.ok (ndA 8 (nextK l).line [e,ndS 5 n.line n.text],s++(nextK l).text.data.toList++n.text.data.toList,true) l1 else pathG k (ndA 8 (nextK l).line [e,ndS 5 n.line n.text]) (s++(nextK l).text.data.toList++n.text.data.toList) l1).bind f=pathB k e s l f:=fun h=>by
    cases l with
    | nil=>rcases h with h|h <;> cases h
    | cons t r =>
      show ((nameR r).bind _).bind f=(nameR r).bind _;rw [bind_bind];refine bind_congr fun n l2=>?_;show (if t.text.data.toList=[58] then _ else _:Res (Ex × Sb × Bool)).bind f=(pathM (t.text.toList==[58]) _ _ _ _).bind f;by_cases h5:t.text.data.toList=[58]
      · rw [if_pos h5,show (t.text.toList==[58])=true from by rw [ByteArray.toList_eq,h5];rfl];rfl
      · rw [if_neg h5,show (t.text.toList==[58])=false from ne_list h5];rfl
  rw [pathG];by_cases h:isB [46] l=true
  · rw [if_pos (.inl h),if_pos h];exact h1 (.inl h)
  · rw [if_neg h];by_cases h2:isB [58] l=true
    · rw [if_pos (.inr h2),if_pos h2];exact h1 (.inr h2)
    · rw [if_neg (by rintro (h3|h3);exact h h3;exact h2 h3),if_neg h2];rfl
abbrev funF (B:BF) (line:Int) (x:Ex × Sb × Bool) (l3:List Tk):Res St:=(cloR B line (txA x.2.1) x.2.2 l3).bind fun c l4=>.ok (.mk 3 line [] [x.1] [c] [] ⟨#[]⟩) l4
theorem func_eq (B:BF) (l:List Tk):funcR B l=(takeR l).bind fun f l1=>(nameR l1).bind fun t l2=>(pathM false (l2.length+1) (ndS 7 t.line t.text) t.text.data.toList l2).bind (funF B f.line):=rfl
structure FunH (C:PC) (w:World) (b2:Nat) (wr:World) (x:Ex) (d:EA):Prop where
  gs:Gs C.p w wr
  p1:C.p<w.heap.size
  b02:w.heap.size<b2
  bw:b2<wr.heap.size
  res:wr.heap[w.heap.size]?=some (.cells zeroS 64)
  box:wr.heap[b2]?=some (.cells #[.int .i64 x.kind,.int .i64 x.op,.int .i64 x.line,.int .i64 x.p,.int .i64 x.q,.string x.str,.slice d.a x.args.length d.c,.slice d.fa x.funcs.length d.fc] 37)
  at_:x.At (From (b2+1)) wr d
theorem FunH.go {C:PC} {w wr w':World} {b2:Nat} {x:Ex} {d:EA} (h:FunH C w b2 wr x d) (hg:Gs C.p wr w'):FunH C w b2 w' x d:=by
  have h1:=h.p1;have h2:=h.b02;exact ⟨hg.thru h.gs,h1,h2,Nat.lt_of_lt_of_le h.bw hg.size,hg.box h.res (by omega),hg.box h.box (by omega),h.at_.keep (hg.keep (by simp [From];omega)) (fun _ h=>h)⟩
theorem FunH.put {C:PC} {w wr W:World} {b2:Nat} {x y:Ex} {d dy:EA} (h:FunH C w b2 wr x d)
    (hW:Gs C.p (st8 wr b2 (.int .i64 y.kind) (.int .i64 y.op) (.int .i64 y.line) (.int .i64 y.p) (.int .i64 y.q) (.string y.str) (.slice dy.a y.args.length dy.c) (.slice dy.fa y.funcs.length dy.fc)) W) (hy:y.At (From (b2+1)) W dy):FunH C w b2 W y dy:=by
  have h1:=h.p1;have h2:=h.b02;exact ⟨hW.thru (h.gs.st8 (by omega) _ _ _ _ _ _ _ _),h1,h2,Nat.lt_of_lt_of_le (by rw [st8_size];exact h.bw) hW.size,hW.box (bx_st8 h.res (by omega) _ _ _ _ _ _ _ _) (by omega),hW.box (set8h h.box _ _ _ _ _ _ _ _) (by omega),hy⟩
theorem yJNa {P:Prop} (h:P:=by
  go_upto_region 12 with (first
    | (go_at_call 88;(with_reducible refine (Tells.step HR (take_any C l' _ (HA.out.ca kw))).mono ?_);rintro e w6 (⟨l6,rfl,HR,hg6⟩|⟨x6,l6,u,rfl,⟨rfl,hw6⟩,HM6,HR,HA,hg6⟩);rotate_left);(have HA7:=HA;have HW6:=hI hw6;clear hw6;have ht6:=HT.out _ (take_mem (HA6.out) HM6.out);have hFH:=hI (hFH.out.go hg6);have hz6:=hg6.size;have hs6:l6.length+1≤l'.length:=take_le _ _ _ HM6.out;have HEB:=hI hFH.out.box;have ke:=fun i=>box_cell HEB.out i;have kef:=fun i=>box_free HEB.out i;have kez:=box_lt HEB.out)
    | (go_at_call 97;(with_reducible refine (Tells.step HR (name_at C l6 _ (HA.out.ca kw))).mono ?_);rintro e w7 (⟨l7,rfl,HR,hg7⟩|⟨x7,l7,u,rfl,⟨rfl,hw7⟩,HM7,HR,HA,hg7⟩);rotate_left);(have HW7:=hI hw7;clear hw7;have ht7:=HT.out _ (name_mem HA7.out HM7.out);have hFH:=hI ((hFH.out.go (gw:Gs C.p w6 (w6.alloc (.cells #[.int .i64 x6.kind,.string x6.text,.int .i64 x6.line,.int .i64 x6.pos] 163)))).go hg7);have hz7:=hg7.size;simp at hz7;have hs7:l7.length+1≤l6.length:=name_le _ _ _ HM7.out;have HEB:=hI hFH.out.box;have HTK:=hI (hg7.box (box_at rfl) (by omega));have ke:=fun i=>box_cell HEB.out i;have kef:=fun i=>box_free HEB.out i;have kez:=box_lt HEB.out;have kt:=fun i=>box_cell HTK.out i;have ktf:=fun i=>box_free HTK.out i;have ktz:=box_lt HTK.out;have kew:=Nat.lt_of_succ_lt kez))
  case inl=>exact ⟨rfl,Tells.no HR gw⟩
  case inl=>exact ⟨rfl,Tells.no HR gw⟩
  have n1:¬ 9223372036854775807<x6.text.size+x7.text.size:=by omega
  have n2:¬ 9223372036854775807<s.size+(x6.text.size+x7.text.size):=by omega
  have HSL:=hI (And.intro hsl (And.intro ht6 ht7));clear hsl ht6 ht7 ht3;have q3:w3.heap.size+1<w6.heap.size:=by omega
  have q4:w6.heap.size<w7.heap.size:=by omega
  have hFW:FunH C w (w3.heap.size+1) ((((st8 w7 (w3.heap.size+1) (.int .i64 8) (.int .i64 0) (.int .i64 x6.line) (.int .i64 0) (.int .i64 0) (.string ⟨#[]⟩) (.slice (some ⟨w7.heap.size+1+1,0,none⟩) 2 2) (.slice none 0 0)).alloc (.cells #[.int .i64 x7.kind,.string x7.text,.int .i64 x7.line,.int .i64 x7.pos] 163)).alloc (.cells #[.int .i64 5,.int .i64 0,.int .i64 x7.line,.int .i64 0,.int .i64 0,.string x7.text,.slice none 0 0,.slice none 0 0] 37)).alloc (.cells #[.int .i64 x.kind,.int .i64 x.op,.int .i64 x.line,.int .i64 x.p,.int .i64 x.q,.string x.str,.slice d.a x.args.length d.c,.slice d.fa x.funcs.length d.fc,.int .i64 5,.int .i64 0,.int .i64 x7.line,.int .i64 0,.int .i64 0,.string x7.text,.slice none 0 0,.slice none 0 0] 37)) (ndA 8 x6.line [x,ndS 5 x7.line x7.text]) ⟨some ⟨w7.heap.size+1+1,0,none⟩,2,none,0⟩ :=
    hFH.out.put (y:=ndA 8 x6.line [x,ndS 5 x7.line x7.text]) (dy:=⟨some ⟨w7.heap.size+1+1,0,none⟩,2,none,0⟩) ((((Gs.refl _ _).alloc _).alloc _).alloc _) (node_at (xs:=[x,ndS 5 x7.line x7.text]) ⟨⟨by decide,by decide⟩,w640,HW6.out.2.2,w640,w640,size0⟩ (Nat.le_refl _) (by unfold MX;decide) (by simp)
      (exs_two (y:=ndS 5 x7.line x7.text) (dy:=⟨none,0,none,0⟩) (by simp [st8_size]) (by simp [From,st8_size];omega) (hFH.out.at_.keep (Keep.alloc (Keep.alloc (Keep.st8 (Keep.refl _ _) (by simp [From]) _ _ _ _ _ _ _ _) _) _) (fun _ h=>h)) (leaf_at ⟨⟨by decide,by decide⟩,w640,HW7.out.2.2,w640,w640,HW7.out.1⟩)))
  have hAW:C.At ((((st8 w7 (w3.heap.size+1) (.int .i64 8) (.int .i64 0) (.int .i64 x6.line) (.int .i64 0) (.int .i64 0) (.string ⟨#[]⟩) (.slice (some ⟨w7.heap.size+1+1,0,none⟩) 2 2) (.slice none 0 0)).alloc (.cells #[.int .i64 x7.kind,.string x7.text,.int .i64 x7.line,.int .i64 x7.pos] 163)).alloc (.cells #[.int .i64 5,.int .i64 0,.int .i64 x7.line,.int .i64 0,.int .i64 0,.string x7.text,.slice none 0 0,.slice none 0 0] 37)).alloc (.cells #[.int .i64 x.kind,.int .i64 x.op,.int .i64 x.line,.int .i64 x.p,.int .i64 x.q,.string x.str,.slice d.a x.args.length d.c,.slice d.fa x.funcs.length d.fc,.int .i64 5,.int .i64 0,.int .i64 x7.line,.int .i64 0,.int .i64 0,.string x7.text,.slice none 0 0,.slice none 0 0] 37)) l7:=((((HA.out.st8 (by omega) _ _ _ _ _ _ _ _).alloc _).alloc _).alloc _)
  have hK6:((((st8 w7 (w3.heap.size+1) (.int .i64 8) (.int .i64 0) (.int .i64 x6.line) (.int .i64 0) (.int .i64 0) (.string ⟨#[]⟩) (.slice (some ⟨w7.heap.size+1+1,0,none⟩) 2 2) (.slice none 0 0)).alloc (.cells #[.int .i64 x7.kind,.string x7.text,.int .i64 x7.line,.int .i64 x7.pos] 163)).alloc (.cells #[.int .i64 5,.int .i64 0,.int .i64 x7.line,.int .i64 0,.int .i64 0,.string x7.text,.slice none 0 0,.slice none 0 0] 37)).alloc (.cells #[.int .i64 x.kind,.int .i64 x.op,.int .i64 x.line,.int .i64 x.p,.int .i64 x.q,.string x.str,.slice d.a x.args.length d.c,.slice d.fa x.funcs.length d.fc,.int .i64 5,.int .i64 0,.int .i64 x7.line,.int .i64 0,.int .i64 0,.string x7.text,.slice none 0 0,.slice none 0 0] 37)).heap[w6.heap.size]?=some (.cells #[.int .i64 x6.kind,.string x6.text,.int .i64 x6.line,.int .i64 x6.pos] 163):=box_alloc (box_alloc (box_alloc (bx_st8 HTK.out (by omega) _ _ _ _ _ _ _ _) _) _) _;have hK7:((((st8 w7 (w3.heap.size+1) (.int .i64 8) (.int .i64 0) (.int .i64 x6.line) (.int .i64 0) (.int .i64 0) (.string ⟨#[]⟩) (.slice (some ⟨w7.heap.size+1+1,0,none⟩) 2 2) (.slice none 0 0)).alloc (.cells #[.int .i64 x7.kind,.string x7.text,.int .i64 x7.line,.int .i64 x7.pos] 163)).alloc (.cells #[.int .i64 5,.int .i64 0,.int .i64 x7.line,.int .i64 0,.int .i64 0,.string x7.text,.slice none 0 0,.slice none 0 0] 37)).alloc (.cells #[.int .i64 x.kind,.int .i64 x.op,.int .i64 x.line,.int .i64 x.p,.int .i64 x.q,.string x.str,.slice d.a x.args.length d.c,.slice d.fa x.funcs.length d.fc,.int .i64 5,.int .i64 0,.int .i64 x7.line,.int .i64 0,.int .i64 0,.string x7.text,.slice none 0 0,.slice none 0 0] 37)).heap[w7.heap.size]?=some (.cells #[.int .i64 x7.kind,.string x7.text,.int .i64 x7.line,.int .i64 x7.pos] 163):=box_alloc (box_alloc (box_at (by rw [st8_size])) _) _;generalize ((((st8 w7 (w3.heap.size+1) (.int .i64 8) (.int .i64 0) (.int .i64 x6.line) (.int .i64 0) (.int .i64 0) (.string ⟨#[]⟩) (.slice (some ⟨w7.heap.size+1+1,0,none⟩) 2 2) (.slice none 0 0)).alloc (.cells #[.int .i64 x7.kind,.string x7.text,.int .i64 x7.line,.int .i64 x7.pos] 163)).alloc (.cells #[.int .i64 5,.int .i64 0,.int .i64 x7.line,.int .i64 0,.int .i64 0,.string x7.text,.slice none 0 0,.slice none 0 0] 37)).alloc (.cells #[.int .i64 x.kind,.int .i64 x.op,.int .i64 x.line,.int .i64 x.p,.int .i64 x.q,.string x.str,.slice d.a x.args.length d.c,.slice d.fa x.funcs.length d.fc,.int .i64 5,.int .i64 0,.int .i64 x7.line,.int .i64 0,.int .i64 0,.string x7.text,.slice none 0 0,.slice none 0 0] 37))=wc at hFW hAW hK6 hK7 ⊢
  have HFW:=hI hFW;have HAW:=hI hAW;have HTK:=hI hK6;have HTN:=hI hK7;clear hFW hAW hK6 hK7;clear ke kef kez kew kt ktf ktz kr krf krz;have kt:=fun i=>box_cell HTK.out i;have ktf:=fun i=>box_free HTK.out i;have ktz:=box_lt HTK.out;have kn:=fun i=>box_cell HTN.out i;have knf:=fun i=>box_free HTN.out i;have knz:=box_lt HTN.out
  go_wp2_with fail
  go_roundg k
  case rel=>exact ⟨s++(x6.text++x7.text),x6.text.toList==[58],ndA 8 x6.line [x,ndS 5 x7.line x7.text],⟨some ⟨w7.heap.size+1+1,0,none⟩,2,none,0⟩,l7,rfl,rfl,fun _=>by omega,hI (by rw [HR.out,show (s++(x6.text++x7.text)).data.toList=s.data.toList++x6.text.data.toList++x7.text.data.toList from by simp [List.append_assoc]]),HAW,HFW,by omega,by have h9:=HSL.out;simp only [ByteArray.size_append];omega⟩
  case measure=>omega):P:=h
theorem yJNb {P:Prop} (h:P:=by
  intro hHeld;clear hK K
  try simp only [Act.put,sS1,sS2,sS3]
  refine wpAny2_ready (rs:=[10]) (by kernel_rfl) (by simp) ?_;refine AllReady2.late rfl (by kernel_rfl) (fun K hK=>?_) AllReady2.nil
  go_simp
  refine hK.out _ _ ?_;clear hK K
  try simp only [Act.put,sS1,sS2,sS3]
  refine wpAnyG_done (by kernel_rfl) ?_ _
  go_wp2_with fail
  refine bodyPost_ret (v:=.agg #[.int .i64 ((St.mk 3 x2.line [] [x] [x9] [] ⟨#[]⟩)).kind,.int .i64 ((St.mk 3 x2.line [] [x] [x9] [] ⟨#[]⟩)).line,.slice ((⟨none,0,some ⟨w9.heap.size,0,none⟩,1,some ⟨w9.heap.size+1,0,none⟩,1,none,0⟩:SA)).na ((St.mk 3 x2.line [] [x] [x9] [] ⟨#[]⟩)).names.length ((⟨none,0,some ⟨w9.heap.size,0,none⟩,1,some ⟨w9.heap.size+1,0,none⟩,1,none,0⟩:SA)).nc,.slice ((⟨none,0,some ⟨w9.heap.size,0,none⟩,1,some ⟨w9.heap.size+1,0,none⟩,1,none,0⟩:SA)).la ((St.mk 3 x2.line [] [x] [x9] [] ⟨#[]⟩)).left.length ((⟨none,0,some ⟨w9.heap.size,0,none⟩,1,some ⟨w9.heap.size+1,0,none⟩,1,none,0⟩:SA)).lc,.slice ((⟨none,0,some ⟨w9.heap.size,0,none⟩,1,some ⟨w9.heap.size+1,0,none⟩,1,none,0⟩:SA)).ra ((St.mk 3 x2.line [] [x] [x9] [] ⟨#[]⟩)).right.length ((⟨none,0,some ⟨w9.heap.size,0,none⟩,1,some ⟨w9.heap.size+1,0,none⟩,1,none,0⟩:SA)).rc,.slice ((⟨none,0,some ⟨w9.heap.size,0,none⟩,1,some ⟨w9.heap.size+1,0,none⟩,1,none,0⟩:SA)).ba ((St.mk 3 x2.line [] [x] [x9] [] ⟨#[]⟩)).blocks.length ((⟨none,0,some ⟨w9.heap.size,0,none⟩,1,some ⟨w9.heap.size+1,0,none⟩,1,none,0⟩:SA)).bc,.string ((St.mk 3 x2.line [] [x] [x9] [] ⟨#[]⟩)).label]) (by
    have k8:=fun j=>box_cell (box_alloc (box_alloc (set7h HRS9.out (.int .i64 3) (.int .i64 x2.line) (.slice none 0 0) (.slice (some ⟨w9.heap.size,0,none⟩) 1 1) (.slice (some ⟨w9.heap.size+1,0,none⟩) 1 1) (.slice none 0 0) (.string ⟨#[]⟩)) (.cells #[.int .i64 x.kind,.int .i64 x.op,.int .i64 x.line,.int .i64 x.p,.int .i64 x.q,.string x.str,.slice d.a x.args.length d.c,.slice d.fa x.funcs.length d.fc] 37)) (.cells #[.int .i64 x9.kind,.int .i64 x9.op,.int .i64 x9.line,.int .i64 x9.p,.int .i64 x9.q,.string x9.str,.slice d9.a x9.args.length d9.c,.slice d9.fa x9.funcs.length d9.fc] 37)) j;have s0:=k8 0;have s1:=k8 1;have s2:=k8 2;have s3:=k8 3;have s4:=k8 4;have s5:=k8 5;have s6:=k8 6;simp [results,Tryz.results91,go_sem,kr9z,s0,s1,s2,s3,s4,s5,s6];(try simp [St.kind,St.line,St.names,St.left,St.right,St.blocks,St.label])) rfl ?_
  exact Tells.yes HR gw (HA.out.ca kw) ⟨⟨none,0,some ⟨w9.heap.size,0,none⟩,1,some ⟨w9.heap.size+1,0,none⟩,1,none,0⟩,rfl,st_node ⟨⟨by decide,by decide⟩,HW2.out.2.2,size0⟩ no3 one3 one3 no3 Rows.zero
    (Ex.Ats.keep (Keep.alloc (Keep.refl (From w.heap.size) _) _) (fun _ h=>h) (exs_one (by simp) (by simp [From];omega) (hFH.out.at_.keep (Keep.st7 (Keep.refl _ _) (by simp [From];omega) _ _ _ _ _ _ _) (fr (by omega)))))
    (exs_one (by simp) (by simp [From];omega) (HX9.out.keep (Keep.alloc (Keep.st7 (Keep.refl _ _) (by simp [From];omega) _ _ _ _ _ _ _) _) (fr (by simp;omega)))) trivial⟩):P:=h
theorem yJNc {P:Prop} (h:P:=by
  intro hHeld;clear hK K
  try simp only [Act.put,sS1,sS2,sS3]
  refine wpAny2_ready (rs:=[10]) (by kernel_rfl) (by simp) ?_;refine AllReady2.late rfl (by kernel_rfl) (fun K hK=>?_) AllReady2.nil
  go_simp
  refine hK.out _ _ ?_;clear hK K
  try simp only [Act.put,sS1,sS2,sS3]
  refine wpAnyG_done (by kernel_rfl) ?_ _
  go_wp2_with fail
  refine bodyPost_ret (v:=.agg #[.int .i64 ((St.mk 3 x2.line [] [x] [x9] [] ⟨#[]⟩)).kind,.int .i64 ((St.mk 3 x2.line [] [x] [x9] [] ⟨#[]⟩)).line,.slice ((⟨none,0,some ⟨w9.heap.size+1,0,none⟩,1,some ⟨w9.heap.size,0,none⟩,1,none,0⟩:SA)).na ((St.mk 3 x2.line [] [x] [x9] [] ⟨#[]⟩)).names.length ((⟨none,0,some ⟨w9.heap.size+1,0,none⟩,1,some ⟨w9.heap.size,0,none⟩,1,none,0⟩:SA)).nc,.slice ((⟨none,0,some ⟨w9.heap.size+1,0,none⟩,1,some ⟨w9.heap.size,0,none⟩,1,none,0⟩:SA)).la ((St.mk 3 x2.line [] [x] [x9] [] ⟨#[]⟩)).left.length ((⟨none,0,some ⟨w9.heap.size+1,0,none⟩,1,some ⟨w9.heap.size,0,none⟩,1,none,0⟩:SA)).lc,.slice ((⟨none,0,some ⟨w9.heap.size+1,0,none⟩,1,some ⟨w9.heap.size,0,none⟩,1,none,0⟩:SA)).ra ((St.mk 3 x2.line [] [x] [x9] [] ⟨#[]⟩)).right.length ((⟨none,0,some ⟨w9.heap.size+1,0,none⟩,1,some ⟨w9.heap.size,0,none⟩,1,none,0⟩:SA)).rc,.slice ((⟨none,0,some ⟨w9.heap.size+1,0,none⟩,1,some ⟨w9.heap.size,0,none⟩,1,none,0⟩:SA)).ba ((St.mk 3 x2.line [] [x] [x9] [] ⟨#[]⟩)).blocks.length ((⟨none,0,some ⟨w9.heap.size+1,0,none⟩,1,some ⟨w9.heap.size,0,none⟩,1,none,0⟩:SA)).bc,.string ((St.mk 3 x2.line [] [x] [x9] [] ⟨#[]⟩)).label]) (by
    have k8:=fun j=>box_cell (box_alloc (box_alloc (set7h HRS9.out (.int .i64 3) (.int .i64 x2.line) (.slice none 0 0) (.slice (some ⟨w9.heap.size+1,0,none⟩) 1 1) (.slice (some ⟨w9.heap.size,0,none⟩) 1 1) (.slice none 0 0) (.string ⟨#[]⟩)) (.cells #[.int .i64 x9.kind,.int .i64 x9.op,.int .i64 x9.line,.int .i64 x9.p,.int .i64 x9.q,.string x9.str,.slice d9.a x9.args.length d9.c,.slice d9.fa x9.funcs.length d9.fc] 37)) (.cells #[.int .i64 x.kind,.int .i64 x.op,.int .i64 x.line,.int .i64 x.p,.int .i64 x.q,.string x.str,.slice d.a x.args.length d.c,.slice d.fa x.funcs.length d.fc] 37)) j;have s0:=k8 0;have s1:=k8 1;have s2:=k8 2;have s3:=k8 3;have s4:=k8 4;have s5:=k8 5;have s6:=k8 6;simp [results,Tryz.results91,go_sem,kr9z,s0,s1,s2,s3,s4,s5,s6];(try simp [St.kind,St.line,St.names,St.left,St.right,St.blocks,St.label])) rfl ?_
  exact Tells.yes HR gw (HA.out.ca kw) ⟨⟨none,0,some ⟨w9.heap.size+1,0,none⟩,1,some ⟨w9.heap.size,0,none⟩,1,none,0⟩,rfl,st_node ⟨⟨by decide,by decide⟩,HW2.out.2.2,size0⟩ no3 one3 one3 no3 Rows.zero
    (exs_one (by simp) (by simp [From];omega) (hFH.out.at_.keep (Keep.alloc (Keep.st7 (Keep.refl _ _) (by simp [From];omega) _ _ _ _ _ _ _) _) (fr (by omega))))
    (Ex.Ats.keep (Keep.alloc (Keep.refl (From w.heap.size) _) _) (fun _ h=>h) (exs_one (by simp) (by simp [From];omega) (HX9.out.keep (Keep.st7 (Keep.refl _ _) (by simp [From];omega) _ _ _ _ _ _ _) (fr (by simp;omega))))) trivial⟩):P:=h
set_option maxRecDepth 100000 in
set_option maxHeartbeats 4000000 in
theorem function_at {C:PC} {B:BF} {n:Nat} (hB:BC C B n) (hLB:SB B) (hT:∀ t ∈ C.L,t.text.size≤65536) (l:List Tk) (w:World) (hl:l.length≤n) (h:C.At w l) :
    Calls Tryz.prog 91 #[thisP C] w (Tells C stW (funcR B l) w):=by
  have HA:=hI h;have hp:=h.lt;have hl6:=h.len;have hpn:w.heap.size≠C.p:=by omega
  have HCL:=hI (clo_at hB hLB);have hn0:=hl;have HT:=hI hT;generalize hR:funcR B l=R;have HR:=hI (hR.symm.trans (func_eq B l));clear hR h hB hLB hl hT;have tf1:=fun t=>tok_field1 t;have tf2:=fun t=>tok_field2 t
  go_enter Tryz.func91,Tryz.ntmps91
  go_wp2_with (first
    | (go_at_call 88;(with_reducible refine (Tells.step HR (take_any C l _ (HA.out.ca kw))).mono ?_);rintro e w2 (⟨l2,rfl,HR,hg2⟩|⟨x2,l2,u,rfl,⟨rfl,hw2⟩,HM2,HR,HA,hg2⟩);rotate_left);(have HW2:=hI hw2;clear hw2;have hz2:=hg2.size;simp at hz2;have hs2:l2.length+1≤l.length:=take_le _ _ _ HM2.out;have HRS:=hI (hg2.box (box_at rfl) hpn);have HA2:=HA)
    | (go_at_call 97;(with_reducible refine (Tells.step HR (name_at C l2 _ (HA.out.ca kw))).mono ?_);rintro e w3 (⟨l3,rfl,HR,hg3⟩|⟨x3,l3,u,rfl,⟨rfl,hw3⟩,HM3,HR,HA,hg3⟩);rotate_left);(have HW3:=hI hw3;clear hw3;have hz3:=hg3.size;have hs3:l3.length+1≤l2.length:=name_le _ _ _ HM3.out;have HRS:=hI (hg3.box HRS.out (by omega));have ht3:=HT.out _ (name_mem HA2.out HM3.out)))
  case inl=>exact ⟨rfl,Tells.no HR gw⟩
  case inl=>exact ⟨rfl,Tells.no HR gw⟩
  have hFH:=hI (show FunH C w (w3.heap.size+1) ((w3.alloc (.cells #[.int .i64 x3.kind,.string x3.text,.int .i64 x3.line,.int .i64 x3.pos] 163)).alloc (.cells #[.int .i64 (ndS 7 x3.line x3.text).kind,.int .i64 (ndS 7 x3.line x3.text).op,.int .i64 (ndS 7 x3.line x3.text).line,.int .i64 (ndS 7 x3.line x3.text).p,.int .i64 (ndS 7 x3.line x3.text).q,.string (ndS 7 x3.line x3.text).str,.slice ((⟨none,0,none,0⟩:EA)).a (ndS 7 x3.line x3.text).args.length ((⟨none,0,none,0⟩:EA)).c,.slice ((⟨none,0,none,0⟩:EA)).fa (ndS 7 x3.line x3.text).funcs.length ((⟨none,0,none,0⟩:EA)).fc] 37)) (ndS 7 x3.line x3.text) ⟨none,0,none,0⟩ from
    ⟨gw,hp,by omega,by simp,box_alloc (box_alloc HRS.out _) _,box_at (by simp),leaf_at ⟨⟨by decide,by decide⟩,w640,HW3.out.2.2,w640,w640,HW3.out.1⟩⟩)
  clear HRS;have hlq:=HA.out.len
  go_loopg [6,7,8,9,10] (l3.length+1) (fun gk v6 v7 _ _ _ wr=>∃ (s:ByteArray) (m:Bool) (x:Ex) (d:EA) (l':List Tk),v6=.string s∧v7=.bool m∧(m=false→l'.length<gk)∧Hid (R=(pathM m gk x s.data.toList l').bind (funF B x2.line))∧Hid (C.At wr l')∧Hid (FunH C w (w3.heap.size+1) wr x d)∧l'.length<n∧s.size+l'.length*131072≤8600000000)
  case atStart=>exact ⟨x3.text,false,ndS 7 x3.line x3.text,⟨none,0,none,0⟩,l3,rfl,rfl,fun _=>Nat.lt_succ_self _,HR,hI (HA.out.ca kw),hFH,by omega,by omega⟩
  case round =>
  clear HA HR hFH;obtain ⟨s,m,x,d,l',rfl,rfl,hgk,HR,HA,hFH,hln,hsl⟩:=hrel;have hgT:=hFH.out.gs;have hbw:=hFH.out.bw;have htl:=tail_le l';have HEB:=hI hFH.out.box;have HRS:=hI hFH.out.res;have ke:=fun i=>box_cell HEB.out i;have kef:=fun i=>box_free HEB.out i;have kez:=box_lt HEB.out;have kr:=fun i=>box_cell HRS.out i;have krf:=fun i=>box_free HRS.out i;have krz:=box_lt HRS.out;cases m
  · obtain ⟨k,rfl⟩:∃ k,gk=k+1:=⟨gk - 1,by have:=hgk rfl;omega⟩
    have hgk:=hgk rfl;have HR:=hI (HR.out.trans (path_step k x s.data.toList l' _))
    go_wp2_with (first
      | (go_at_call 58;(with_reducible refine (is_step C [46] l' _ HR (HA.out.ca kw)).mono ?_);rintro e w4 (⟨rfl,HB4,HR,HA,hg4⟩|⟨rfl,-,HR,HA,hg4⟩) <;> (have HA6:=HA;have hFH:=hI (hFH.out.go hg4);have hz4:=hg4.size;have HEB:=hI hFH.out.box;have HRS:=hI hFH.out.res;have ke:=fun i=>box_cell HEB.out i;have kef:=fun i=>box_free HEB.out i;have kez:=box_lt HEB.out;have kr:=fun i=>box_cell HRS.out i;have krf:=fun i=>box_free HRS.out i;have krz:=box_lt HRS.out))
      | (go_at_call 58;(with_reducible refine (is_step C [58] l' _ HR (HA.out.ca kw)).mono ?_);rintro e w5 (⟨rfl,HB4,HR,HA,hg5⟩|⟨rfl,-,HR,HA,hg5⟩) <;> (have HA6:=HA;have hFH:=hI (hFH.out.go hg5);have hz5:=hg5.size;have HEB:=hI hFH.out.box;have HRS:=hI hFH.out.res;have ke:=fun i=>box_cell HEB.out i;have kef:=fun i=>box_free HEB.out i;have kez:=box_lt HEB.out;have kr:=fun i=>box_cell HRS.out i;have krf:=fun i=>box_free HRS.out i;have krz:=box_lt HRS.out))
      | fail)
    · exact yJNa
    · exact yJNa
    · have HXF:=hI hFH.out.at_
      replace HR:=hI (show R=(cloR B x2.line s false l').bind fun c l4=>.ok (.mk 3 x2.line [] [x] [c] [] ⟨#[]⟩) l4 from by rw [HR.out];show (cloR B x2.line (txA s.data.toList) false l').bind _=_;rw [show txA s.data.toList=s from by unfold txA;rw [Array.toArray_toList]])
      have hsm:s.size≤MX:=by unfold MX;omega
      have hln':l'.length≤n:=by omega
      have hbF:=hFH.out.bw;have hzF:=hFH.out.b02;have HSB:=hI (show ∀ w',Gs C.p w5 w'→(∀ i,w'.cell? ⟨w3.heap.size+1,i,none⟩=#[.int .i64 x.kind,.int .i64 x.op,.int .i64 x.line,.int .i64 x.p,.int .i64 x.q,.string x.str,.slice d.a x.args.length d.c,.slice d.fa x.funcs.length d.fc][i]?) from fun w' hg=>fun i=>box_cell (hg.box HEB.out (by omega)) i);refine wp_region_two (c:=10) (T:=(fun w'=>(∀ i,w'.cell? ⟨w3.heap.size+1,i,none⟩=#[.int .i64 x.kind,.int .i64 x.op,.int .i64 x.line,.int .i64 x.p,.int .i64 x.q,.string x.str,.slice d.a x.args.length d.c,.slice d.fa x.funcs.length d.fc][i]?))) (by kernel_rfl) ?s101 ?r101
      case s101=>exact HSB.out _ gw
      intro hHeld;refine tG 0 ?_;refine lG 1 [2,9,10] ?_;refine tG 3 ?_;refine tG 4 ?_;refine tG 5 ?_;refine tG 6 ?_;refine wpAny2_ready (rs:=[2,7]) (by kernel_rfl) (by simp) ?_;refine AllReady2.cons rfl (fun K hK=>?_) (AllReady2.cons rfl (fun K hK=>?_) AllReady2.nil)
      · go_simp
        refine hK.out _ _ ?s108 ?r108
        case s108=>exact HSB.out _ gw
        intro hHeld;clear hK K
        try simp only [Act.put,sS1,sS2,sS3]
        refine wpAny2_ready (rs:=[7]) (by kernel_rfl) (by simp) ?_;refine AllReady2.cons rfl (fun K hK=>?_) AllReady2.nil
        go_simp
        go_at_call 124;(with_reducible refine (Tells.step HR (HCL.out x2.line s false l' _ HW2.out.2.2 hsm hln' (HA.out.ca kw))).mono ?_);rintro e w9 (⟨l9,rfl,HR,hg9⟩|⟨x9,l9,u,rfl,⟨d9,rfl,hx9⟩,HM9,HR,HA,hg9⟩)
        · go_wp2_with fail
          exact ⟨rfl,Tells.no HR gw⟩
        have HX9:=hI hx9;clear hx9;have hz9:=hg9.size;simp at hz9;have hFH:=hI (hFH.out.go (gw:Gs C.p w5 w9));have HRS9:=hI hFH.out.res;have kr9:=fun i=>box_cell HRS9.out i;have kr9f:=fun i=>box_free HRS9.out i;have kr9z:=box_lt HRS9.out;have HL9:=hI (show Ex.Ats (From (w3.heap.size+2)) w9 [x] (some ⟨w5.heap.size,0,none⟩) from (exs_one (F:=From (w3.heap.size+2)) (w:=w5.drew) rfl (by show _≤w5.heap.size;omega) (HXF.out.keep kx (fun _ h=>h))).keep (Keep.gsT hg9 (by simp [From];omega) (Keep.refl _ _)) (fun _ h=>h))
        go_wp2_with fail
        refine hK.out _ _ ?s109 ?r109
        case s109=>exact HSB.out _ gw
        intro hHeld;clear hK K
        try simp only [Act.put,sS1,sS2,sS3]
        refine wpAny2_ready (rs:=[8]) (by kernel_rfl) (by simp) ?_;refine AllReady2.cons rfl (fun K hK=>?_) AllReady2.nil
        go_simp
        refine hK.out _ _ ?s110 ?r110
        case s110=>exact HSB.out _ gw
        intro hHeld;clear hK K
        try simp only [Act.put,sS1,sS2,sS3]
        refine wpAny2_ready (rs:=[9]) (by kernel_rfl) (by simp) ?_;refine AllReady2.cons rfl (fun K hK=>?_) AllReady2.nil
        go_simp
        refine hK.out _ _ ?s111 ?r111
        case s111=>exact HSB.out _ gw
        intro hHeld;clear hK K
        try simp only [Act.put,sS1,sS2,sS3]
        refine wpAny2_ready (rs:=[10]) (by kernel_rfl) (by simp) ?_;refine AllReady2.late rfl (by kernel_rfl) (fun K hK=>?_) AllReady2.nil
        go_simp
        refine hK.out _ _ ?_;clear hK K
        try simp only [Act.put,sS1,sS2,sS3]
        refine wpAnyG_done (by kernel_rfl) ?_ _
        go_wp2_with fail
        refine bodyPost_ret (v:=.agg #[.int .i64 ((St.mk 3 x2.line [] [x] [x9] [] ⟨#[]⟩)).kind,.int .i64 ((St.mk 3 x2.line [] [x] [x9] [] ⟨#[]⟩)).line,.slice ((⟨none,0,some ⟨w5.heap.size,0,none⟩,1,some ⟨w9.heap.size,0,none⟩,1,none,0⟩:SA)).na ((St.mk 3 x2.line [] [x] [x9] [] ⟨#[]⟩)).names.length ((⟨none,0,some ⟨w5.heap.size,0,none⟩,1,some ⟨w9.heap.size,0,none⟩,1,none,0⟩:SA)).nc,.slice ((⟨none,0,some ⟨w5.heap.size,0,none⟩,1,some ⟨w9.heap.size,0,none⟩,1,none,0⟩:SA)).la ((St.mk 3 x2.line [] [x] [x9] [] ⟨#[]⟩)).left.length ((⟨none,0,some ⟨w5.heap.size,0,none⟩,1,some ⟨w9.heap.size,0,none⟩,1,none,0⟩:SA)).lc,.slice ((⟨none,0,some ⟨w5.heap.size,0,none⟩,1,some ⟨w9.heap.size,0,none⟩,1,none,0⟩:SA)).ra ((St.mk 3 x2.line [] [x] [x9] [] ⟨#[]⟩)).right.length ((⟨none,0,some ⟨w5.heap.size,0,none⟩,1,some ⟨w9.heap.size,0,none⟩,1,none,0⟩:SA)).rc,.slice ((⟨none,0,some ⟨w5.heap.size,0,none⟩,1,some ⟨w9.heap.size,0,none⟩,1,none,0⟩:SA)).ba ((St.mk 3 x2.line [] [x] [x9] [] ⟨#[]⟩)).blocks.length ((⟨none,0,some ⟨w5.heap.size,0,none⟩,1,some ⟨w9.heap.size,0,none⟩,1,none,0⟩:SA)).bc,.string ((St.mk 3 x2.line [] [x] [x9] [] ⟨#[]⟩)).label]) (by
          have k8:=fun j=>box_cell (box_alloc (set7h HRS9.out (.int .i64 3) (.int .i64 x2.line) (.slice none 0 0) (.slice (some ⟨w5.heap.size,0,none⟩) 1 1) (.slice (some ⟨w9.heap.size,0,none⟩) 1 1) (.slice none 0 0) (.string ⟨#[]⟩)) (.cells #[.int .i64 x9.kind,.int .i64 x9.op,.int .i64 x9.line,.int .i64 x9.p,.int .i64 x9.q,.string x9.str,.slice d9.a x9.args.length d9.c,.slice d9.fa x9.funcs.length d9.fc] 37)) j;have s0:=k8 0;have s1:=k8 1;have s2:=k8 2;have s3:=k8 3;have s4:=k8 4;have s5:=k8 5;have s6:=k8 6;simp [results,Tryz.results91,go_sem,kr9z,s0,s1,s2,s3,s4,s5,s6];(try simp [St.kind,St.line,St.names,St.left,St.right,St.blocks,St.label])) rfl ?_
        exact Tells.yes HR gw (HA.out.ca kw) ⟨⟨none,0,some ⟨w5.heap.size,0,none⟩,1,some ⟨w9.heap.size,0,none⟩,1,none,0⟩,rfl,st_node ⟨⟨by decide,by decide⟩,HW2.out.2.2,size0⟩ no3 one3 one3 no3 Rows.zero
          (HL9.out.keep (Keep.alloc (Keep.st7 (Keep.refl _ _) (by simp [From];omega) _ _ _ _ _ _ _) _) (fr (by omega)))
          (exs_one (by simp) (by simp [From];omega) (HX9.out.keep (Keep.st7 (Keep.refl _ _) (by simp [From];omega) _ _ _ _ _ _ _) (fr (by simp;omega)))) trivial⟩
      · go_simp
        go_at_call 124;(with_reducible refine (Tells.step HR (HCL.out x2.line s false l' _ HW2.out.2.2 hsm hln' (HA.out.ca kw))).mono ?_);rintro e w9 (⟨l9,rfl,HR,hg9⟩|⟨x9,l9,u,rfl,⟨d9,rfl,hx9⟩,HM9,HR,HA,hg9⟩)
        · go_wp2_with fail
          exact ⟨rfl,Tells.no HR gw⟩
        have HX9:=hI hx9;clear hx9;have hz9:=hg9.size;simp at hz9;have hFH:=hI (hFH.out.go (gw:Gs C.p w5 w9));have HRS9:=hI hFH.out.res;have kr9:=fun i=>box_cell HRS9.out i;have kr9f:=fun i=>box_free HRS9.out i;have kr9z:=box_lt HRS9.out
        go_wp2_with fail
        refine hK.out _ _ ?s112 ?r112
        case s112=>exact HSB.out _ gw
        intro hHeld;clear hK K
        try simp only [Act.put,sS1,sS2,sS3]
        refine wpAny2_ready (rs:=[2,8]) (by kernel_rfl) (by simp) ?_;refine AllReady2.cons rfl (fun K hK=>?_) (AllReady2.cons rfl (fun K hK=>?_) AllReady2.nil)
        · go_simp
          refine hK.out _ _ ?s113 ?r113
          case s113=>exact HSB.out _ gw
          intro hHeld;clear hK K
          try simp only [Act.put,sS1,sS2,sS3]
          refine wpAny2_ready (rs:=[8]) (by kernel_rfl) (by simp) ?_;refine AllReady2.cons rfl (fun K hK=>?_) AllReady2.nil
          go_simp
          refine hK.out _ _ ?s114 ?r114
          case s114=>exact HSB.out _ gw
          intro hHeld;clear hK K
          try simp only [Act.put,sS1,sS2,sS3]
          refine wpAny2_ready (rs:=[9]) (by kernel_rfl) (by simp) ?_;refine AllReady2.cons rfl (fun K hK=>?_) AllReady2.nil
          go_simp
          refine hK.out _ _ ?s115 ?r115
          case s115=>exact HSB.out _ gw
          exact yJNb
        · go_simp
          refine hK.out _ _ ?s116 ?r116
          case s116=>exact HSB.out _ gw
          intro hHeld;clear hK K
          try simp only [Act.put,sS1,sS2,sS3]
          refine wpAny2_ready (rs:=[2]) (by kernel_rfl) (by simp) ?_;refine AllReady2.cons rfl (fun K hK=>?_) AllReady2.nil
          go_simp
          refine hK.out _ _ ?s117 ?r117
          case s117=>exact HSB.out _ gw
          intro hHeld;clear hK K
          try simp only [Act.put,sS1,sS2,sS3]
          refine wpAny2_ready (rs:=[9]) (by kernel_rfl) (by simp) ?_;refine AllReady2.cons rfl (fun K hK=>?_) AllReady2.nil
          go_simp
          refine hK.out _ _ ?s118 ?r118
          case s118=>exact HSB.out _ gw
          exact yJNc
  · replace HR:=hI (show R=funF B x2.line (x,s.data.toList,true) l' from HR.out)
    have HXF:=hI hFH.out.at_
    go_upto_region 13 with fail
    replace HR:=hI (show R=(cloR B x2.line s true l').bind fun c l4=>.ok (.mk 3 x2.line [] [x] [c] [] ⟨#[]⟩) l4 from by rw [HR.out];show (cloR B x2.line (txA s.data.toList) true l').bind _=_;rw [show txA s.data.toList=s from by unfold txA;rw [Array.toArray_toList]])
    have hsm:s.size≤MX:=by unfold MX;omega
    have hln':l'.length≤n:=by omega
    have hbF:=hFH.out.bw;have hzF:=hFH.out.b02;have HSB:=hI (show ∀ w',Gs C.p wr w'→(∀ i,w'.cell? ⟨w3.heap.size+1,i,none⟩=#[.int .i64 x.kind,.int .i64 x.op,.int .i64 x.line,.int .i64 x.p,.int .i64 x.q,.string x.str,.slice d.a x.args.length d.c,.slice d.fa x.funcs.length d.fc][i]?) from fun w' hg=>fun i=>box_cell (hg.box HEB.out (by omega)) i);refine wp_region_two (c:=10) (T:=(fun w'=>(∀ i,w'.cell? ⟨w3.heap.size+1,i,none⟩=#[.int .i64 x.kind,.int .i64 x.op,.int .i64 x.line,.int .i64 x.p,.int .i64 x.q,.string x.str,.slice d.a x.args.length d.c,.slice d.fa x.funcs.length d.fc][i]?))) (by kernel_rfl) ?s119 ?r119
    case s119=>exact HSB.out _ gw
    intro hHeld;refine tG 0 ?_;refine lG 1 [2,9,10] ?_;refine tG 3 ?_;refine tG 4 ?_;refine tG 5 ?_;refine tG 6 ?_;refine wpAny2_ready (rs:=[2,7]) (by kernel_rfl) (by simp) ?_;refine AllReady2.cons rfl (fun K hK=>?_) (AllReady2.cons rfl (fun K hK=>?_) AllReady2.nil)
    · go_simp
      refine hK.out _ _ ?s126 ?r126
      case s126=>exact HSB.out _ gw
      intro hHeld;clear hK K
      try simp only [Act.put,sS1,sS2,sS3]
      refine wpAny2_ready (rs:=[7]) (by kernel_rfl) (by simp) ?_;refine AllReady2.cons rfl (fun K hK=>?_) AllReady2.nil
      go_simp
      go_at_call 124;(with_reducible refine (Tells.step HR (HCL.out x2.line s true l' _ HW2.out.2.2 hsm hln' (HA.out.ca kw))).mono ?_);rintro e w9 (⟨l9,rfl,HR,hg9⟩|⟨x9,l9,u,rfl,⟨d9,rfl,hx9⟩,HM9,HR,HA,hg9⟩)
      · go_wp2_with fail
        exact ⟨rfl,Tells.no HR gw⟩
      have HX9:=hI hx9;clear hx9;have hz9:=hg9.size;simp at hz9;have hFH:=hI (hFH.out.go (gw:Gs C.p wr w9));have HRS9:=hI hFH.out.res;have kr9:=fun i=>box_cell HRS9.out i;have kr9f:=fun i=>box_free HRS9.out i;have kr9z:=box_lt HRS9.out;have HL9:=hI (show Ex.Ats (From (w3.heap.size+2)) w9 [x] (some ⟨wr.heap.size,0,none⟩) from (exs_one (F:=From (w3.heap.size+2)) (w:=wr.drew) rfl (by show _≤wr.heap.size;omega) (HXF.out.keep kx (fun _ h=>h))).keep (Keep.gsT hg9 (by simp [From];omega) (Keep.refl _ _)) (fun _ h=>h))
      go_wp2_with fail
      refine hK.out _ _ ?s127 ?r127
      case s127=>exact HSB.out _ gw
      intro hHeld;clear hK K
      try simp only [Act.put,sS1,sS2,sS3]
      refine wpAny2_ready (rs:=[8]) (by kernel_rfl) (by simp) ?_;refine AllReady2.cons rfl (fun K hK=>?_) AllReady2.nil
      go_simp
      refine hK.out _ _ ?s128 ?r128
      case s128=>exact HSB.out _ gw
      intro hHeld;clear hK K
      try simp only [Act.put,sS1,sS2,sS3]
      refine wpAny2_ready (rs:=[9]) (by kernel_rfl) (by simp) ?_;refine AllReady2.cons rfl (fun K hK=>?_) AllReady2.nil
      go_simp
      refine hK.out _ _ ?s129 ?r129
      case s129=>exact HSB.out _ gw
      intro hHeld;clear hK K
      try simp only [Act.put,sS1,sS2,sS3]
      refine wpAny2_ready (rs:=[10]) (by kernel_rfl) (by simp) ?_;refine AllReady2.late rfl (by kernel_rfl) (fun K hK=>?_) AllReady2.nil
      go_simp
      refine hK.out _ _ ?_;clear hK K
      try simp only [Act.put,sS1,sS2,sS3]
      refine wpAnyG_done (by kernel_rfl) ?_ _
      go_wp2_with fail
      refine bodyPost_ret (v:=.agg #[.int .i64 ((St.mk 3 x2.line [] [x] [x9] [] ⟨#[]⟩)).kind,.int .i64 ((St.mk 3 x2.line [] [x] [x9] [] ⟨#[]⟩)).line,.slice ((⟨none,0,some ⟨wr.heap.size,0,none⟩,1,some ⟨w9.heap.size,0,none⟩,1,none,0⟩:SA)).na ((St.mk 3 x2.line [] [x] [x9] [] ⟨#[]⟩)).names.length ((⟨none,0,some ⟨wr.heap.size,0,none⟩,1,some ⟨w9.heap.size,0,none⟩,1,none,0⟩:SA)).nc,.slice ((⟨none,0,some ⟨wr.heap.size,0,none⟩,1,some ⟨w9.heap.size,0,none⟩,1,none,0⟩:SA)).la ((St.mk 3 x2.line [] [x] [x9] [] ⟨#[]⟩)).left.length ((⟨none,0,some ⟨wr.heap.size,0,none⟩,1,some ⟨w9.heap.size,0,none⟩,1,none,0⟩:SA)).lc,.slice ((⟨none,0,some ⟨wr.heap.size,0,none⟩,1,some ⟨w9.heap.size,0,none⟩,1,none,0⟩:SA)).ra ((St.mk 3 x2.line [] [x] [x9] [] ⟨#[]⟩)).right.length ((⟨none,0,some ⟨wr.heap.size,0,none⟩,1,some ⟨w9.heap.size,0,none⟩,1,none,0⟩:SA)).rc,.slice ((⟨none,0,some ⟨wr.heap.size,0,none⟩,1,some ⟨w9.heap.size,0,none⟩,1,none,0⟩:SA)).ba ((St.mk 3 x2.line [] [x] [x9] [] ⟨#[]⟩)).blocks.length ((⟨none,0,some ⟨wr.heap.size,0,none⟩,1,some ⟨w9.heap.size,0,none⟩,1,none,0⟩:SA)).bc,.string ((St.mk 3 x2.line [] [x] [x9] [] ⟨#[]⟩)).label]) (by
        have k8:=fun j=>box_cell (box_alloc (set7h HRS9.out (.int .i64 3) (.int .i64 x2.line) (.slice none 0 0) (.slice (some ⟨wr.heap.size,0,none⟩) 1 1) (.slice (some ⟨w9.heap.size,0,none⟩) 1 1) (.slice none 0 0) (.string ⟨#[]⟩)) (.cells #[.int .i64 x9.kind,.int .i64 x9.op,.int .i64 x9.line,.int .i64 x9.p,.int .i64 x9.q,.string x9.str,.slice d9.a x9.args.length d9.c,.slice d9.fa x9.funcs.length d9.fc] 37)) j;have s0:=k8 0;have s1:=k8 1;have s2:=k8 2;have s3:=k8 3;have s4:=k8 4;have s5:=k8 5;have s6:=k8 6;simp [results,Tryz.results91,go_sem,kr9z,s0,s1,s2,s3,s4,s5,s6];(try simp [St.kind,St.line,St.names,St.left,St.right,St.blocks,St.label])) rfl ?_
      exact Tells.yes HR gw (HA.out.ca kw) ⟨⟨none,0,some ⟨wr.heap.size,0,none⟩,1,some ⟨w9.heap.size,0,none⟩,1,none,0⟩,rfl,st_node ⟨⟨by decide,by decide⟩,HW2.out.2.2,size0⟩ no3 one3 one3 no3 Rows.zero
        (HL9.out.keep (Keep.alloc (Keep.st7 (Keep.refl _ _) (by simp [From];omega) _ _ _ _ _ _ _) _) (fr (by omega)))
        (exs_one (by simp) (by simp [From];omega) (HX9.out.keep (Keep.st7 (Keep.refl _ _) (by simp [From];omega) _ _ _ _ _ _ _) (fr (by simp;omega)))) trivial⟩
    · go_simp
      go_at_call 124;(with_reducible refine (Tells.step HR (HCL.out x2.line s true l' _ HW2.out.2.2 hsm hln' (HA.out.ca kw))).mono ?_);rintro e w9 (⟨l9,rfl,HR,hg9⟩|⟨x9,l9,u,rfl,⟨d9,rfl,hx9⟩,HM9,HR,HA,hg9⟩)
      · go_wp2_with fail
        exact ⟨rfl,Tells.no HR gw⟩
      have HX9:=hI hx9;clear hx9;have hz9:=hg9.size;simp at hz9;have hFH:=hI (hFH.out.go (gw:Gs C.p wr w9));have HRS9:=hI hFH.out.res;have kr9:=fun i=>box_cell HRS9.out i;have kr9f:=fun i=>box_free HRS9.out i;have kr9z:=box_lt HRS9.out
      go_wp2_with fail
      refine hK.out _ _ ?s130 ?r130
      case s130=>exact HSB.out _ gw
      intro hHeld;clear hK K
      try simp only [Act.put,sS1,sS2,sS3]
      refine wpAny2_ready (rs:=[2,8]) (by kernel_rfl) (by simp) ?_;refine AllReady2.cons rfl (fun K hK=>?_) (AllReady2.cons rfl (fun K hK=>?_) AllReady2.nil)
      · go_simp
        refine hK.out _ _ ?s131 ?r131
        case s131=>exact HSB.out _ gw
        intro hHeld;clear hK K
        try simp only [Act.put,sS1,sS2,sS3]
        refine wpAny2_ready (rs:=[8]) (by kernel_rfl) (by simp) ?_;refine AllReady2.cons rfl (fun K hK=>?_) AllReady2.nil
        go_simp
        refine hK.out _ _ ?s132 ?r132
        case s132=>exact HSB.out _ gw
        intro hHeld;clear hK K
        try simp only [Act.put,sS1,sS2,sS3]
        refine wpAny2_ready (rs:=[9]) (by kernel_rfl) (by simp) ?_;refine AllReady2.cons rfl (fun K hK=>?_) AllReady2.nil
        go_simp
        refine hK.out _ _ ?s133 ?r133
        case s133=>exact HSB.out _ gw
        exact yJNb
      · go_simp
        refine hK.out _ _ ?s134 ?r134
        case s134=>exact HSB.out _ gw
        intro hHeld;clear hK K
        try simp only [Act.put,sS1,sS2,sS3]
        refine wpAny2_ready (rs:=[2]) (by kernel_rfl) (by simp) ?_;refine AllReady2.cons rfl (fun K hK=>?_) AllReady2.nil
        go_simp
        refine hK.out _ _ ?s135 ?r135
        case s135=>exact HSB.out _ gw
        intro hHeld;clear hK K
        try simp only [Act.put,sS1,sS2,sS3]
        refine wpAny2_ready (rs:=[9]) (by kernel_rfl) (by simp) ?_;refine AllReady2.cons rfl (fun K hK=>?_) AllReady2.nil
        go_simp
        refine hK.out _ _ ?s136 ?r136
        case s136=>exact HSB.out _ gw
        exact yJNc
end Go.Proofs.YtaddbmkkkollpaaGreatDoor
