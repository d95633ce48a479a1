import Derived.Test.YtaddbmkkkollpaaGreatDoorJH
set_option linter.all false
namespace Go.Proofs.YtaddbmkkkollpaaGreatDoor
open Go.RowKit
theorem yy {C:PC} {w:World} {l l1:List Tk} {t:Tk} (h:C.At w l) (hm:bJ l=.ok t l1):t ∈ C.L:=by
  cases l with
  | nil=>cases hm
  | cons t' r=>cases hm;obtain ⟨i,-,-,ht,-⟩:=h.cut;exact KR ht
theorem wM {C:PC} {w:World} {l l1:List Tk} {t:Tk} (h:C.At w l) (hm:bI l=.ok t l1):t ∈ C.L:=by
  unfold bI at hm;split at hm
  · exact yy h hm
  · cases hm
def o8 (m:Bool) (n:Nat) (e:Ex) (s:Sb) (l:List Tk):az (Ex × Sb × Bool):=match m with
  | true=>.ok (e,s,true) l
  | false=>jN n e s l
abbrev rX (k:Nat) (e:Ex) (s:Sb) (l:List Tk) (f:Ex × Sb × Bool→List Tk→az St):az St:=(bJ l).bind fun t l1=>(bI l1).bind fun n l2=>(o8 (t.text.toList==[58]) k (ck 8 t.line [e,bE 5 n.line n.text]) (s++t.text.data.toList++n.text.data.toList) l2).bind f
theorem G6 (k:Nat) (e:Ex) (s:Sb) (l:List Tk) (f:Ex × Sb × Bool→List Tk→az St):(jN (k+1) e s l).bind f=if ar [46] l=true then rX k e s l f else if ar [58] l=true then rX k e s l f else f (e,s,false) l:=by
  have h1:(ar [46] l=true∨ar [58] l=true)→((bI l.tail).bind fun n l1=>if (aa l).text.data.toList=[58] then az.ok (ck 8 (aa l).line [e,bE 5 n.line n.text],s++(aa l).text.data.toList++n.text.data.toList,true) l1 else jN k (ck 8 (aa l).line [e,bE 5 n.line n.text]) (s++(aa l).text.data.toList++n.text.data.toList) l1).bind f=rX k e s l f:=fun h=>by
    cases l with
    | nil=>rcases h with h|h <;> cases h
    | cons t r =>
      show ((bI r).bind _).bind f=(bI r).bind _;rw [fS];refine jn fun n l2=>?_;show (if t.text.data.toList=[58] then _ else _:az (Ex × Sb × Bool)).bind f=(o8 (t.text.toList==[58]) _ _ _ _).bind f;by_cases h5:t.text.data.toList=[58]
      · rw [if_pos h5,show (t.text.toList==[58])=true from by rw [ByteArray.toList_eq,h5];rfl];rfl
      · rw [if_neg h5,show (t.text.toList==[58])=false from bF h5];rfl
  rw [jN];by_cases h:ar [46] l=true
  · rw [if_pos (.inl h),if_pos h];exact h1 (.inl h)
  · rw [if_neg h];by_cases h2:ar [58] l=true
    · rw [if_pos (.inr h2),if_pos h2];exact h1 (.inr h2)
    · rw [if_neg (by rintro (h3|h3);exact h h3;exact h2 h3),if_neg h2];rfl
abbrev qQ (B:BF) (line:Int) (x:Ex × Sb × Bool) (l3:List Tk):az St:=(el B line (bL x.2.1) x.2.2 l3).bind fun c l4=>.ok (.mk 3 line [] [x.1] [c] [] ⟨#[]⟩) l4
theorem DW (B:BF) (l:List Tk):jD B l=(bJ l).bind fun f l1=>(bI l1).bind fun t l2=>(o8 false (l2.length+1) (bE 7 t.line t.text) t.text.data.toList l2).bind (qQ B f.line):=rfl
structure iB (C:PC) (w:World) (b2:Nat) (wr:World) (x:Ex) (d:EA):Prop where
  gs:Gs C.p w wr
  p1:C.p<w.heap.size
  b02:w.heap.size<b2
  bw:b2<wr.heap.size
  res:wr.heap[w.heap.size]?=some (.cells eb 64)
  box:wr.heap[b2]?=some (.cells #[.int .i64 x.kind,.int .i64 x.op,.int .i64 x.line,.int .i64 x.p,.int .i64 x.q,.string x.str,.slice d.a x.args.length d.c,.slice d.fa x.funcs.length d.fc] 37)
  at_:x.At (ay (b2+1)) wr d
theorem iB.go {C:PC} {w wr w':World} {b2:Nat} {x:Ex} {d:EA} (h:iB C w b2 wr x d) (hg:Gs C.p wr w'):iB C w b2 w' x d:=by
  have h1:=h.p1;have h2:=h.b02;exact ⟨hg.thru h.gs,h1,h2,KS h.bw hg.size,hg.box h.res (by omega),hg.box h.box (by omega),h.at_.keep (hg.keep (by simp [ay];omega)) (fun _ h=>h)⟩
theorem iB.put {C:PC} {w wr W:World} {b2:Nat} {x y:Ex} {d dy:EA} (h:iB C w b2 wr x d)
    (hW:Gs C.p (st8 wr b2 (.int .i64 y.kind) (.int .i64 y.op) (.int .i64 y.line) (.int .i64 y.p) (.int .i64 y.q) (.string y.str) (.slice dy.a y.args.length dy.c) (.slice dy.fa y.funcs.length dy.fc)) W) (hy:y.At (ay (b2+1)) W dy):iB C w b2 W y dy:=by
  have h1:=h.p1;have h2:=h.b02;exact ⟨hW.thru (h.gs.st8 (by omega) _ _ _ _ _ _ _ _),h1,h2,KS (by rw [dJ];exact h.bw) hW.size,hW.box (ki h.res (by omega) _ _ _ _ _ _ _ _) (by omega),hW.box (eL h.box _ _ _ _ _ _ _ _) (by omega),hy⟩
theorem zv {P:Prop} (h:P:=by
  go_upto_region 12 with (first
    | (go_at_call 88;(with_reducible refine (ai.step HR (fL C l' _ (HA.out.ca kw))).mono ?_);rintro e w6 (⟨l6,rfl,HR,hg6⟩|⟨x6,l6,u,rfl,⟨rfl,hw6⟩,HM6,HR,HA,hg6⟩);rotate_left);(have HA7:=HA;have HW6:=hI hw6;clear hw6;have ht6:=HT.out _ (yy (HA6.out) HM6.out);have hFH:=hI (hFH.out.go hg6);have hz6:=hg6.size;have hs6:l6.length+1≤l'.length:=dh _ _ _ HM6.out;have HEB:=hI hFH.out.box;have ke:=fun i=>ac HEB.out i;have kef:=fun i=>ag HEB.out i;have kez:=ae HEB.out)
    | (go_at_call 97;(with_reducible refine (ai.step HR (ii C l6 _ (HA.out.ca kw))).mono ?_);rintro e w7 (⟨l7,rfl,HR,hg7⟩|⟨x7,l7,u,rfl,⟨rfl,hw7⟩,HM7,HR,HA,hg7⟩);rotate_left);(have HW7:=hI hw7;clear hw7;have ht7:=HT.out _ (wM HA7.out HM7.out);have hFH:=hI ((hFH.out.go (gw:Gs C.p w6 (w6.alloc (.cells #[.int .i64 x6.kind,.string x6.text,.int .i64 x6.line,.int .i64 x6.pos] 163)))).go hg7);have hz7:=hg7.size;simp at hz7;have hs7:l7.length+1≤l6.length:=du _ _ _ HM7.out;have HEB:=hI hFH.out.box;have HTK:=hI (hg7.box (aA rfl) (by omega));have ke:=fun i=>ac HEB.out i;have kef:=fun i=>ag HEB.out i;have kez:=ae HEB.out;have kt:=fun i=>ac HTK.out i;have ktf:=fun i=>ag HTK.out i;have ktz:=ae HTK.out;have kew:=Nat.lt_of_succ_lt kez))
  case inl=>exact ⟨rfl,ai.no HR gw⟩
  case inl=>exact ⟨rfl,ai.no HR gw⟩
  have n1:¬ 9223372036854775807<x6.text.size+x7.text.size:=by omega
  have n2:¬ 9223372036854775807<s.size+(x6.text.size+x7.text.size):=by omega
  have HSL:=hI (And.intro hsl (And.intro ht6 ht7));clear hsl ht6 ht7 ht3;have q3:w3.heap.size+1<w6.heap.size:=by omega
  have q4:w6.heap.size<w7.heap.size:=by omega
  have hFW:iB C w (w3.heap.size+1) ((((st8 w7 (w3.heap.size+1) (.int .i64 8) (.int .i64 0) (.int .i64 x6.line) (.int .i64 0) (.int .i64 0) (.string ⟨#[]⟩) (.slice (some ⟨w7.heap.size+1+1,0,none⟩) 2 2) (.slice none 0 0)).alloc (.cells #[.int .i64 x7.kind,.string x7.text,.int .i64 x7.line,.int .i64 x7.pos] 163)).alloc (.cells #[.int .i64 5,.int .i64 0,.int .i64 x7.line,.int .i64 0,.int .i64 0,.string x7.text,.slice none 0 0,.slice none 0 0] 37)).alloc (.cells #[.int .i64 x.kind,.int .i64 x.op,.int .i64 x.line,.int .i64 x.p,.int .i64 x.q,.string x.str,.slice d.a x.args.length d.c,.slice d.fa x.funcs.length d.fc,.int .i64 5,.int .i64 0,.int .i64 x7.line,.int .i64 0,.int .i64 0,.string x7.text,.slice none 0 0,.slice none 0 0] 37)) (ck 8 x6.line [x,bE 5 x7.line x7.text]) ⟨some ⟨w7.heap.size+1+1,0,none⟩,2,none,0⟩ :=
    hFH.out.put (y:=ck 8 x6.line [x,bE 5 x7.line x7.text]) (dy:=⟨some ⟨w7.heap.size+1+1,0,none⟩,2,none,0⟩) ((((Gs.refl _ _).alloc _).alloc _).alloc _) (jK (xs:=[x,bE 5 x7.line x7.text]) ⟨⟨by decide,by decide⟩,aT,HW6.out.2.2,aT,aT,cm⟩ (KU _) (by unfold MX;decide) (by simp)
      (mX (y:=bE 5 x7.line x7.text) (dy:=⟨none,0,none,0⟩) (by simp [dJ]) (by simp [ay,dJ];omega) (hFH.out.at_.keep (af.alloc (af.alloc (af.st8 (af.refl _ _) (by simp [ay]) _ _ _ _ _ _ _ _) _) _) (fun _ h=>h)) (jF ⟨⟨by decide,by decide⟩,aT,HW7.out.2.2,aT,aT,HW7.out.1⟩)))
  have hAW:C.At ((((st8 w7 (w3.heap.size+1) (.int .i64 8) (.int .i64 0) (.int .i64 x6.line) (.int .i64 0) (.int .i64 0) (.string ⟨#[]⟩) (.slice (some ⟨w7.heap.size+1+1,0,none⟩) 2 2) (.slice none 0 0)).alloc (.cells #[.int .i64 x7.kind,.string x7.text,.int .i64 x7.line,.int .i64 x7.pos] 163)).alloc (.cells #[.int .i64 5,.int .i64 0,.int .i64 x7.line,.int .i64 0,.int .i64 0,.string x7.text,.slice none 0 0,.slice none 0 0] 37)).alloc (.cells #[.int .i64 x.kind,.int .i64 x.op,.int .i64 x.line,.int .i64 x.p,.int .i64 x.q,.string x.str,.slice d.a x.args.length d.c,.slice d.fa x.funcs.length d.fc,.int .i64 5,.int .i64 0,.int .i64 x7.line,.int .i64 0,.int .i64 0,.string x7.text,.slice none 0 0,.slice none 0 0] 37)) l7:=((((HA.out.st8 (by omega) _ _ _ _ _ _ _ _).alloc _).alloc _).alloc _)
  have hK6:((((st8 w7 (w3.heap.size+1) (.int .i64 8) (.int .i64 0) (.int .i64 x6.line) (.int .i64 0) (.int .i64 0) (.string ⟨#[]⟩) (.slice (some ⟨w7.heap.size+1+1,0,none⟩) 2 2) (.slice none 0 0)).alloc (.cells #[.int .i64 x7.kind,.string x7.text,.int .i64 x7.line,.int .i64 x7.pos] 163)).alloc (.cells #[.int .i64 5,.int .i64 0,.int .i64 x7.line,.int .i64 0,.int .i64 0,.string x7.text,.slice none 0 0,.slice none 0 0] 37)).alloc (.cells #[.int .i64 x.kind,.int .i64 x.op,.int .i64 x.line,.int .i64 x.p,.int .i64 x.q,.string x.str,.slice d.a x.args.length d.c,.slice d.fa x.funcs.length d.fc,.int .i64 5,.int .i64 0,.int .i64 x7.line,.int .i64 0,.int .i64 0,.string x7.text,.slice none 0 0,.slice none 0 0] 37)).heap[w6.heap.size]?=some (.cells #[.int .i64 x6.kind,.string x6.text,.int .i64 x6.line,.int .i64 x6.pos] 163):=ax (ax (ax (ki HTK.out (by omega) _ _ _ _ _ _ _ _) _) _) _;have hK7:((((st8 w7 (w3.heap.size+1) (.int .i64 8) (.int .i64 0) (.int .i64 x6.line) (.int .i64 0) (.int .i64 0) (.string ⟨#[]⟩) (.slice (some ⟨w7.heap.size+1+1,0,none⟩) 2 2) (.slice none 0 0)).alloc (.cells #[.int .i64 x7.kind,.string x7.text,.int .i64 x7.line,.int .i64 x7.pos] 163)).alloc (.cells #[.int .i64 5,.int .i64 0,.int .i64 x7.line,.int .i64 0,.int .i64 0,.string x7.text,.slice none 0 0,.slice none 0 0] 37)).alloc (.cells #[.int .i64 x.kind,.int .i64 x.op,.int .i64 x.line,.int .i64 x.p,.int .i64 x.q,.string x.str,.slice d.a x.args.length d.c,.slice d.fa x.funcs.length d.fc,.int .i64 5,.int .i64 0,.int .i64 x7.line,.int .i64 0,.int .i64 0,.string x7.text,.slice none 0 0,.slice none 0 0] 37)).heap[w7.heap.size]?=some (.cells #[.int .i64 x7.kind,.string x7.text,.int .i64 x7.line,.int .i64 x7.pos] 163):=ax (ax (aA (by rw [dJ])) _) _;generalize ((((st8 w7 (w3.heap.size+1) (.int .i64 8) (.int .i64 0) (.int .i64 x6.line) (.int .i64 0) (.int .i64 0) (.string ⟨#[]⟩) (.slice (some ⟨w7.heap.size+1+1,0,none⟩) 2 2) (.slice none 0 0)).alloc (.cells #[.int .i64 x7.kind,.string x7.text,.int .i64 x7.line,.int .i64 x7.pos] 163)).alloc (.cells #[.int .i64 5,.int .i64 0,.int .i64 x7.line,.int .i64 0,.int .i64 0,.string x7.text,.slice none 0 0,.slice none 0 0] 37)).alloc (.cells #[.int .i64 x.kind,.int .i64 x.op,.int .i64 x.line,.int .i64 x.p,.int .i64 x.q,.string x.str,.slice d.a x.args.length d.c,.slice d.fa x.funcs.length d.fc,.int .i64 5,.int .i64 0,.int .i64 x7.line,.int .i64 0,.int .i64 0,.string x7.text,.slice none 0 0,.slice none 0 0] 37))=wc at hFW hAW hK6 hK7 ⊢
  have HFW:=hI hFW;have HAW:=hI hAW;have HTK:=hI hK6;have HTN:=hI hK7;clear hFW hAW hK6 hK7;clear ke kef kez kew kt ktf ktz kr krf krz;have kt:=fun i=>ac HTK.out i;have ktf:=fun i=>ag HTK.out i;have ktz:=ae HTK.out;have kn:=fun i=>ac HTN.out i;have knf:=fun i=>ag HTN.out i;have knz:=ae HTN.out
  go_wp2_with fail
  go_roundg k
  case rel=>exact ⟨s++(x6.text++x7.text),x6.text.toList==[58],ck 8 x6.line [x,bE 5 x7.line x7.text],⟨some ⟨w7.heap.size+1+1,0,none⟩,2,none,0⟩,l7,rfl,rfl,fun _=>by omega,hI (by rw [HR.out,show (s++(x6.text++x7.text)).data.toList=s.data.toList++x6.text.data.toList++x7.text.data.toList from by simp [List.append_assoc]]),HAW,HFW,by omega,by have h9:=HSL.out;simp only [ByteArray.size_append];omega⟩
  case measure=>omega):P:=h
theorem zw {P:Prop} (h:P:=by
  intro hHeld;clear hK K
  try simp only [Act.put,al,am,ap]
  refine aC (rs:=[10]) (by kernel_rfl) (by simp) ?_;refine ah.late rfl (by kernel_rfl) (fun K hK=>?_) ah.nil
  go_simp
  refine hK.out _ _ ?_;clear hK K
  try simp only [Act.put,al,am,ap]
  refine cJ (by kernel_rfl) ?_ _
  go_wp2_with fail
  refine bodyPost_ret (v:=.agg #[.int .i64 ((St.mk 3 x2.line [] [x] [x9] [] ⟨#[]⟩)).kind,.int .i64 ((St.mk 3 x2.line [] [x] [x9] [] ⟨#[]⟩)).line,.slice ((⟨none,0,some ⟨w9.heap.size,0,none⟩,1,some ⟨w9.heap.size+1,0,none⟩,1,none,0⟩:SA)).na ((St.mk 3 x2.line [] [x] [x9] [] ⟨#[]⟩)).names.length ((⟨none,0,some ⟨w9.heap.size,0,none⟩,1,some ⟨w9.heap.size+1,0,none⟩,1,none,0⟩:SA)).nc,.slice ((⟨none,0,some ⟨w9.heap.size,0,none⟩,1,some ⟨w9.heap.size+1,0,none⟩,1,none,0⟩:SA)).la ((St.mk 3 x2.line [] [x] [x9] [] ⟨#[]⟩)).left.length ((⟨none,0,some ⟨w9.heap.size,0,none⟩,1,some ⟨w9.heap.size+1,0,none⟩,1,none,0⟩:SA)).lc,.slice ((⟨none,0,some ⟨w9.heap.size,0,none⟩,1,some ⟨w9.heap.size+1,0,none⟩,1,none,0⟩:SA)).ra ((St.mk 3 x2.line [] [x] [x9] [] ⟨#[]⟩)).right.length ((⟨none,0,some ⟨w9.heap.size,0,none⟩,1,some ⟨w9.heap.size+1,0,none⟩,1,none,0⟩:SA)).rc,.slice ((⟨none,0,some ⟨w9.heap.size,0,none⟩,1,some ⟨w9.heap.size+1,0,none⟩,1,none,0⟩:SA)).ba ((St.mk 3 x2.line [] [x] [x9] [] ⟨#[]⟩)).blocks.length ((⟨none,0,some ⟨w9.heap.size,0,none⟩,1,some ⟨w9.heap.size+1,0,none⟩,1,none,0⟩:SA)).bc,.string ((St.mk 3 x2.line [] [x] [x9] [] ⟨#[]⟩)).label]) (by
    have k8:=fun j=>ac (ax (ax (ey HRS9.out (.int .i64 3) (.int .i64 x2.line) (.slice none 0 0) (.slice (some ⟨w9.heap.size,0,none⟩) 1 1) (.slice (some ⟨w9.heap.size+1,0,none⟩) 1 1) (.slice none 0 0) (.string ⟨#[]⟩)) (.cells #[.int .i64 x.kind,.int .i64 x.op,.int .i64 x.line,.int .i64 x.p,.int .i64 x.q,.string x.str,.slice d.a x.args.length d.c,.slice d.fa x.funcs.length d.fc] 37)) (.cells #[.int .i64 x9.kind,.int .i64 x9.op,.int .i64 x9.line,.int .i64 x9.p,.int .i64 x9.q,.string x9.str,.slice d9.a x9.args.length d9.c,.slice d9.fa x9.funcs.length d9.fc] 37)) j;have s0:=k8 0;have s1:=k8 1;have s2:=k8 2;have s3:=k8 3;have s4:=k8 4;have s5:=k8 5;have s6:=k8 6;simp [results,Tryz.results91,go_sem,kr9z,s0,s1,s2,s3,s4,s5,s6];(try simp [St.kind,St.line,St.names,St.left,St.right,St.blocks,St.label])) rfl ?_
  exact ai.yes HR gw (HA.out.ca kw) ⟨⟨none,0,some ⟨w9.heap.size,0,none⟩,1,some ⟨w9.heap.size+1,0,none⟩,1,none,0⟩,rfl,dX ⟨⟨by decide,by decide⟩,HW2.out.2.2,cm⟩ aY gl gl aY aj.zero
    (Ex.Ats.keep (af.alloc (af.refl (ay w.heap.size) _) _) (fun _ h=>h) (fX (by simp) (by simp [ay];omega) (hFH.out.at_.keep (af.st7 (af.refl _ _) (by simp [ay];omega) _ _ _ _ _ _ _) (fr (by omega)))))
    (fX (by simp) (by simp [ay];omega) (HX9.out.keep (af.alloc (af.st7 (af.refl _ _) (by simp [ay];omega) _ _ _ _ _ _ _) _) (fr (by simp;omega)))) trivial⟩):P:=h
theorem zx {P:Prop} (h:P:=by
  intro hHeld;clear hK K
  try simp only [Act.put,al,am,ap]
  refine aC (rs:=[10]) (by kernel_rfl) (by simp) ?_;refine ah.late rfl (by kernel_rfl) (fun K hK=>?_) ah.nil
  go_simp
  refine hK.out _ _ ?_;clear hK K
  try simp only [Act.put,al,am,ap]
  refine cJ (by kernel_rfl) ?_ _
  go_wp2_with fail
  refine bodyPost_ret (v:=.agg #[.int .i64 ((St.mk 3 x2.line [] [x] [x9] [] ⟨#[]⟩)).kind,.int .i64 ((St.mk 3 x2.line [] [x] [x9] [] ⟨#[]⟩)).line,.slice ((⟨none,0,some ⟨w9.heap.size+1,0,none⟩,1,some ⟨w9.heap.size,0,none⟩,1,none,0⟩:SA)).na ((St.mk 3 x2.line [] [x] [x9] [] ⟨#[]⟩)).names.length ((⟨none,0,some ⟨w9.heap.size+1,0,none⟩,1,some ⟨w9.heap.size,0,none⟩,1,none,0⟩:SA)).nc,.slice ((⟨none,0,some ⟨w9.heap.size+1,0,none⟩,1,some ⟨w9.heap.size,0,none⟩,1,none,0⟩:SA)).la ((St.mk 3 x2.line [] [x] [x9] [] ⟨#[]⟩)).left.length ((⟨none,0,some ⟨w9.heap.size+1,0,none⟩,1,some ⟨w9.heap.size,0,none⟩,1,none,0⟩:SA)).lc,.slice ((⟨none,0,some ⟨w9.heap.size+1,0,none⟩,1,some ⟨w9.heap.size,0,none⟩,1,none,0⟩:SA)).ra ((St.mk 3 x2.line [] [x] [x9] [] ⟨#[]⟩)).right.length ((⟨none,0,some ⟨w9.heap.size+1,0,none⟩,1,some ⟨w9.heap.size,0,none⟩,1,none,0⟩:SA)).rc,.slice ((⟨none,0,some ⟨w9.heap.size+1,0,none⟩,1,some ⟨w9.heap.size,0,none⟩,1,none,0⟩:SA)).ba ((St.mk 3 x2.line [] [x] [x9] [] ⟨#[]⟩)).blocks.length ((⟨none,0,some ⟨w9.heap.size+1,0,none⟩,1,some ⟨w9.heap.size,0,none⟩,1,none,0⟩:SA)).bc,.string ((St.mk 3 x2.line [] [x] [x9] [] ⟨#[]⟩)).label]) (by
    have k8:=fun j=>ac (ax (ax (ey HRS9.out (.int .i64 3) (.int .i64 x2.line) (.slice none 0 0) (.slice (some ⟨w9.heap.size+1,0,none⟩) 1 1) (.slice (some ⟨w9.heap.size,0,none⟩) 1 1) (.slice none 0 0) (.string ⟨#[]⟩)) (.cells #[.int .i64 x9.kind,.int .i64 x9.op,.int .i64 x9.line,.int .i64 x9.p,.int .i64 x9.q,.string x9.str,.slice d9.a x9.args.length d9.c,.slice d9.fa x9.funcs.length d9.fc] 37)) (.cells #[.int .i64 x.kind,.int .i64 x.op,.int .i64 x.line,.int .i64 x.p,.int .i64 x.q,.string x.str,.slice d.a x.args.length d.c,.slice d.fa x.funcs.length d.fc] 37)) j;have s0:=k8 0;have s1:=k8 1;have s2:=k8 2;have s3:=k8 3;have s4:=k8 4;have s5:=k8 5;have s6:=k8 6;simp [results,Tryz.results91,go_sem,kr9z,s0,s1,s2,s3,s4,s5,s6];(try simp [St.kind,St.line,St.names,St.left,St.right,St.blocks,St.label])) rfl ?_
  exact ai.yes HR gw (HA.out.ca kw) ⟨⟨none,0,some ⟨w9.heap.size+1,0,none⟩,1,some ⟨w9.heap.size,0,none⟩,1,none,0⟩,rfl,dX ⟨⟨by decide,by decide⟩,HW2.out.2.2,cm⟩ aY gl gl aY aj.zero
    (fX (by simp) (by simp [ay];omega) (hFH.out.at_.keep (af.alloc (af.st7 (af.refl _ _) (by simp [ay];omega) _ _ _ _ _ _ _) _) (fr (by omega))))
    (Ex.Ats.keep (af.alloc (af.refl (ay w.heap.size) _) _) (fun _ h=>h) (fX (by simp) (by simp [ay];omega) (HX9.out.keep (af.st7 (af.refl _ _) (by simp [ay];omega) _ _ _ _ _ _ _) (fr (by simp;omega))))) trivial⟩):P:=h
set_option maxRecDepth 100000 in
set_option maxHeartbeats 4000000 in
theorem DZ {C:PC} {B:BF} {n:Nat} (hB:BC C B n) (hLB:SB B) (hT:∀ t ∈ C.L,t.text.size≤65536) (l:List Tk) (w:World) (hl:l.length≤n) (h:C.At w l) :
    Calls Tryz.prog 91 #[co C] w (ai C fI (jD B l) w):=by
  have HA:=hI h;have hp:=h.lt;have hl6:=h.len;have hpn:w.heap.size≠C.p:=by omega
  have HCL:=hI (qo hB hLB);have hn0:=hl;have HT:=hI hT;generalize hR:jD B l=R;have HR:=hI (hR.symm.trans (DW B l));clear hR h hB hLB hl hT;have tf1:=fun t=>iu t;have tf2:=fun t=>mg t
  go_enter Tryz.func91,Tryz.ntmps91
  go_wp2_with (first
    | (go_at_call 88;(with_reducible refine (ai.step HR (fL C l _ (HA.out.ca kw))).mono ?_);rintro e w2 (⟨l2,rfl,HR,hg2⟩|⟨x2,l2,u,rfl,⟨rfl,hw2⟩,HM2,HR,HA,hg2⟩);rotate_left);(have HW2:=hI hw2;clear hw2;have hz2:=hg2.size;simp at hz2;have hs2:l2.length+1≤l.length:=dh _ _ _ HM2.out;have HRS:=hI (hg2.box (aA rfl) hpn);have HA2:=HA)
    | (go_at_call 97;(with_reducible refine (ai.step HR (ii C l2 _ (HA.out.ca kw))).mono ?_);rintro e w3 (⟨l3,rfl,HR,hg3⟩|⟨x3,l3,u,rfl,⟨rfl,hw3⟩,HM3,HR,HA,hg3⟩);rotate_left);(have HW3:=hI hw3;clear hw3;have hz3:=hg3.size;have hs3:l3.length+1≤l2.length:=du _ _ _ HM3.out;have HRS:=hI (hg3.box HRS.out (by omega));have ht3:=HT.out _ (wM HA2.out HM3.out)))
  case inl=>exact ⟨rfl,ai.no HR gw⟩
  case inl=>exact ⟨rfl,ai.no HR gw⟩
  have hFH:=hI (show iB C w (w3.heap.size+1) ((w3.alloc (.cells #[.int .i64 x3.kind,.string x3.text,.int .i64 x3.line,.int .i64 x3.pos] 163)).alloc (.cells #[.int .i64 (bE 7 x3.line x3.text).kind,.int .i64 (bE 7 x3.line x3.text).op,.int .i64 (bE 7 x3.line x3.text).line,.int .i64 (bE 7 x3.line x3.text).p,.int .i64 (bE 7 x3.line x3.text).q,.string (bE 7 x3.line x3.text).str,.slice ((⟨none,0,none,0⟩:EA)).a (bE 7 x3.line x3.text).args.length ((⟨none,0,none,0⟩:EA)).c,.slice ((⟨none,0,none,0⟩:EA)).fa (bE 7 x3.line x3.text).funcs.length ((⟨none,0,none,0⟩:EA)).fc] 37)) (bE 7 x3.line x3.text) ⟨none,0,none,0⟩ from
    ⟨gw,hp,by omega,by simp,ax (ax HRS.out _) _,aA (by simp),jF ⟨⟨by decide,by decide⟩,aT,HW3.out.2.2,aT,aT,HW3.out.1⟩⟩)
  clear HRS;have hlq:=HA.out.len
  go_loopg [6,7,8,9,10] (l3.length+1) (fun gk v6 v7 _ _ _ wr=>∃ (s:ByteArray) (m:Bool) (x:Ex) (d:EA) (l':List Tk),v6=.string s∧v7=.bool m∧(m=false→l'.length<gk)∧Hid (R=(o8 m gk x s.data.toList l').bind (qQ B x2.line))∧Hid (C.At wr l')∧Hid (iB C w (w3.heap.size+1) wr x d)∧l'.length<n∧s.size+l'.length*131072≤8600000000)
  case atStart=>exact ⟨x3.text,false,bE 7 x3.line x3.text,⟨none,0,none,0⟩,l3,rfl,rfl,fun _=>Nat.lt_succ_self _,HR,hI (HA.out.ca kw),hFH,by omega,by omega⟩
  case round =>
  clear HA HR hFH;obtain ⟨s,m,x,d,l',rfl,rfl,hgk,HR,HA,hFH,hln,hsl⟩:=hrel;have hgT:=hFH.out.gs;have hbw:=hFH.out.bw;have htl:=cN l';have HEB:=hI hFH.out.box;have HRS:=hI hFH.out.res;have ke:=fun i=>ac HEB.out i;have kef:=fun i=>ag HEB.out i;have kez:=ae HEB.out;have kr:=fun i=>ac HRS.out i;have krf:=fun i=>ag HRS.out i;have krz:=ae HRS.out;cases m
  · obtain ⟨k,rfl⟩:∃ k,gk=k+1:=⟨gk - 1,by have:=hgk rfl;omega⟩
    have hgk:=hgk rfl;have HR:=hI (HR.out.trans (G6 k x s.data.toList l' _))
    go_wp2_with (first
      | (go_at_call 58;(with_reducible refine (kE C [46] l' _ HR (HA.out.ca kw)).mono ?_);rintro e w4 (⟨rfl,HB4,HR,HA,hg4⟩|⟨rfl,-,HR,HA,hg4⟩) <;> (have HA6:=HA;have hFH:=hI (hFH.out.go hg4);have hz4:=hg4.size;have HEB:=hI hFH.out.box;have HRS:=hI hFH.out.res;have ke:=fun i=>ac HEB.out i;have kef:=fun i=>ag HEB.out i;have kez:=ae HEB.out;have kr:=fun i=>ac HRS.out i;have krf:=fun i=>ag HRS.out i;have krz:=ae HRS.out))
      | (go_at_call 58;(with_reducible refine (kE C [58] l' _ HR (HA.out.ca kw)).mono ?_);rintro e w5 (⟨rfl,HB4,HR,HA,hg5⟩|⟨rfl,-,HR,HA,hg5⟩) <;> (have HA6:=HA;have hFH:=hI (hFH.out.go hg5);have hz5:=hg5.size;have HEB:=hI hFH.out.box;have HRS:=hI hFH.out.res;have ke:=fun i=>ac HEB.out i;have kef:=fun i=>ag HEB.out i;have kez:=ae HEB.out;have kr:=fun i=>ac HRS.out i;have krf:=fun i=>ag HRS.out i;have krz:=ae HRS.out))
      | fail)
    · exact zv
    · exact zv
    · have HXF:=hI hFH.out.at_
      replace HR:=hI (show R=(el B x2.line s false l').bind fun c l4=>.ok (.mk 3 x2.line [] [x] [c] [] ⟨#[]⟩) l4 from by rw [HR.out];show (el B x2.line (bL s.data.toList) false l').bind _=_;rw [show bL s.data.toList=s from by unfold bL;rw [Array.toArray_toList]])
      have hsm:s.size≤MX:=by unfold MX;omega
      have hln':l'.length≤n:=by omega
      have hbF:=hFH.out.bw;have hzF:=hFH.out.b02;have HSB:=hI (show ∀ w',Gs C.p w5 w'→(∀ i,w'.cell? ⟨w3.heap.size+1,i,none⟩=#[.int .i64 x.kind,.int .i64 x.op,.int .i64 x.line,.int .i64 x.p,.int .i64 x.q,.string x.str,.slice d.a x.args.length d.c,.slice d.fa x.funcs.length d.fc][i]?) from fun w' hg=>fun i=>ac (hg.box HEB.out (by omega)) i);refine cX (c:=10) (T:=(fun w'=>(∀ i,w'.cell? ⟨w3.heap.size+1,i,none⟩=#[.int .i64 x.kind,.int .i64 x.op,.int .i64 x.line,.int .i64 x.p,.int .i64 x.q,.string x.str,.slice d.a x.args.length d.c,.slice d.fa x.funcs.length d.fc][i]?))) (by kernel_rfl) ?s101 ?r101
      case s101=>exact HSB.out _ gw
      intro hHeld;refine tG 0 ?_;refine lG 1 [2,9,10] ?_;refine tG 3 ?_;refine tG 4 ?_;refine tG 5 ?_;refine tG 6 ?_;refine aC (rs:=[2,7]) (by kernel_rfl) (by simp) ?_;refine ah.cons rfl (fun K hK=>?_) (ah.cons rfl (fun K hK=>?_) ah.nil)
      · go_simp
        refine hK.out _ _ ?s108 ?r108
        case s108=>exact HSB.out _ gw
        intro hHeld;clear hK K
        try simp only [Act.put,al,am,ap]
        refine aC (rs:=[7]) (by kernel_rfl) (by simp) ?_;refine ah.cons rfl (fun K hK=>?_) ah.nil
        go_simp
        go_at_call 124;(with_reducible refine (ai.step HR (HCL.out x2.line s false l' _ HW2.out.2.2 hsm hln' (HA.out.ca kw))).mono ?_);rintro e w9 (⟨l9,rfl,HR,hg9⟩|⟨x9,l9,u,rfl,⟨d9,rfl,hx9⟩,HM9,HR,HA,hg9⟩)
        · go_wp2_with fail
          exact ⟨rfl,ai.no HR gw⟩
        have HX9:=hI hx9;clear hx9;have hz9:=hg9.size;simp at hz9;have hFH:=hI (hFH.out.go (gw:Gs C.p w5 w9));have HRS9:=hI hFH.out.res;have kr9:=fun i=>ac HRS9.out i;have kr9f:=fun i=>ag HRS9.out i;have kr9z:=ae HRS9.out;have HL9:=hI (show Ex.Ats (ay (w3.heap.size+2)) w9 [x] (some ⟨w5.heap.size,0,none⟩) from (fX (F:=ay (w3.heap.size+2)) (w:=w5.drew) rfl (by show _≤w5.heap.size;omega) (HXF.out.keep kx (fun _ h=>h))).keep (af.gsT hg9 (by simp [ay];omega) (af.refl _ _)) (fun _ h=>h))
        go_wp2_with fail
        refine hK.out _ _ ?s109 ?r109
        case s109=>exact HSB.out _ gw
        intro hHeld;clear hK K
        try simp only [Act.put,al,am,ap]
        refine aC (rs:=[8]) (by kernel_rfl) (by simp) ?_;refine ah.cons rfl (fun K hK=>?_) ah.nil
        go_simp
        refine hK.out _ _ ?s110 ?r110
        case s110=>exact HSB.out _ gw
        intro hHeld;clear hK K
        try simp only [Act.put,al,am,ap]
        refine aC (rs:=[9]) (by kernel_rfl) (by simp) ?_;refine ah.cons rfl (fun K hK=>?_) ah.nil
        go_simp
        refine hK.out _ _ ?s111 ?r111
        case s111=>exact HSB.out _ gw
        intro hHeld;clear hK K
        try simp only [Act.put,al,am,ap]
        refine aC (rs:=[10]) (by kernel_rfl) (by simp) ?_;refine ah.late rfl (by kernel_rfl) (fun K hK=>?_) ah.nil
        go_simp
        refine hK.out _ _ ?_;clear hK K
        try simp only [Act.put,al,am,ap]
        refine cJ (by kernel_rfl) ?_ _
        go_wp2_with fail
        refine bodyPost_ret (v:=.agg #[.int .i64 ((St.mk 3 x2.line [] [x] [x9] [] ⟨#[]⟩)).kind,.int .i64 ((St.mk 3 x2.line [] [x] [x9] [] ⟨#[]⟩)).line,.slice ((⟨none,0,some ⟨w5.heap.size,0,none⟩,1,some ⟨w9.heap.size,0,none⟩,1,none,0⟩:SA)).na ((St.mk 3 x2.line [] [x] [x9] [] ⟨#[]⟩)).names.length ((⟨none,0,some ⟨w5.heap.size,0,none⟩,1,some ⟨w9.heap.size,0,none⟩,1,none,0⟩:SA)).nc,.slice ((⟨none,0,some ⟨w5.heap.size,0,none⟩,1,some ⟨w9.heap.size,0,none⟩,1,none,0⟩:SA)).la ((St.mk 3 x2.line [] [x] [x9] [] ⟨#[]⟩)).left.length ((⟨none,0,some ⟨w5.heap.size,0,none⟩,1,some ⟨w9.heap.size,0,none⟩,1,none,0⟩:SA)).lc,.slice ((⟨none,0,some ⟨w5.heap.size,0,none⟩,1,some ⟨w9.heap.size,0,none⟩,1,none,0⟩:SA)).ra ((St.mk 3 x2.line [] [x] [x9] [] ⟨#[]⟩)).right.length ((⟨none,0,some ⟨w5.heap.size,0,none⟩,1,some ⟨w9.heap.size,0,none⟩,1,none,0⟩:SA)).rc,.slice ((⟨none,0,some ⟨w5.heap.size,0,none⟩,1,some ⟨w9.heap.size,0,none⟩,1,none,0⟩:SA)).ba ((St.mk 3 x2.line [] [x] [x9] [] ⟨#[]⟩)).blocks.length ((⟨none,0,some ⟨w5.heap.size,0,none⟩,1,some ⟨w9.heap.size,0,none⟩,1,none,0⟩:SA)).bc,.string ((St.mk 3 x2.line [] [x] [x9] [] ⟨#[]⟩)).label]) (by
          have k8:=fun j=>ac (ax (ey HRS9.out (.int .i64 3) (.int .i64 x2.line) (.slice none 0 0) (.slice (some ⟨w5.heap.size,0,none⟩) 1 1) (.slice (some ⟨w9.heap.size,0,none⟩) 1 1) (.slice none 0 0) (.string ⟨#[]⟩)) (.cells #[.int .i64 x9.kind,.int .i64 x9.op,.int .i64 x9.line,.int .i64 x9.p,.int .i64 x9.q,.string x9.str,.slice d9.a x9.args.length d9.c,.slice d9.fa x9.funcs.length d9.fc] 37)) j;have s0:=k8 0;have s1:=k8 1;have s2:=k8 2;have s3:=k8 3;have s4:=k8 4;have s5:=k8 5;have s6:=k8 6;simp [results,Tryz.results91,go_sem,kr9z,s0,s1,s2,s3,s4,s5,s6];(try simp [St.kind,St.line,St.names,St.left,St.right,St.blocks,St.label])) rfl ?_
        exact ai.yes HR gw (HA.out.ca kw) ⟨⟨none,0,some ⟨w5.heap.size,0,none⟩,1,some ⟨w9.heap.size,0,none⟩,1,none,0⟩,rfl,dX ⟨⟨by decide,by decide⟩,HW2.out.2.2,cm⟩ aY gl gl aY aj.zero
          (HL9.out.keep (af.alloc (af.st7 (af.refl _ _) (by simp [ay];omega) _ _ _ _ _ _ _) _) (fr (by omega)))
          (fX (by simp) (by simp [ay];omega) (HX9.out.keep (af.st7 (af.refl _ _) (by simp [ay];omega) _ _ _ _ _ _ _) (fr (by simp;omega)))) trivial⟩
      · go_simp
        go_at_call 124;(with_reducible refine (ai.step HR (HCL.out x2.line s false l' _ HW2.out.2.2 hsm hln' (HA.out.ca kw))).mono ?_);rintro e w9 (⟨l9,rfl,HR,hg9⟩|⟨x9,l9,u,rfl,⟨d9,rfl,hx9⟩,HM9,HR,HA,hg9⟩)
        · go_wp2_with fail
          exact ⟨rfl,ai.no HR gw⟩
        have HX9:=hI hx9;clear hx9;have hz9:=hg9.size;simp at hz9;have hFH:=hI (hFH.out.go (gw:Gs C.p w5 w9));have HRS9:=hI hFH.out.res;have kr9:=fun i=>ac HRS9.out i;have kr9f:=fun i=>ag HRS9.out i;have kr9z:=ae HRS9.out
        go_wp2_with fail
        refine hK.out _ _ ?s112 ?r112
        case s112=>exact HSB.out _ gw
        intro hHeld;clear hK K
        try simp only [Act.put,al,am,ap]
        refine aC (rs:=[2,8]) (by kernel_rfl) (by simp) ?_;refine ah.cons rfl (fun K hK=>?_) (ah.cons rfl (fun K hK=>?_) ah.nil)
        · go_simp
          refine hK.out _ _ ?s113 ?r113
          case s113=>exact HSB.out _ gw
          intro hHeld;clear hK K
          try simp only [Act.put,al,am,ap]
          refine aC (rs:=[8]) (by kernel_rfl) (by simp) ?_;refine ah.cons rfl (fun K hK=>?_) ah.nil
          go_simp
          refine hK.out _ _ ?s114 ?r114
          case s114=>exact HSB.out _ gw
          intro hHeld;clear hK K
          try simp only [Act.put,al,am,ap]
          refine aC (rs:=[9]) (by kernel_rfl) (by simp) ?_;refine ah.cons rfl (fun K hK=>?_) ah.nil
          go_simp
          refine hK.out _ _ ?s115 ?r115
          case s115=>exact HSB.out _ gw
          exact zw
        · go_simp
          refine hK.out _ _ ?s116 ?r116
          case s116=>exact HSB.out _ gw
          intro hHeld;clear hK K
          try simp only [Act.put,al,am,ap]
          refine aC (rs:=[2]) (by kernel_rfl) (by simp) ?_;refine ah.cons rfl (fun K hK=>?_) ah.nil
          go_simp
          refine hK.out _ _ ?s117 ?r117
          case s117=>exact HSB.out _ gw
          intro hHeld;clear hK K
          try simp only [Act.put,al,am,ap]
          refine aC (rs:=[9]) (by kernel_rfl) (by simp) ?_;refine ah.cons rfl (fun K hK=>?_) ah.nil
          go_simp
          refine hK.out _ _ ?s118 ?r118
          case s118=>exact HSB.out _ gw
          exact zx
  · replace HR:=hI (show R=qQ B x2.line (x,s.data.toList,true) l' from HR.out)
    have HXF:=hI hFH.out.at_
    go_upto_region 13 with fail
    replace HR:=hI (show R=(el B x2.line s true l').bind fun c l4=>.ok (.mk 3 x2.line [] [x] [c] [] ⟨#[]⟩) l4 from by rw [HR.out];show (el B x2.line (bL s.data.toList) true l').bind _=_;rw [show bL s.data.toList=s from by unfold bL;rw [Array.toArray_toList]])
    have hsm:s.size≤MX:=by unfold MX;omega
    have hln':l'.length≤n:=by omega
    have hbF:=hFH.out.bw;have hzF:=hFH.out.b02;have HSB:=hI (show ∀ w',Gs C.p wr w'→(∀ i,w'.cell? ⟨w3.heap.size+1,i,none⟩=#[.int .i64 x.kind,.int .i64 x.op,.int .i64 x.line,.int .i64 x.p,.int .i64 x.q,.string x.str,.slice d.a x.args.length d.c,.slice d.fa x.funcs.length d.fc][i]?) from fun w' hg=>fun i=>ac (hg.box HEB.out (by omega)) i);refine cX (c:=10) (T:=(fun w'=>(∀ i,w'.cell? ⟨w3.heap.size+1,i,none⟩=#[.int .i64 x.kind,.int .i64 x.op,.int .i64 x.line,.int .i64 x.p,.int .i64 x.q,.string x.str,.slice d.a x.args.length d.c,.slice d.fa x.funcs.length d.fc][i]?))) (by kernel_rfl) ?s119 ?r119
    case s119=>exact HSB.out _ gw
    intro hHeld;refine tG 0 ?_;refine lG 1 [2,9,10] ?_;refine tG 3 ?_;refine tG 4 ?_;refine tG 5 ?_;refine tG 6 ?_;refine aC (rs:=[2,7]) (by kernel_rfl) (by simp) ?_;refine ah.cons rfl (fun K hK=>?_) (ah.cons rfl (fun K hK=>?_) ah.nil)
    · go_simp
      refine hK.out _ _ ?s126 ?r126
      case s126=>exact HSB.out _ gw
      intro hHeld;clear hK K
      try simp only [Act.put,al,am,ap]
      refine aC (rs:=[7]) (by kernel_rfl) (by simp) ?_;refine ah.cons rfl (fun K hK=>?_) ah.nil
      go_simp
      go_at_call 124;(with_reducible refine (ai.step HR (HCL.out x2.line s true l' _ HW2.out.2.2 hsm hln' (HA.out.ca kw))).mono ?_);rintro e w9 (⟨l9,rfl,HR,hg9⟩|⟨x9,l9,u,rfl,⟨d9,rfl,hx9⟩,HM9,HR,HA,hg9⟩)
      · go_wp2_with fail
        exact ⟨rfl,ai.no HR gw⟩
      have HX9:=hI hx9;clear hx9;have hz9:=hg9.size;simp at hz9;have hFH:=hI (hFH.out.go (gw:Gs C.p wr w9));have HRS9:=hI hFH.out.res;have kr9:=fun i=>ac HRS9.out i;have kr9f:=fun i=>ag HRS9.out i;have kr9z:=ae HRS9.out;have HL9:=hI (show Ex.Ats (ay (w3.heap.size+2)) w9 [x] (some ⟨wr.heap.size,0,none⟩) from (fX (F:=ay (w3.heap.size+2)) (w:=wr.drew) rfl (by show _≤wr.heap.size;omega) (HXF.out.keep kx (fun _ h=>h))).keep (af.gsT hg9 (by simp [ay];omega) (af.refl _ _)) (fun _ h=>h))
      go_wp2_with fail
      refine hK.out _ _ ?s127 ?r127
      case s127=>exact HSB.out _ gw
      intro hHeld;clear hK K
      try simp only [Act.put,al,am,ap]
      refine aC (rs:=[8]) (by kernel_rfl) (by simp) ?_;refine ah.cons rfl (fun K hK=>?_) ah.nil
      go_simp
      refine hK.out _ _ ?s128 ?r128
      case s128=>exact HSB.out _ gw
      intro hHeld;clear hK K
      try simp only [Act.put,al,am,ap]
      refine aC (rs:=[9]) (by kernel_rfl) (by simp) ?_;refine ah.cons rfl (fun K hK=>?_) ah.nil
      go_simp
      refine hK.out _ _ ?s129 ?r129
      case s129=>exact HSB.out _ gw
      intro hHeld;clear hK K
      try simp only [Act.put,al,am,ap]
      refine aC (rs:=[10]) (by kernel_rfl) (by simp) ?_;refine ah.late rfl (by kernel_rfl) (fun K hK=>?_) ah.nil
      go_simp
      refine hK.out _ _ ?_;clear hK K
      try simp only [Act.put,al,am,ap]
      refine cJ (by kernel_rfl) ?_ _
      go_wp2_with fail
      refine bodyPost_ret (v:=.agg #[.int .i64 ((St.mk 3 x2.line [] [x] [x9] [] ⟨#[]⟩)).kind,.int .i64 ((St.mk 3 x2.line [] [x] [x9] [] ⟨#[]⟩)).line,.slice ((⟨none,0,some ⟨wr.heap.size,0,none⟩,1,some ⟨w9.heap.size,0,none⟩,1,none,0⟩:SA)).na ((St.mk 3 x2.line [] [x] [x9] [] ⟨#[]⟩)).names.length ((⟨none,0,some ⟨wr.heap.size,0,none⟩,1,some ⟨w9.heap.size,0,none⟩,1,none,0⟩:SA)).nc,.slice ((⟨none,0,some ⟨wr.heap.size,0,none⟩,1,some ⟨w9.heap.size,0,none⟩,1,none,0⟩:SA)).la ((St.mk 3 x2.line [] [x] [x9] [] ⟨#[]⟩)).left.length ((⟨none,0,some ⟨wr.heap.size,0,none⟩,1,some ⟨w9.heap.size,0,none⟩,1,none,0⟩:SA)).lc,.slice ((⟨none,0,some ⟨wr.heap.size,0,none⟩,1,some ⟨w9.heap.size,0,none⟩,1,none,0⟩:SA)).ra ((St.mk 3 x2.line [] [x] [x9] [] ⟨#[]⟩)).right.length ((⟨none,0,some ⟨wr.heap.size,0,none⟩,1,some ⟨w9.heap.size,0,none⟩,1,none,0⟩:SA)).rc,.slice ((⟨none,0,some ⟨wr.heap.size,0,none⟩,1,some ⟨w9.heap.size,0,none⟩,1,none,0⟩:SA)).ba ((St.mk 3 x2.line [] [x] [x9] [] ⟨#[]⟩)).blocks.length ((⟨none,0,some ⟨wr.heap.size,0,none⟩,1,some ⟨w9.heap.size,0,none⟩,1,none,0⟩:SA)).bc,.string ((St.mk 3 x2.line [] [x] [x9] [] ⟨#[]⟩)).label]) (by
        have k8:=fun j=>ac (ax (ey HRS9.out (.int .i64 3) (.int .i64 x2.line) (.slice none 0 0) (.slice (some ⟨wr.heap.size,0,none⟩) 1 1) (.slice (some ⟨w9.heap.size,0,none⟩) 1 1) (.slice none 0 0) (.string ⟨#[]⟩)) (.cells #[.int .i64 x9.kind,.int .i64 x9.op,.int .i64 x9.line,.int .i64 x9.p,.int .i64 x9.q,.string x9.str,.slice d9.a x9.args.length d9.c,.slice d9.fa x9.funcs.length d9.fc] 37)) j;have s0:=k8 0;have s1:=k8 1;have s2:=k8 2;have s3:=k8 3;have s4:=k8 4;have s5:=k8 5;have s6:=k8 6;simp [results,Tryz.results91,go_sem,kr9z,s0,s1,s2,s3,s4,s5,s6];(try simp [St.kind,St.line,St.names,St.left,St.right,St.blocks,St.label])) rfl ?_
      exact ai.yes HR gw (HA.out.ca kw) ⟨⟨none,0,some ⟨wr.heap.size,0,none⟩,1,some ⟨w9.heap.size,0,none⟩,1,none,0⟩,rfl,dX ⟨⟨by decide,by decide⟩,HW2.out.2.2,cm⟩ aY gl gl aY aj.zero
        (HL9.out.keep (af.alloc (af.st7 (af.refl _ _) (by simp [ay];omega) _ _ _ _ _ _ _) _) (fr (by omega)))
        (fX (by simp) (by simp [ay];omega) (HX9.out.keep (af.st7 (af.refl _ _) (by simp [ay];omega) _ _ _ _ _ _ _) (fr (by simp;omega)))) trivial⟩
    · go_simp
      go_at_call 124;(with_reducible refine (ai.step HR (HCL.out x2.line s true l' _ HW2.out.2.2 hsm hln' (HA.out.ca kw))).mono ?_);rintro e w9 (⟨l9,rfl,HR,hg9⟩|⟨x9,l9,u,rfl,⟨d9,rfl,hx9⟩,HM9,HR,HA,hg9⟩)
      · go_wp2_with fail
        exact ⟨rfl,ai.no HR gw⟩
      have HX9:=hI hx9;clear hx9;have hz9:=hg9.size;simp at hz9;have hFH:=hI (hFH.out.go (gw:Gs C.p wr w9));have HRS9:=hI hFH.out.res;have kr9:=fun i=>ac HRS9.out i;have kr9f:=fun i=>ag HRS9.out i;have kr9z:=ae HRS9.out
      go_wp2_with fail
      refine hK.out _ _ ?s130 ?r130
      case s130=>exact HSB.out _ gw
      intro hHeld;clear hK K
      try simp only [Act.put,al,am,ap]
      refine aC (rs:=[2,8]) (by kernel_rfl) (by simp) ?_;refine ah.cons rfl (fun K hK=>?_) (ah.cons rfl (fun K hK=>?_) ah.nil)
      · go_simp
        refine hK.out _ _ ?s131 ?r131
        case s131=>exact HSB.out _ gw
        intro hHeld;clear hK K
        try simp only [Act.put,al,am,ap]
        refine aC (rs:=[8]) (by kernel_rfl) (by simp) ?_;refine ah.cons rfl (fun K hK=>?_) ah.nil
        go_simp
        refine hK.out _ _ ?s132 ?r132
        case s132=>exact HSB.out _ gw
        intro hHeld;clear hK K
        try simp only [Act.put,al,am,ap]
        refine aC (rs:=[9]) (by kernel_rfl) (by simp) ?_;refine ah.cons rfl (fun K hK=>?_) ah.nil
        go_simp
        refine hK.out _ _ ?s133 ?r133
        case s133=>exact HSB.out _ gw
        exact zw
      · go_simp
        refine hK.out _ _ ?s134 ?r134
        case s134=>exact HSB.out _ gw
        intro hHeld;clear hK K
        try simp only [Act.put,al,am,ap]
        refine aC (rs:=[2]) (by kernel_rfl) (by simp) ?_;refine ah.cons rfl (fun K hK=>?_) ah.nil
        go_simp
        refine hK.out _ _ ?s135 ?r135
        case s135=>exact HSB.out _ gw
        intro hHeld;clear hK K
        try simp only [Act.put,al,am,ap]
        refine aC (rs:=[9]) (by kernel_rfl) (by simp) ?_;refine ah.cons rfl (fun K hK=>?_) ah.nil
        go_simp
        refine hK.out _ _ ?s136 ?r136
        case s136=>exact HSB.out _ gw
        exact zx
