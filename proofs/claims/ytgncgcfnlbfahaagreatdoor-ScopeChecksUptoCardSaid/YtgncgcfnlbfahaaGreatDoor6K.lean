import Derived.Test.YtgncgcfnlbfahaaGreatDoor6J
import Derived.Test.YtgncgcfnlbfahaaGreatDoorTD
import Derived.Test.YtgncgcfnlbfahaaGreatDoor51
set_option linter.all false
namespace Go.Proofs.YtgncgcfnlbfahaaGreatDoor
open Go.RowKit
set_option maxHeartbeats 4000000
set_option maxRecDepth 100000
theorem Cf(E:WE):XC E 0:=by
 intro l la lc set fn G d R s0 s N w hn hw hG hN hl hat hr h
 have hl0:l=[]:=by
  cases l with
  |nil=>rfl
  |cons x r=>have:=hn x (by simp);have:=x.sz_eq;omega
 subst hl0;have HZ:=hI (Z8.start h hr);have HE:=hI (show R.bind (aq (E fn set) [])=R from by cases R<;>rfl);rw[HE.1];clear h hr hG hat hn hw
 go_enter Tryz.func53,Tryz.ntmps53
 go_wp2_with fail
 go_loopg [8] 0 (fun gk i wr=>gk=0∧i=.int .i64 0∧wr=w)
 case atStart=>exact⟨rfl,rfl,rfl⟩
 case round =>
 obtain⟨rfl,rfl,rfl⟩:=hrel
 go_wp2_with fail
 go_end0;exact⟨rfl,HZ.1.dr⟩
theorem j8:∀n,XC (WL n).1 n∧im (WL n).2 n
 |0=>⟨Cf _,fun l la lc fn rep cond ca cc G d R s0 s N w h=>by omega⟩
 |n+1=>⟨Ce (j8 n).1 (dO n).1 (gh n).1 (j8 n).2 (dO n).2 (gh n).2,Au (j8 n).1 (dO n).1 (gh n).1 (fun g=>(lH n).1) (dO n).2 (gh n).2 (Hs (j8 n).1 (dO n).1 (gh n).1 (j8 n).2 (dO n).2 (gh n).2)⟩
def gb:Sc:=⟨[⟨-1,true,[],[],[],[]⟩],[],[],[],[]⟩
theorem xg:K8 False 0 gb:=by
 refine⟨⟨by decide,fun i x hx=>?_,fun v hv=>(by cases hv),fun v hv=>(by cases hv),fun f hf=>(by cases hf)⟩,fun x hx=>?_,List.Pairwise.nil,fun f hf=>(by cases hf),fun f hf=>(by cases hf),fun f hf=>(by cases hf)⟩
 ·cases i with
  |zero=>cases hx;exact .inl ⟨rfl,rfl⟩
  |succ i=>cases hx
 ·rw[List.mem_singleton.1 hx];intro i hi;cases hi
theorem GN:Bd 1 gb:=⟨I6 _,Nat.zero_le _,Nat.zero_le _,Nat.zero_le _,Nat.zero_le _,fun x hx=>by rw[List.mem_singleton.1 hx];exact⟨Nat.zero_le _,Nat.zero_le _,rfl,Nat.zero_le _⟩⟩
theorem GQ(b:List St):qO b=((WL 2147483648).2 (frame b 0 false) [] gb).bind fun σ=>.ok {σ with scope:=σ.scope.take 0}:=rfl
theorem GP(b:List St):qO b=(WL 2147483648).2 (frame b 0 false) [] gb:=by
 rw[GQ];cases hx:(WL 2147483648).2 (frame b 0 false) [] gb with
 |error e=>rfl
 |ok σ =>
  have h:=((dO 2147483648).2 _ _ _ _ (by decide:0<gb.funs.length) hx).scope;show Except.ok _=Except.ok _;rw[show σ.scope=[]from h];cases σ;cases h;rfl
def R5(cv:List St→Int):Prop:=∀(b:List St) (a:Option Addr) (c:Nat) (w:World),BA b a c w→Calls Tryz.prog 36 #[.slice a b.length c] w fun e w'=>e=.returned (.int .i64 (cv b))∧Below w.heap.size w w'
def oV(cv:List St→Int)(b:List St)(w:World)(e:Ending)(w':World):Prop:=Below w.heap.size w w'∧∃p,w.heap.size≤p∧((∃q,Hd (bo cv b=.error q)∧Hd (q.2≠0)∧e=.returned (.tuple #[.pointer (some ⟨p,0,none⟩),.int .i64 q.2])∧Hd (∃v0 v1 v2 v3 v4 v5 v7,w'.heap[p]?=some (.cells #[v0,v1,v2,v3,v4,v5,.int .i64 q.1,v7] 66)))∨∃σ G d,Hd (bo cv b=.ok σ)∧e=.returned (.tuple #[.pointer (some ⟨p,0,none⟩),.int .i64 0])∧d.p=p∧Hd (ax G d w' σ.s8)∧Hd (Ci σ.funs))
theorem wV{cv:List St→Int}(hC:CV cv)(h5:R5 cv){b:List St}{a:Option Addr}{c:Nat}{w:World}(hB:BA b a c w):Calls Tryz.prog 26 #[.slice a b.length c] w (oV cv b w):=by
 have hwy:=hB.wy;have hl1:=hB.l1;have hl2:=hB.l2;have hl3:=hB.l3;have hsz:=St.szs_le8 b;have HBA:=hI hB;have HC5:=hI (fun w' hb=>h5 b a c w' (hB.below hb):∀w',Below w.heap.size w w'→Calls Tryz.prog 36 #[.slice a b.length c] w' fun e w''=>e=.returned (.int .i64 (cv b))∧Below w'.heap.size w' w'');have HWV:=hI (by unfold bo;rw[GP]:bo cv b=if cv b=0 then(WL 2147483648).2 (frame b 0 false) [] gb else .error (0,cv b));have HWF:=hI (hC.wf b);obtain⟨v,hv⟩:=nM (cv b)
 rw[←hv]at HC5 HWV;have HV:=hI hv;obtain⟨w1,hw1⟩:=nM (w.alloc (.cells #[.slice none 0 0,.slice none 0 0,.slice none 0 0,.slice none 0 0,.slice none 0 0,.slice none 0 0,.int .i64 0,.int .i64 0] 66))
 have HB1:=bA hw1;have HP1:=nA hw1;clear hB hC h5 hv
 go_enter Tryz.func26,Tryz.ntmps26
 go_upto_region 2 with fail
 rw[←hw1];clear hw1
 go_upto_region 3 with(first
  |(go_at_call 36;(with_reducible refine(HC5.1 _ (by have:=HB1.1;exact bw)).mono ?_);rintro e2 w2 ⟨rfl,hb2⟩))
 have HB2:=hI (show Below w1.heap.size w1 w2 from bw);have HP2:=hI (aA HB2.1 HP1.1);have HBW2:=hI (by have:=HB1.1;have:=HB2.1;exact bw:Below w.heap.size w w2);by_cases hv0:v=0
 rotate_left
 ·have q0:(v != 0)=true:=by simpa using hv0
  have HE:=hI (by rw[HWV.1,if_neg hv0]:bo cv b=.error (0,v));have HV0:=hI hv0;clear hv0
  go_wp2_with fail
  go_ret2
  exact⟨HBW2.1,w.heap.size,I6 _,.inl ⟨(0,v),HE,HV0,rfl,hI ⟨_,_,_,_,_,_,_,HP2.1⟩⟩⟩
 ·have q0:(v != 0)=false:=by simp[hv0]
  rw[if_pos hv0]at HWV;have HWF2:=hI (HWF.1 (by rw[←HV.1];exact hv0));clear hv0;obtain⟨kp,kpf,kpz⟩:=kK HP2
  go_upto_region 6 with fail
  obtain⟨wN,hwN⟩:=nM ((w2.setCell ⟨w.heap.size,0,none⟩ (.slice (some ⟨w2.heap.size,0,none⟩) 1 1)).alloc (.cells #[.int .i64 (-1),.bool true,.slice none 0 0,.slice none 0 0,.slice none 0 0,.slice none 0 0] 76))
  rw[←hwN];have hpz:=al HP2.1;obtain⟨d,hd⟩:=nM (⟨w.heap.size,.slice (some ⟨w2.heap.size,0,none⟩) 1 1,.slice none 0 0,.slice none 0 0,.slice none 0 0,.slice none 0 0,.slice none 0 0,[⟨.slice none 0 0,.slice none 0 0,.slice none 0 0,.slice none 0 0,[]⟩],[]⟩:Rk)
  have hG:ax (fun j=>if j=w.heap.size then(0,0)else(1,0)) d wN gb.s8:=by
   rw[hd];refine⟨?_,if_pos rfl,⟨⟨rfl,.inr ⟨w2.heap.size,1,#[.int .i64 (-1),.bool true,.slice none 0 0,.slice none 0 0,.slice none 0 0,.slice none 0 0],rfl,Nat.zero_le _,?_,I6 _,by decide,rfl,rfl⟩⟩,?_⟩,Rw.nil,Rw.nil,Rw.nil,Rw.nil,Rw.nil,rfl,rfl,?_,fun k f y hf=>(by cases hf),fun q hq=>(by cases hq)⟩
   ·rw[hwN];have h9:=aN (bp HP2.1 0 (.slice (some ⟨w2.heap.size,0,none⟩) 1 1)) (.cells #[.int .i64 (-1),.bool true,.slice none 0 0,.slice none 0 0,.slice none 0 0,.slice none 0 0] 76);simp at h9;exact h9
   ·rw[hwN];exact bJ (by simp)
   ·intro j hj;cases hj;exact⟨Nat.le_of_lt hpz,if_neg (by omega:¬w2.heap.size=w.heap.size)⟩
   ·intro i x y hx hy;cases i with
    |zero=>cases hx;cases hy;exact⟨Rw.nil,Rw.nil,Rw.nil,Rw.nil,rfl⟩
    |succ i=>cases hx
  have hdp:d.p=w.heap.size:=by rw[hd]
  have HBN:=hI (by rw[hwN];have:=HBW2.1;exact bw:Below w.heap.size w wN);have HZ:=hI (Z8.start hG (Rc.ok xg.ci));have HC:=hI (fun w' (hb:Below wN.heap.size wN w')=>(by rw[←hdp];exact HZ.1.block (j8 2147483648).2 hb (fn:=0) (by omega) HWF2.1 (Rg.ok xg GN) (by decide) (by unfold NB;omega) ⟨hl1,hl2,hl3⟩ (by rw[hdp];exact(HBA.1.at_.mono (fun k _ hl=>hl)).keep (af HBN.1) fun _ h=>h):Calls Tryz.prog 37 #[.pointer (some ⟨w.heap.size,0,none⟩),.int .i64 0,.slice a b.length c,.slice none 0 0,.bool false] w' fun e w''=>e=.returned (.tuple #[])∧∃G2 d2 s2,Z8 _ d wN gb.s8 ((Except.ok gb:SR Sc).bind ((WL 2147483648).2 (frame b 0 false) [])) G2 d2 w'' s2));clear hG hwN kp kpf kpz hd
  go_upto_region 7 with(first
   |(go_at_call 37;(with_reducible refine(HC.1 _ bw).mono ?_);rintro e8 w8 ⟨rfl,G8,d8,s8,hZ8⟩))
  have HZ8:=hI hZ8;have hp8:d8.p=w.heap.size:=HZ8.1.ny.p.trans hdp;have HPB8:=hI (by have h9:=HZ8.1.mem.box;unfold fq at h9;rw[hp8]at h9;exact h9:w8.heap[w.heap.size]?=some (.cells #[d8.vf,d8.vs,d8.vr,d8.vl,d8.vu,d8.vj,.int .i64 (aJ s8.err).1,.int .i64 (aJ s8.err).2] 66))
  have HBF:=hI (by
   have h8:=HZ8.1.kt.to_below (I5 (Nat.le_of_eq hdp) HBN.1.size);rw[hdp]at h8;exact⟨h8.os.trans HBN.1.os,h8.tape.trans HBN.1.tape,h8.output.trans HBN.1.output,I5 HBN.1.size h8.size,fun k hk=>(h8.block k hk).trans (HBN.1.block k hk)⟩:Below w.heap.size w w8)
  have hw8:bo cv b=(Except.ok gb:SR Sc).bind ((WL 2147483648).2 (frame b 0 false) []):=HWV.1
  have hend:∃x1 x2,aJ s8.err=(x1,x2)∧((∃q,Hd (bo cv b=.error q)∧Hd (q.2≠0)∧q=(x1,x2))∨∃σ,Hd (bo cv b=.ok σ)∧s8=σ.s8∧x2=0∧Hd (Ci σ.funs)):=by
   rcases HZ8.1.rc.2 with⟨σ,h1,h2,h3⟩|⟨q,h1,h2⟩
   ·exact⟨0,0,by rw[h2];rfl,.inr ⟨σ,hI (hw8.trans h1),h2,rfl,hI h3⟩⟩
   ·exact⟨q.1,q.2,by rw[h2];rfl,.inl ⟨q,hI (hw8.trans h1),hI (HZ8.1.mem.er q h2),rfl⟩⟩
  obtain⟨x1,x2,hx,hway⟩:=hend;rw[hx]at HPB8;clear hw8 hZ8 hx;obtain⟨kp,kpf,kpz⟩:=kK HPB8
  go_wp2_with fail
  go_region
  go_wp2_with fail
  go_ret2
  refine⟨by have:=HBF.1;exact bw,w.heap.size,I6 _,?_⟩;rcases hway with⟨q,h1,h2,rfl⟩|⟨σ,h1,h2,rfl,h3⟩
  ·exact .inl ⟨_,h1,h2,rfl,hI ⟨_,_,_,_,_,_,_,aA (show Below w8.heap.size w8 w8.drew from bw) HPB8.1⟩⟩
  ·exact .inr ⟨σ,G8,d8,h1,rfl,hp8,hI (by rw[←h2];exact HZ8.1.mem.below bw),h3⟩
section
variable{cv:List St→Int}(hC:CV cv)(h5:R5 cv){b:List St}{a:Option Addr}{c:Nat}{w:World}(hB:BA b a c w)
include hC h5 hB
theorem AX:Calls Tryz.prog 10 #[.slice a b.length c] w fun e w'=>e=.returned (.tuple #[.int .i64 (dK (bo cv b)).1,.int .i64 (dK (bo cv b)).2])∧Below w.heap.size w w':=by
 have HW:=hI (wV hC h5 hB);unfold oV at HW;obtain⟨R,hR⟩:=nM (bo cv b)
 rw[←hR]at HW⊢;clear hC h5 hB hR
 go_enter Tryz.func10,Tryz.ntmps10
 go_wp2_with (go_at_call 26;(with_reducible refine HW.1.mono ?_);rintro e w1 ⟨hb1,p,hp,⟨q,hr,hq,rfl,hx⟩|⟨σ,G,d,hr,rfl,rfl,hs,-⟩⟩;(obtain⟨v0,v1,v2,v3,v4,v5,v7,hbx⟩:=hx.1;have HBX:=hI hbx;clear hbx;obtain⟨k0,k0f,k0z⟩:=kK HBX);rotate_left;(have HBX:=hI hs.1.box;obtain⟨k0,k0f,k0z⟩:=kK HBX);rotate_left)
 ·go_ret2
  exact⟨by rw[hr.1];rfl,hb1⟩
 ·go_ret2
  exact⟨by rw[hr.1];rfl,hb1⟩
theorem Ix:Calls Tryz.prog 18 #[.slice a b.length c] w (b8 dq 89 6 ((bo cv b).map (·.uses)) w):=by
 have HW:=hI (wV hC h5 hB);unfold oV at HW;obtain⟨R,hR⟩:=nM (bo cv b)
 rw[←hR]at HW⊢;clear hC h5 hB hR
 go_enter Tryz.func18,Tryz.ntmps18
 go_wp2_with (go_at_call 26;(with_reducible refine HW.1.mono ?_);rintro e w1 ⟨hb1,p,hp,⟨q,hr,hq,rfl,hx⟩|⟨σ,G,d,hr,rfl,rfl,hs,-⟩⟩;(have hq1:(q.2 != 0)=true:=by simp[hq.1]);rotate_left;(have HBX:=hI hs.1.box;obtain⟨k0,k0f,k0z⟩:=kK HBX);rotate_left)
 ·go_ret2
  exact b8.err (by rw[hr.1];rfl) hb1
 ·go_ret2
  exact b8.row (by rw[hr.1];rfl) hb1 (hs.1.ru.from_ hp)
theorem Ja:Calls Tryz.prog 21 #[.slice a b.length c] w (b8 gT 92 5 ((bo cv b).map (·.jumps)) w):=by
 have HW:=hI (wV hC h5 hB);unfold oV at HW;obtain⟨R,hR⟩:=nM (bo cv b)
 rw[←hR]at HW⊢;clear hC h5 hB hR
 go_enter Tryz.func21,Tryz.ntmps21
 go_wp2_with (go_at_call 26;(with_reducible refine HW.1.mono ?_);rintro e w1 ⟨hb1,p,hp,⟨q,hr,hq,rfl,hx⟩|⟨σ,G,d,hr,rfl,rfl,hs,-⟩⟩;(have hq1:(q.2 != 0)=true:=by simp[hq.1]);rotate_left;(have HBX:=hI hs.1.box;obtain⟨k0,k0f,k0z⟩:=kK HBX);rotate_left)
 ·go_ret2
  exact b8.err (by rw[hr.1];rfl) hb1
 ·go_ret2
  exact b8.row (by rw[hr.1];rfl) hb1 (hs.1.rj.from_ hp)
end
def nB{α:Type}(r:SR (List α)):List α:=match r with| .ok l=>l | .error _=>[]
theorem b8.any{α:Type}{f:α→List Value}{t:TypeId}{n:Nat}{r:SR (List α)}{w w':World}{e:Ending}(h:b8 f t n r w e w'):∃a c,e=.returned (.tuple #[.slice a (nB r).length c,.int .i64 (dK r).2])∧Hd (Rw f t n (fun j=>w.heap.size≤j) w' (.slice a (nB r).length c) (nB r))∧Below w.heap.size w w':=by
 obtain⟨hb,h⟩:=h;cases r with
 |error q=>exact⟨none,0,h,hI Rw.nil,hb⟩
 |ok l =>
  obtain⟨v,h1,h2⟩:=h;obtain⟨a,c,rfl⟩:=h2.shape;exact⟨a,c,h1,hI h2,hb⟩
section
variable{cv:List St→Int}(hC:CV cv)(h5:R5 cv){T:World→Prop}(hA:oP T)(hL:r7){b:List St}{a:Option Addr}{c:Nat}{w:World}(hB:BA b a c w)(hT:T w)
include hC h5 hA hL hB hT
theorem AY:Calls Tryz.prog 3 #[.slice a b.length c] w fun e w'=>e=.returned (.bool true)∧Below w.heap.size w w':=by
 obtain⟨⟨l,z⟩,hq⟩:∃q,q=dK (bo cv b):=⟨_,rfl⟩
 have HCK1:=hI (fun w' h=>by have:=kM hC (hB.below h);rw[←hq]at this;exact this:∀w',Below w.heap.size w w'→Calls Tryz.prog 9 #[.slice a b.length c] w' fun e w''=>e=.returned (.tuple #[.int .i64 l,.int .i64 z])∧Below w'.heap.size w' w'');have HCK2:=hI (fun w' h=>by have:=AX hC h5 (hB.below h);rw[←hq]at this;exact this:∀w',Below w.heap.size w w'→Calls Tryz.prog 10 #[.slice a b.length c] w' fun e w''=>e=.returned (.tuple #[.int .i64 l,.int .i64 z])∧Below w'.heap.size w' w'');have HLG:=hI (fun w' h=>hL b a c w' (hB.below h):∀w',Below w.heap.size w w'→Calls Tryz.prog 7 #[.slice a b.length c] w' fun e w''=>(∃B,e=.returned (.bool B))∧Below w'.heap.size w' w'');have HAW:=hI (fun w' h=>hA.run w' (hA.keep _ _ h hT):∀w',Below w.heap.size w w'→Calls Tryz.prog 8 #[] w' fun e w''=>e=.returned (.bool true)∧Below w'.heap.size w' w'');clear hC h5 hA hL hB hT hq
 go_enter Tryz.func3,Tryz.ntmps3
 go_wp2_with (first
  |(go_at_call 7;(with_reducible refine(HLG.1 _ bw).mono ?_);rintro e w4 ⟨⟨B,rfl⟩,hb4⟩;cases B)
  |(go_at_call 9;(with_reducible refine(HCK1.1 _ bw).mono ?_);rintro e w2 ⟨rfl,hb2⟩)
  |(go_at_call 10;(with_reducible refine(HCK2.1 _ bw).mono ?_);rintro e w3 ⟨rfl,hb3⟩)
  |(go_at_call 8;(with_reducible refine(HAW.1 _ bw).mono ?_);rintro e w5 ⟨rfl,hb5⟩))
 all_goals
  go_ret;exact⟨rfl,bw⟩
theorem Iz:Calls Tryz.prog 5 #[.slice a b.length c] w fun e w'=>e=.returned (.bool true)∧Below w.heap.size w w':=by
 have HU1:=hI (show ∀w',Below w.heap.size w w'→Calls Tryz.prog 17 #[.slice a b.length c] w' (b8 dq 89 6 ((bo cv b).map (·.uses)) w')from fun w' h=>Iy hC (hB.below h));have HU2:=hI (show ∀w',Below w.heap.size w w'→Calls Tryz.prog 18 #[.slice a b.length c] w' (b8 dq 89 6 ((bo cv b).map (·.uses)) w')from fun w' h=>Ix hC h5 (hB.below h));have HLG:=hI (fun w' h=>hL b a c w' (hB.below h):∀w',Below w.heap.size w w'→Calls Tryz.prog 7 #[.slice a b.length c] w' fun e w''=>(∃B,e=.returned (.bool B))∧Below w'.heap.size w' w'');have HAW:=hI (fun w' h=>hA.run w' (hA.keep _ _ h hT):∀w',Below w.heap.size w w'→Calls Tryz.prog 8 #[] w' fun e w''=>e=.returned (.bool true)∧Below w'.heap.size w' w'');obtain⟨R,hR⟩:=nM ((bo cv b).map (·.uses))
 rw[←hR]at HU1 HU2;clear hC h5 hA hL hB hT hR
 go_enter Tryz.func5,Tryz.ntmps5
 go_wp2_with (first
  |(go_at_call 7;(with_reducible refine(HLG.1 _ bw).mono ?_);rintro e w4 ⟨⟨B,rfl⟩,hb4⟩;cases B)
  |(go_at_call 17;(with_reducible refine(HU1.1 _ bw).mono ?_);intro e w2 hr2;obtain⟨a2,c2,rfl,HR2,hb2⟩:=hr2.any)
  |(go_at_call 18;(with_reducible refine(HU2.1 _ bw).mono ?_);intro e w3 hr3;obtain⟨a3,c3,rfl,HR3,hb3⟩:=hr3.any)
  |(go_at_call 19;(with_reducible refine(GO (nB R) _ _ _ (HR2.1.keep (af bw:aj _ w2 _)) (HR3.1.keep (af bw:aj _ w3 _))).mono ?_);rintro e w6 ⟨rfl,hb6⟩)
  |(go_at_call 8;(with_reducible refine(HAW.1 _ bw).mono ?_);rintro e w5 ⟨rfl,hb5⟩))
 all_goals
  go_ret;exact⟨rfl,bw⟩
end
theorem wU:R5 dI:=fun b a c w h=>FB b a c w (by have:=St.wzs_le8 b;have:=h.wy;omega) h.l1 h.l2 h.l3 h.at_
theorem I8(x:Jp):(gT x).length=5:=rfl
theorem I9{P:Prop}(h:P:=by
 go_enter Tryz.func22,Tryz.ntmps22
 go_wp2_with fail
 go_loopg [13] 0 (fun gk i wr=>gk=0∧i=.int .i64 0∧wr=w)
 case atStart=>exact⟨rfl,rfl,rfl⟩
 case round =>
 obtain⟨rfl,rfl,rfl⟩:=hrel
 go_wp2_with fail
 go_ret;exact⟨rfl,Below.refl _ _⟩):P:=h
theorem Jd{F F':Nat→Prop}(l:List Jp)(v v':Value)(w:World)(h:Rw gT 91 5 F w v l)(h':Rw gT 92 5 F' w v' l):Calls Tryz.prog 22 #[v,v'] w fun e w'=>e=.returned (.bool true)∧Below w.heap.size w w':=by
 rcases h.at_ I8 with⟨rfl,h0⟩|⟨g,c,rfl,-,hg,hc,hcm,hr⟩
 ·subst h0;obtain⟨a',c',rfl⟩:=h'.shape;exact I9
 ·rcases h'.at_ I8 with⟨rfl,h0⟩|⟨g',c',rfl,-,hg',hc',hcm',hr'⟩
  ·subst h0;exact I9
  ·have HR:=hI hr;have HR':=hI hr';unfold maxLen at hcm hcm';clear h h' hr hr'
   go_enter Tryz.func22,Tryz.ntmps22
   go_wp2_with fail
   go_loopg [13] l.length (fun gk i wr=>∃k:Nat,gk+k=l.length∧i=.int .i64 k∧Hd (Below w.heap.size w wr))
   case atStart=>exact⟨0,by omega,rfl,hI (Below.refl _ _)⟩
   case round =>
   obtain⟨k,hk,rfl,HW⟩:=hrel;have HK:=hI hk;by_cases hlt:k<l.length
   ·obtain⟨y,hy⟩:∃y,l[k]?=some y:=⟨_,I1 hlt⟩
    have r1:=HR.1 k y hy;have r2:=HR'.1 k y hy;have hb:=HW.1;have c0:=(hb.cell hg).trans (r1 0 _ rfl);have c1:=(hb.cell hg).trans (r1 1 _ rfl);have c2:=(hb.cell hg).trans (r1 2 _ rfl);have c3:=(hb.cell hg).trans (r1 3 _ rfl);have c4:=(hb.cell hg).trans (r1 4 _ rfl);have e0:=(hb.cell hg').trans (r2 0 _ rfl);have e1:=(hb.cell hg').trans (r2 1 _ rfl);have e2:=(hb.cell hg').trans (r2 2 _ rfl);have e3:=(hb.cell hg').trans (r2 3 _ rfl);have e4:=(hb.cell hg').trans (r2 4 _ rfl);simp only[Nat.add_zero]at c0 e0;clear r1 r2 hy hb hk
    go_wp2_with fail
    go_quiet (fail)
    go_wp2_with fail
    go_roundg (gk-1)
    case rel=>exact⟨k+1,by have:=HK.1;omega,by go_num,hI (bH HW.1 _)⟩
    case measure=>have:=HK.1;omega
   ·go_wp2_with fail
    go_ret;exact⟨rfl,HW.1⟩
section
variable{cv:List St→Int}(hC:CV cv)(h5:R5 cv){T:World→Prop}(hA:oP T)(hL:r7){b:List St}{a:Option Addr}{c:Nat}{w:World}(hB:BA b a c w)(hT:T w)
include hC h5 hA hL hB hT
theorem Jc:Calls Tryz.prog 6 #[.slice a b.length c] w fun e w'=>e=.returned (.bool true)∧Below w.heap.size w w':=by
 have HU1:=hI (show ∀w',Below w.heap.size w w'→Calls Tryz.prog 20 #[.slice a b.length c] w' (b8 gT 91 5 ((bo cv b).map (·.jumps)) w')from fun w' h=>Jb hC (hB.below h));have HU2:=hI (show ∀w',Below w.heap.size w w'→Calls Tryz.prog 21 #[.slice a b.length c] w' (b8 gT 92 5 ((bo cv b).map (·.jumps)) w')from fun w' h=>Ja hC h5 (hB.below h));have HLG:=hI (fun w' h=>hL b a c w' (hB.below h):∀w',Below w.heap.size w w'→Calls Tryz.prog 7 #[.slice a b.length c] w' fun e w''=>(∃B,e=.returned (.bool B))∧Below w'.heap.size w' w'');have HAW:=hI (fun w' h=>hA.run w' (hA.keep _ _ h hT):∀w',Below w.heap.size w w'→Calls Tryz.prog 8 #[] w' fun e w''=>e=.returned (.bool true)∧Below w'.heap.size w' w'');obtain⟨R,hR⟩:=nM ((bo cv b).map (·.jumps))
 rw[←hR]at HU1 HU2;clear hC h5 hA hL hB hT hR
 go_enter Tryz.func6,Tryz.ntmps6
 go_wp2_with (first
  |(go_at_call 7;(with_reducible refine(HLG.1 _ bw).mono ?_);rintro e w4 ⟨⟨B,rfl⟩,hb4⟩;cases B)
  |(go_at_call 20;(with_reducible refine(HU1.1 _ bw).mono ?_);intro e w2 hr2;obtain⟨a2,c2,rfl,HR2,hb2⟩:=hr2.any)
  |(go_at_call 21;(with_reducible refine(HU2.1 _ bw).mono ?_);intro e w3 hr3;obtain⟨a3,c3,rfl,HR3,hb3⟩:=hr3.any)
  |(go_at_call 22;(with_reducible refine(Jd (nB R) _ _ _ (HR2.1.keep (af bw:aj _ w2 _)) (HR3.1.keep (af bw:aj _ w3 _))).mono ?_);rintro e w6 ⟨rfl,hb6⟩)
  |(go_at_call 8;(with_reducible refine(HAW.1 _ bw).mono ?_);rintro e w5 ⟨rfl,hb5⟩))
 all_goals
  go_ret;exact⟨rfl,bw⟩
end
