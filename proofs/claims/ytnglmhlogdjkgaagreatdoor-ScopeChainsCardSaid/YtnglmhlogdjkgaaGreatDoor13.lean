/- The contract of scope.Captured. -/
import Derived.Test.YtnglmhlogdjkgaaGreatDoorTZ
import Derived.Test.YtnglmhlogdjkgaaGreatDoorI5
import Derived.Test.YtnglmhlogdjkgaaGreatDoor0A
namespace Go.Proofs.YtnglmhlogdjkgaaGreatDoor
open Go.RowKit Go.Maps Go.Sort Go.Shelf
set_option linter.unusedVariables false
set_option linter.unusedSimpArgs false
theorem cau_size (l:List Nat):Maps.Tidy (asD (cauL l))∧Maps.size (asD (cauL l))≤l.length:=by
  induction l using snoc_ind with
  | h0=>exact ⟨Maps.tidy_empty,Nat.le_refl _⟩
  | h1 l r ih =>
    rw [show cauL (l++[r])=cauL l++[(.int .i64 (r:Int),.bool true)] by unfold cauL;simp,asD_snoc];refine ⟨ih.1.put (isI _) _,?_⟩;rw [Maps.size_put ih.1];have:=ih.2;split <;> simp <;> omega
def capI (x:Fu):List Int:=(intKeys (asD (cauL x.cau))).mergeSort leI
def zF (n:Int):List Value:=[.int .i64 n]
theorem zF_map (l:List Int):l.flatMap zF=l.map encZ:=by induction l with|nil=>rfl|cons x r ih=>simp [zF,ih]
theorem sortsC (m:Nat):AnyZI.SortsIn Tryz.prog Tryz.sortedC_ren Fence.wide m :=
  ⟨fun blk off cap ss W hH hblk hsz=>callsIn_wide.2 (AnyM.slices_Sort_int Tryz.sortC blk off cap ss W hH hblk hsz),
   fun p cap W=>callsIn_wide.2 (AnyM.slices_Sort_int_none Tryz.sortC p cap W)⟩
theorem rw_int {w':World} {v:Value} {ss l:List Int} {D:Nat→Prop} {m:Nat} (hD:∀ j,m≤j→D j) (h:w'.ownsRow m 3 1 v ss.length ((ss.mergeSort leI).map encZ)) (hp:ss.Perm l):Rw zF 3 1 D w' v (l.mergeSort leI):=by
  rw [mergeSort_of_perm_i hp] at h;have hl:ss.length=(l.mergeSort leI).length:=by rw [(List.mergeSort_perm l leI).length_eq,hp.length_eq]
  rw [hl,←zF_map] at h;refine ⟨?_,fun j hj=>hD j (h.lt j hj).1⟩;obtain ⟨h1,h2⟩:=h;refine ⟨h1,?_⟩;rcases h2 with h2|⟨g,cap,cur,r1,r2,r3⟩
  · exact .inl h2
  · exact .inr ⟨g,cap,cur,r1,Nat.zero_le _,r3⟩
set_option maxRecDepth 100000 in
set_option maxHeartbeats 4000000 in
theorem capt_at {cv:List St→Int} (hC:CV cv) {b:List St} {a:Option Addr} {c:Nat} {w:World} (hB:BA b a c w) (fn:Int) (hN:∀ x,funV cv b fn=.ok x→x.cau.length≤68719476736) :
    Calls Tryz.prog 19 #[.slice a b.length c,.int .i64 fn] w (RowR zF 3 1 ((funV cv b fn).map capI) w):=by
  have HW:=hI (one_b hC hB fn);obtain ⟨R,hR⟩:∃ R,R=funV cv b fn:=⟨_,rfl⟩
  rw [←hR] at HW hN ⊢;have HN:=hI hN;clear hC hB hR hN;refine (callsIn_wide (n:=6)).1 ?_;have hfK:Fence.wide.fn 38:=trivial;have hfS:Fence.wide.fn 37:=trivial;refine callsIn_of_wp Tryz.func19 rfl trivial ?_ rfl;simp only [Tryz.ntmps19,List.size_toArray,List.length_cons,List.length_nil,Nat.reduceAdd,Nat.reduceSub,Array.replicate_succ,Array.replicate_zero,List.push_toArray,List.append_toArray,List.nil_append,List.cons_append]
  gi_wp2_with (refine ⟨trivial,?_⟩;gi_at_call 35;(refine (callsIn_wide.2 HW.out).mono ?_);rintro e w1 ⟨hb1,⟨q,hr,hq,rfl⟩|⟨x,y,G,p,i,hr,rfl,hp,hs⟩⟩;(have hq1:(q.2 != 0)=true:=by simp [hq.out]);rotate_left;(have HBX:=hI hs.out.box;have k0:=fun i=>box_cell HBX.out i;have k0f:=fun i=>box_free HBX.out i;have k0z:=box_lt HBX.out);rotate_left)
  · go_ret2
    exact RowR.err (by rw [hr.out];rfl) hb1
  · have hmc:=hs.out.mc;have hmx:=HN.out x hr.out;have hsz:=(cau_size x.cau).2;have hbl:=Mp.lt hmc
    have hseq:SeqGives Fence.wide 2 Tryz.prog 52 #[.pointer (some ⟨w1.heap.size,0,none⟩)] encZ (fun ss=>ss.Perm (intKeys (asD (cauL x.cau)))) (Maps.size (asD (cauL x.cau))) (w1.alloc (.cells #[.map (some y.mc)] 92)) :=
      AnyZI.keys_gives (ρ:=Tryz.keysC_ren) { Tryz.keysC with } Fence.wide _ trivial rfl (by omega) w1.heap.size y.mc x.cau.length (asD (cauL x.cau)) _ (by simp) (by simp) (by
        obtain ⟨es,clock,hb,Ft,hs,hD⟩:=hmc;exact ⟨es,clock,(Below.heap_alloc _ _ y.mc hbl).trans hb,Ft,hs,hD⟩)
    have cK:∀ mb W,CallsIn Fence.wide 5 Tryz.prog 38 #[.map mb] W fun e w'=>e=.returned (.func (.func 52) #[] #[.pointer (some ⟨W.heap.size,0,none⟩)])∧w'=W.alloc (.cells #[.map mb] 92):=fun mb W=>AnyZI.keys_in Tryz.keysC Fence.wide 5 trivial rfl mb W;have cS:=AnyZI.sorted_in Tryz.sortedC Fence.wide 5 trivial trivial trivial trivial rfl (by omega) (sortsC _) (enters_of Tryz.func51 (by kernel_rfl) rfl) 52 #[.pointer (some ⟨w1.heap.size,0,none⟩)] trivial (enters_of Tryz.func52 (by kernel_rfl) rfl) _ _ (by unfold maxLen;omega) (by omega) _ hseq;change CallsIn _ _ Tryz.prog 37 _ _ _ at cS
    gi_wp2_with (first
      | (gi_at_call 38;refine (cK _ _).mono ?_;rintro e w' ⟨rfl,rfl⟩)
      | (gi_at_call 37;refine cS.mono ?_;rintro e w' ⟨v,ss,rfl,hS,hrow,hnil,hb⟩))
    go_ret2
    exact RowR.row (l:=capI x) (by rw [hr.out];rfl) ((hb1.alloc hb1.size _).trans (hb.mono (by simp;have:=hb1.size;omega))) (rw_int (fun j hj=>hj) (ownsRow_base_a hrow (by simp;have:=hb1.size;omega)) hS)
open Go.RowKit
theorem usF_len (x:Us):(usF x).length=6:=rfl
theorem y14a {P:Prop} (h:P:=by
  go_enter Tryz.func24,Tryz.ntmps24
  go_wp2_with fail
  go_loopg [13] 0 (fun gk i wr=>gk=0∧i=.int .i64 0∧wr=w)
  case atStart=>exact ⟨rfl,rfl,rfl⟩
  case round =>
  obtain ⟨rfl,rfl,rfl⟩:=hrel
  go_wp2_with fail
  go_ret;exact ⟨rfl,Below.refl _ _⟩):P:=h
set_option maxRecDepth 100000 in
set_option maxHeartbeats 4000000 in
theorem same_uses {F F':Nat→Prop} (l:List Us) (v v':Value) (w:World) (h:Rw usF 69 6 F w v l) (h':Rw usF 69 6 F' w v' l) :
    Calls Tryz.prog 24 #[v,v'] w fun e w'=>e=.returned (.bool true)∧Below w.heap.size w w':=by
  rcases h.at_ usF_len with ⟨rfl,h0⟩|⟨g,c,rfl,-,hg,hc,hcm,hr⟩
  · subst h0;obtain ⟨a',c',rfl⟩:=h'.shape;exact y14a
  · rcases h'.at_ usF_len with ⟨rfl,h0⟩|⟨g',c',rfl,-,hg',hc',hcm',hr'⟩
    · subst h0;exact y14a
    · have HR:=hI hr;have HR':=hI hr';unfold maxLen at hcm hcm';clear h h' hr hr'
      go_enter Tryz.func24,Tryz.ntmps24
      go_wp2_with fail
      go_loopg [13] l.length (fun gk i wr=>∃ k:Nat,gk+k=l.length∧i=.int .i64 k∧Hid (Below w.heap.size w wr))
      case atStart=>exact ⟨0,by omega,rfl,hI (Below.refl _ _)⟩
      case round =>
      obtain ⟨k,hk,rfl,HW⟩:=hrel;have HK:=hI hk;by_cases hlt:k<l.length
      · obtain ⟨y,hy⟩:∃ y,l[k]?=some y:=⟨_,List.getElem?_eq_getElem hlt⟩
        have r1:=HR.out k y hy;have r2:=HR'.out k y hy;have hb:=HW.out;have c0:=(hb.cell hg).trans (r1 0 _ rfl);have c1:=(hb.cell hg).trans (r1 1 _ rfl);have c2:=(hb.cell hg).trans (r1 2 _ rfl);have c3:=(hb.cell hg).trans (r1 3 _ rfl);have c4:=(hb.cell hg).trans (r1 4 _ rfl);have c5:=(hb.cell hg).trans (r1 5 _ rfl);have e0:=(hb.cell hg').trans (r2 0 _ rfl);have e1:=(hb.cell hg').trans (r2 1 _ rfl);have e2:=(hb.cell hg').trans (r2 2 _ rfl);have e3:=(hb.cell hg').trans (r2 3 _ rfl);have e4:=(hb.cell hg').trans (r2 4 _ rfl);have e5:=(hb.cell hg').trans (r2 5 _ rfl);simp only [Nat.add_zero] at c0 e0;clear r1 r2 hy hb hk
        go_wp2_with fail
        go_quiet (fail)
        go_wp2_with fail
        go_roundg (gk - 1)
        case rel=>exact ⟨k+1,by have:=HK.out;omega,by go_num,hI (bdrewN HW.out _)⟩
        case measure=>have:=HK.out;omega
      · go_wp2_with fail
        go_ret;exact ⟨rfl,HW.out⟩
open Go.RowKit
def lst {α:Type} (r:SR (List α)):List α:=match r with | .ok l=>l | .error _=>[]
theorem RowR.any {α:Type} {f:α→List Value} {t:TypeId} {n:Nat} {r:SR (List α)} {w w':World} {e:Ending} (h:RowR f t n r w e w'):∃ a c z,e=.returned (.tuple #[.slice a (lst r).length c,.int .i64 z])∧Hid (Rw f t n (fun j=>w.heap.size≤j) w' (.slice a (lst r).length c) (lst r))∧Below w.heap.size w w':=by
  obtain ⟨hb,h⟩:=h;cases r with
  | error q=>exact ⟨none,0,q.2,h,hI Rw.nil,hb⟩
  | ok l =>
    obtain ⟨v,h1,h2⟩:=h;obtain ⟨a,c,rfl⟩:=h2.shape;exact ⟨a,c,0,h1,hI h2,hb⟩
theorem do_ba {b:List St} {a:Option Addr} {c:Nat} {w w1:World} (h:BA b a c w) (hy:St.wys b≤1073741820) (hw:w1=(w.alloc (.cells #[.slice a b.length c] 22)).alloc (.cells #[.int .i64 5,.int .i64 0,.slice none 0 0,.slice none 0 0,.slice none 0 0,.slice (some ⟨w.heap.size,0,none⟩) 1 1,.string ⟨#[]⟩] 46)):BA [doS b] (some ⟨w.heap.size+1,0,none⟩) 1 w1:=by
  have hb:Below w.heap.size w w1:=by rw [hw];exact bw
  refine ⟨?_,Nat.le_refl _,by unfold MX;omega,by unfold LM;simp,?_⟩
  · show 1+0+0+0+0+(1+St.wys b+0)+0≤_;omega
  · have h1:w1.heap[w.heap.size+1]?=some (.cells #[.int .i64 5,.int .i64 0,.slice none 0 0,.slice none 0 0,.slice none 0 0,.slice (some ⟨w.heap.size,0,none⟩) 1 1,.string ⟨#[]⟩] 46):=by rw [hw];exact box_at (by simp)
    have h0:w1.heap[w.heap.size]?=some (.cells #[.slice a b.length c] 22):=by rw [hw];exact box_alloc (box_at rfl) _
    refine ⟨w.heap.size+1,0,⟨none,0,none,0,none,0,some ⟨w.heap.size,0,none⟩,1⟩,rfl,trivial,box_lt h1,fun j v hv=>?_,?_,trivial⟩
    · rw [Nat.zero_add,box_cell h1,←Array.getElem?_toList];exact hv
    · refine St.at_iff.2 ⟨⟨by show W64 5;unfold W64;omega,by show W64 0;unfold W64;omega,Nat.zero_le _⟩,⟨Nat.le_refl _,⟨Nat.zero_le _,Nat.zero_le _⟩,Nat.le_refl _,⟨Nat.zero_le _,Nat.zero_le _⟩,Nat.le_refl _,⟨Nat.zero_le _,Nat.zero_le _⟩,Nat.le_refl _,by show 1≤MX;unfold MX;omega,by show 1*24≤LM;unfold LM;omega⟩,Rows.nil _,Rows.nil _,Rows.nil _,St.atss_iff.1 ⟨w.heap.size,0,a,c,rfl,trivial,box_lt h0,fun j v hv=>?_,⟨h.l1,h.l2,h.l3⟩,h.at_.keep (keep_below hb) (fun _ h=>h),trivial⟩⟩;rw [Nat.zero_add,box_cell h0,←Array.getElem?_toList];exact hv
theorem errP_alt {α:Type} {r:SR α} (h:NZ r):∃ l z,errP r=(l,z)∧((z=0∧∃ σ,Hid (r=.ok σ))∨z≠0):=by
  cases r with
  | ok σ=>exact ⟨0,0,rfl,.inl ⟨rfl,σ,hI rfl⟩⟩
  | error q=>exact ⟨q.1,q.2,rfl,.inr (h q rfl)⟩
structure AwC (T:World→Prop):Prop where
  keep:∀ w w',Below w.heap.size w w'→T w→T w'
  run:∀ w,T w→Calls Tryz.prog 12 #[] w fun e w'=>e=.returned (.bool true)∧Below w.heap.size w w'
def LgC:Prop:=∀ (b:List St) (a:Option Addr) (c:Nat) (w:World),BA b a c w→Calls Tryz.prog 11 #[.slice a b.length c] w fun e w'=>(∃ B,e=.returned (.bool B))∧Below w.heap.size w w'
theorem y15a {P:Prop} (h:P:=by
  go_wp2_with (first
    | (go_at_call 13;(with_reducible refine (HCK1.out _ bw).mono ?_);rintro e w2 ⟨rfl,hb2⟩)
    | (go_at_call 13;(with_reducible refine (HCK2.out _ bw).mono ?_);rintro e w3 ⟨rfl,hb3⟩)
    | (go_at_call 11;(with_reducible refine (HLG.out _ bw).mono ?_);rintro e w4 ⟨⟨B,rfl⟩,hb4⟩;cases B)
    | (go_at_call 12;(with_reducible refine (HAW.out _ bw).mono ?_);rintro e w5 ⟨rfl,hb5⟩))
  all_goals
    go_ret;exact ⟨rfl,bw⟩):P:=h
theorem y15b {P:Prop} (h:P:=by
  subst h0
  go_wp2_with fail
  go_loopg [96] 0 (fun gk i wr=>gk=0∧i=.int .i64 0∧wr=w12)
  case atStart=>exact ⟨rfl,rfl,rfl⟩
  case round =>
  obtain ⟨rfl,rfl,rfl⟩:=hrel;have hbw:=HBW.out
  go_wp2_with (go_at_call 12;(with_reducible refine (HAW.out _ bw).mono ?_);rintro e w15 ⟨rfl,hb15⟩)
  go_ret;exact ⟨rfl,bw⟩):P:=h
set_option maxRecDepth 100000 in
set_option maxHeartbeats 4000000 in
theorem wraps_walk {cv:List St→Int} (hC:CV cv) {T:World→Prop} (hA:AwC T) (hL:LgC) {b:List St} {a:Option Addr} {c:Nat} {w:World} (hB:BA b a c w) (hy:St.wys b≤1073741820) (hT:T w) :
    Calls Tryz.prog 10 #[.slice a b.length c] w fun e w'=>e=.returned (.bool true)∧Below w.heap.size w w':=by
  obtain ⟨w1,hw1⟩:∃ w1:World,w1=(w.alloc (.cells #[.slice a b.length c] 22)).alloc (.cells #[.int .i64 5,.int .i64 0,.slice none 0 0,.slice none 0 0,.slice none 0 0,.slice (some ⟨w.heap.size,0,none⟩) 1 1,.string ⟨#[]⟩] 46):=⟨_,rfl⟩
  have hb1:Below w.heap.size w w1:=by rw [hw1];exact bw
  have hB1:=do_ba hB hy hw1;obtain ⟨l1,z1,e1,hz1⟩:=errP_alt (walk_nz cv b);obtain ⟨l2,z2,e2,hz2⟩:=errP_alt (walk_nz cv [doS b]);have HCK1:=hI (fun w' h=>by have:=check_at hC (hB.below h);rw [e1] at this;exact this:∀ w',Below w.heap.size w w'→Calls Tryz.prog 13 #[.slice a b.length c] w' fun e w''=>e=.returned (.tuple #[.int .i64 l1,.int .i64 z1])∧Below w'.heap.size w' w'');have HCK2:=hI (fun w' h=>by have:=check_at hC (hB1.below h);rw [e2] at this;exact this:∀ w',Below w1.heap.size w1 w'→Calls Tryz.prog 13 #[.slice (some ⟨w.heap.size+1,0,none⟩) 1 1] w' fun e w''=>e=.returned (.tuple #[.int .i64 l2,.int .i64 z2])∧Below w'.heap.size w' w'');have HLG:=hI (fun w' h=>hL b a c w' (hB.below h):∀ w',Below w.heap.size w w'→Calls Tryz.prog 11 #[.slice a b.length c] w' fun e w''=>(∃ B,e=.returned (.bool B))∧Below w'.heap.size w' w'');have HAW:=hI (fun w' h=>hA.run w' (hA.keep _ _ h hT):∀ w',Below w.heap.size w w'→Calls Tryz.prog 12 #[] w' fun e w''=>e=.returned (.bool true)∧Below w'.heap.size w' w'');have HU1:=hI (show ∀ w',Below w.heap.size w w'→Calls Tryz.prog 22 #[.slice a b.length c] w' (RowR usF 69 6 ((walkV cv b).map (·.uses)) w') from fun w' h=>uses_at hC (hB.below h));have HU2:=hI (show ∀ w',Below w1.heap.size w1 w'→Calls Tryz.prog 22 #[.slice (some ⟨w.heap.size+1,0,none⟩) 1 1] w' (RowR usF 69 6 ((walkV cv [doS b]).map (·.uses)) w') from fun w' h=>uses_at hC (hB1.below h));have HL1:=hI (show ∀ w',Below w.heap.size w w'→Calls Tryz.prog 17 #[.slice a b.length c,.int .i64 0] w' (RowR lcF 40 2 ((funV cv b 0).map (·.locals)) w') from fun w' h=>locals_at hC (hB.below h) 0);have HL2:=hI (show ∀ w',Below w1.heap.size w1 w'→Calls Tryz.prog 17 #[.slice (some ⟨w.heap.size+1,0,none⟩) 1 1,.int .i64 0] w' (RowR lcF 40 2 ((funV cv [doS b] 0).map (·.locals)) w') from fun w' h=>locals_at hC (hB1.below h) 0);have HJ1:=hI (show ∀ w',Below w.heap.size w w'→Calls Tryz.prog 25 #[.slice a b.length c] w' (RowR jpF 75 5 ((walkV cv b).map (·.jumps)) w') from fun w' h=>jumps_at hC (hB.below h))
  have HJ2:=hI (show ∀ w',Below w1.heap.size w1 w'→Calls Tryz.prog 25 #[.slice (some ⟨w.heap.size+1,0,none⟩) 1 1] w' (RowR jpF 75 5 ((walkV cv [doS b]).map (·.jumps)) w') from fun w' h=>jumps_at hC (hB1.below h));have HSZ:=hI (show St.szs b+1≤2147483647 from by have:=St.szs_le8 b;omega);clear hC hA hL hB hB1 hT hy e1 e2
  go_enter Tryz.func10,Tryz.ntmps10
  go_upto_region 2 with fail
  rw [←hw1];clear hw1;rcases hz1 with ⟨rfl,σ1,HR1⟩|hz1
  rotate_left
  · have q1:(z1 != 0)=true:=by simp [hz1]
    clear hz1 hz2;exact y15a
  rcases hz2 with ⟨rfl,σ2,HR2⟩|hz2
  rotate_left
  · have q2:(z2 != 0)=true:=by simp [hz2]
    clear hz2;exact y15a
  obtain ⟨σ',h3,hf,hu,hj⟩:=scope_do (σ:=σ1) HSZ.out (by have:=HR1.out;unfold walkV at this;split at this;exact this;cases this)
  obtain rfl:σ2=σ':=by
    have:=HR2.out;unfold walkV at this;split at this
    · rw [h3] at this;cases this;rfl
    · cases this
  have eU:(walkV cv [doS b]).map (·.uses)=(walkV cv b).map (·.uses):=by rw [HR1.out,HR2.out];show Except.ok σ2.uses=Except.ok σ1.uses;rw [hu]
  have eJ:(walkV cv [doS b]).map (·.jumps)=(walkV cv b).map (·.jumps):=by rw [HR1.out,HR2.out];show Except.ok σ2.jumps=Except.ok σ1.jumps;rw [hj]
  have eL:(funV cv [doS b] 0).map (·.locals)=(funV cv b 0).map (·.locals):=by
    have e9:funV cv [doS b] 0=funV cv b 0:=by unfold funV;rw [HR1.out,HR2.out];unfold Sc.fu;show (if _ then _ else _)=(if _ then _ else _);rw [hf]
    rw [e9]
  rw [eU] at HU2;rw [eJ] at HJ2;rw [eL] at HL2;generalize (walkV cv b).map (·.uses)=U at *;generalize (walkV cv b).map (·.jumps)=J at *;generalize (funV cv b 0).map (·.locals)=L at *;clear eU eJ eL h3 hf hu hj HR1 HR2 HSZ
  go_upto_region 14 with (first
    | (go_at_call 13;(with_reducible refine (HCK1.out _ bw).mono ?_);rintro e w2 ⟨rfl,hb2⟩)
    | (go_at_call 13;(with_reducible refine (HCK2.out _ bw).mono ?_);rintro e w3 ⟨rfl,hb3⟩)
    | (go_at_call 11;(with_reducible refine (HLG.out _ bw).mono ?_);rintro e w4 ⟨⟨B,rfl⟩,hb4⟩;cases B)
    | (go_at_call 12;(with_reducible refine (HAW.out _ bw).mono ?_);rintro e w5 ⟨rfl,hb5⟩)
    | (go_at_call 22;(with_reducible refine (HU1.out _ bw).mono ?_);intro e w6 hD;obtain ⟨ua,uc,z6,rfl,HRu,hb6⟩:=hD.any;clear hD)
    | (go_at_call 22;(with_reducible refine (HU2.out _ bw).mono ?_);intro e w7 hD;obtain ⟨va,vc,z7,rfl,HRv,hb7⟩:=hD.any;clear hD)
    | (go_at_call 17;(with_reducible refine (HL1.out _ bw).mono ?_);intro e w8 hD;obtain ⟨la,lc,z8,rfl,HRl,hb8⟩:=hD.any;clear hD)
    | (go_at_call 17;(with_reducible refine (HL2.out _ bw).mono ?_);intro e w9 hD;obtain ⟨ma,mc,z9,rfl,HRm,hb9⟩:=hD.any;clear hD)
    | (go_at_call 25;(with_reducible refine (HJ1.out _ bw).mono ?_);intro e w10 hD;obtain ⟨ja,jc,z10,rfl,HRj,hb10⟩:=hD.any;clear hD)
    | (go_at_call 25;(with_reducible refine (HJ2.out _ bw).mono ?_);intro e w11 hD;obtain ⟨ka,kc,z11,rfl,HRk,hb11⟩:=hD.any;clear hD)
    | (go_at_call 24;refine (same_uses (lst U) _ _ _ (HRu.out.keep (keep_below (show Below w6.heap.size w6 w11 from bw))) (HRv.out.keep (keep_below (show Below w7.heap.size w7 w11 from bw)))).mono ?_;rintro e w12 ⟨rfl,hb12⟩))
  rotate_left
  · go_wp2_with (go_at_call 12;(with_reducible refine (HAW.out _ bw).mono ?_);rintro e w5 ⟨rfl,hb5⟩)
    go_ret;exact ⟨rfl,bw⟩
  have hJ:=HRj.out.keep (keep_below (show Below w10.heap.size w10 w12 from bw));have hK:=HRk.out.keep (keep_below (show Below w11.heap.size w11 w12 from bw));have hb12':Below w.heap.size w w12:=bw;have HBW:=hI hb12';clear hb1 hb2 hb3 hb4 hb6 hb7 hb8 hb9 hb10 hb11 hb12 hb12' HCK1 HCK2 HLG HU1 HU2 HL1 HL2 HJ1 HJ2;generalize lst J=l at *;rcases hJ.at_ (fun x=>rfl) with ⟨hv,h0⟩|⟨g,c1,hv,-,hg,hc,hcm,hr⟩
  · exact y15b
  · rcases hK.at_ (fun x=>rfl) with ⟨hv',h0⟩|⟨g',c1',hv',-,hg',hc',hcm',hr'⟩
    · exact y15b
    · cases hv;cases hv';have HR:=hI hr;have HR':=hI hr';unfold maxLen at hcm hcm';clear hJ hK hr hr' HRj HRk
      go_wp2_with fail
      go_loopg [96] l.length (fun gk i wr=>∃ k:Nat,gk+k=l.length∧i=.int .i64 k∧Hid (Below w12.heap.size w12 wr))
      case atStart=>exact ⟨0,by omega,rfl,hI (Below.refl _ _)⟩
      case round =>
      obtain ⟨k,hk,rfl,HW⟩:=hrel;have HK:=hI hk;by_cases hlt:k<l.length
      · obtain ⟨y,hy⟩:∃ y,l[k]?=some y:=⟨_,List.getElem?_eq_getElem hlt⟩
        have r1:=HR.out k y hy;have r2:=HR'.out k y hy;have hb:=HW.out;have c0:=(hb.cell hg).trans (r1 0 _ rfl);have c1:=(hb.cell hg).trans (r1 1 _ rfl);have c2:=(hb.cell hg).trans (r1 2 _ rfl);have c3:=(hb.cell hg).trans (r1 3 _ rfl);have c4:=(hb.cell hg).trans (r1 4 _ rfl);have e0:=(hb.cell hg').trans (r2 0 _ rfl);have e1:=(hb.cell hg').trans (r2 1 _ rfl);have e2:=(hb.cell hg').trans (r2 2 _ rfl);have e3:=(hb.cell hg').trans (r2 3 _ rfl);have e4:=(hb.cell hg').trans (r2 4 _ rfl);simp only [Nat.add_zero] at c0 e0;clear r1 r2 hy hb hk
        go_wp2_with fail
        go_quiet (fail)
        go_wp2_with fail
        go_roundg (gk - 1)
        case rel=>exact ⟨k+1,by have:=HK.out;omega,by go_num,hI (bdrewN HW.out _)⟩
        case measure=>have:=HK.out;omega
      · have hbw:Below w.heap.size w wr:=HBW.out.trans (HW.out.mono HBW.out.size)
        go_wp2_with (go_at_call 12;(with_reducible refine (HAW.out _ bw).mono ?_);rintro e w15 ⟨rfl,hb15⟩)
        go_ret;exact ⟨rfl,bw⟩
open Go.RowKit
abbrev aw1:ByteArray:=⟨#[108,111,99,97,108,32,97,44,32,98,32,61,32,49,32,108,111,99,97,108,32,102,117,110,99,116,105,111,110,32,102,40,41,32,114,101,116,117,114,110,32,98,32,101,110,100]⟩
abbrev aw2:ByteArray:=⟨#[108,111,99,97,108,32,120,32,61,32,49,10,98,114,101,97,107]⟩
abbrev aw3:ByteArray:=⟨#[103,111,116,111,32,100,111,110,101,32,108,111,99,97,108,32,120,32,61,32,49,32,58,58,100,111,110,101,58,58]⟩
abbrev aw4:ByteArray:=⟨#[103,111,116,111,32,100,111,110,101,32,108,111,99,97,108,32,120,32,61,32,49,32,58,58,100,111,110,101,58,58,32,112,114,105,110,116,40,120,41]⟩
abbrev aw5:ByteArray:=⟨#[108,111,99,97,108,32,120,32,60,99,111,110,115,116,62,32,61,32,49,32,120,32,61,32,50]⟩
def RdC (T:World→Prop) (s:ByteArray) (b:List St):Prop:=∀ w,T w→Calls Tryz.prog 21 #[.string s] w fun e w'=>(∃ a c,e=.returned (.slice a b.length c)∧Hid (BA b a c w'))∧Below w.heap.size w w'
structure AwE (cv:List St→Int) (T:World→Prop) (b1 b2 b3 b4 b5:List St):Prop where
  k1:∃ (x:Fu) (y z:ByteArray × Int),funV cv b1 0=.ok x∧x.cau=[1]∧x.locals=[y,z,(⟨#[102]⟩,0)]
  k2:(funV cv b1 1).map (·.ups)=.ok [(⟨#[98]⟩,true,1)]
  k3:errP (walkV cv b2)=(2,4)
  k4:(errP (walkV cv b3)).2=0
  k5:(errP (walkV cv b4)).2=12
  k6:(errP (walkV cv b5)).2=11
  r1:RdC T aw1 b1
  r2:RdC T aw2 b2
  r3:RdC T aw3 b3
  r4:RdC T aw4 b4
  r5:RdC T aw5 b5
theorem capI_one {x:Fu} (h:x.cau=[1]):capI x=[1]:=by unfold capI;rw [h,show intKeys (asD (cauL [1]))=[1] from by kernel_rfl];simp
set_option maxRecDepth 100000 in
set_option maxHeartbeats 4000000 in
theorem awake_run {cv:List St→Int} (hC:CV cv) {T:World→Prop} (hT:∀ w w',Below w.heap.size w w'→T w→T w') {b1 b2 b3 b4 b5:List St} (hE:AwE cv T b1 b2 b3 b4 b5):AwC T:=by
  refine ⟨hT,fun w hTw=>?_⟩;obtain ⟨x,y,z,hx,hx1,hx2⟩:=hE.k1;have R1:=hI (show ∀ w',Below w.heap.size w w'→Calls Tryz.prog 21 #[.string aw1] w' fun e w''=>(∃ a c,e=.returned (.slice a b1.length c)∧Hid (BA b1 a c w''))∧Below w'.heap.size w' w'' from fun w' h=>hE.r1 w' (hT w w' h hTw));have R2:=hI (show ∀ w',Below w.heap.size w w'→Calls Tryz.prog 21 #[.string aw2] w' fun e w''=>(∃ a c,e=.returned (.slice a b2.length c)∧Hid (BA b2 a c w''))∧Below w'.heap.size w' w'' from fun w' h=>hE.r2 w' (hT w w' h hTw));have R3:=hI (show ∀ w',Below w.heap.size w w'→Calls Tryz.prog 21 #[.string aw3] w' fun e w''=>(∃ a c,e=.returned (.slice a b3.length c)∧Hid (BA b3 a c w''))∧Below w'.heap.size w' w'' from fun w' h=>hE.r3 w' (hT w w' h hTw));have R4:=hI (show ∀ w',Below w.heap.size w w'→Calls Tryz.prog 21 #[.string aw4] w' fun e w''=>(∃ a c,e=.returned (.slice a b4.length c)∧Hid (BA b4 a c w''))∧Below w'.heap.size w' w'' from fun w' h=>hE.r4 w' (hT w w' h hTw));have R5:=hI (show ∀ w',Below w.heap.size w w'→Calls Tryz.prog 21 #[.string aw5] w' fun e w''=>(∃ a c,e=.returned (.slice a b5.length c)∧Hid (BA b5 a c w''))∧Below w'.heap.size w' w'' from fun w' h=>hE.r5 w' (hT w w' h hTw))
  have HC:=hI (show ∀ a c w,BA b1 a c w→Calls Tryz.prog 19 #[.slice a b1.length c,.int .i64 0] w (RowR zF 3 1 (.ok [1]) w) from fun a c w h=>by
    have h9:=capt_at hC h 0 (fun x' h'=>by rw [hx] at h';cases h';rw [hx1];decide);rw [hx] at h9;rw [show (Except.ok x:SR Fu).map capI=.ok [1] from by show Except.ok (capI x)=_;rw [capI_one hx1]] at h9;exact h9)
  have HU:=hI (show ∀ a c w,BA b1 a c w→Calls Tryz.prog 15 #[.slice a b1.length c,.int .i64 1] w (RowR upF 38 3 (.ok [(⟨#[98]⟩,true,1)]) w) from fun a c w h=>by
    have h9:=ups_at hC h 1;rw [hE.k2] at h9;exact h9)
  have HL:=hI (show ∀ a c w,BA b1 a c w→Calls Tryz.prog 17 #[.slice a b1.length c,.int .i64 0] w (RowR lcF 40 2 (.ok [y,z,(⟨#[102]⟩,0)]) w) from fun a c w h=>by
    have h9:=locals_at hC h 0;rw [hx,show (Except.ok x:SR Fu).map (·.locals)=.ok [y,z,(⟨#[102]⟩,0)] from by show Except.ok x.locals=_;rw [hx2]] at h9;exact h9)
  have H2:=hI (show ∀ a c w,BA b2 a c w→Calls Tryz.prog 13 #[.slice a b2.length c] w fun e w'=>e=.returned (.tuple #[.int .i64 2,.int .i64 4])∧Below w.heap.size w w' from fun a c w h=>by have h9:=check_at hC h;rw [hE.k3] at h9;exact h9);obtain ⟨n3,e3⟩:∃ n,errP (walkV cv b3)=(n,0):=⟨_,Prod.ext rfl hE.k4⟩
  obtain ⟨n4,e4⟩:∃ n,errP (walkV cv b4)=(n,12):=⟨_,Prod.ext rfl hE.k5⟩
  obtain ⟨n5,e5⟩:∃ n,errP (walkV cv b5)=(n,11):=⟨_,Prod.ext rfl hE.k6⟩
  have H3:=hI (show ∀ a c w,BA b3 a c w→Calls Tryz.prog 13 #[.slice a b3.length c] w fun e w'=>e=.returned (.tuple #[.int .i64 n3,.int .i64 0])∧Below w.heap.size w w' from fun a c w h=>by have h9:=check_at hC h;rw [e3] at h9;exact h9);have H4:=hI (show ∀ a c w,BA b4 a c w→Calls Tryz.prog 13 #[.slice a b4.length c] w fun e w'=>e=.returned (.tuple #[.int .i64 n4,.int .i64 12])∧Below w.heap.size w w' from fun a c w h=>by have h9:=check_at hC h;rw [e4] at h9;exact h9);have H5:=hI (show ∀ a c w,BA b5 a c w→Calls Tryz.prog 13 #[.slice a b5.length c] w fun e w'=>e=.returned (.tuple #[.int .i64 n5,.int .i64 11])∧Below w.heap.size w w' from fun a c w h=>by have h9:=check_at hC h;rw [e5] at h9;exact h9);clear hE hx hx1 hx2 e3 e4 e5 hT hTw hC
  go_enter Tryz.func12,Tryz.ntmps12
  go_upto_region 5 with (first
    | (go_at_call 21;(with_reducible refine (R1.out _ bw).mono ?_);rintro e w1 ⟨⟨a1,c1,rfl,B1⟩,hb1⟩)
    | (go_at_call 19;(with_reducible refine (HC.out _ _ _ (B1.out.below bw)).mono ?_);rintro e w2 ⟨hb2,v2,rfl,hr2⟩;have HR2:=hI hr2;clear hr2)
    | (go_at_call 15;(with_reducible refine (HU.out _ _ _ (B1.out.below bw)).mono ?_);rintro e w3 ⟨hb3,v3,rfl,hr3⟩;have HR3:=hI hr3;clear hr3)
    | (go_at_call 17;(with_reducible refine (HL.out _ _ _ (B1.out.below bw)).mono ?_);rintro e w4 ⟨hb4,v4,rfl,hr4⟩;have HR4:=hI hr4;clear hr4))
  have r2:=HR2.out.keep (keep_below (show Below w2.heap.size w2 w4 from bw));have r3:=HR3.out.keep (keep_below (show Below w3.heap.size w3 w4 from bw));have r4:=HR4.out
  obtain ⟨g2,c2,rfl,m2,x2⟩:∃ g c,v2=.slice (some ⟨g,0,none⟩) 1 c∧1≤c∧w4.rangeAt g 0 (zF 1):=by
    rcases r2.at_ (fun x=>rfl) with ⟨-,h0⟩|⟨g,c,hv,-,-,hc,-,hr⟩
    · cases h0
    · exact ⟨g,c,hv,hc,hr 0 1 rfl⟩
  obtain ⟨g3,c3,rfl,m3,x3⟩:∃ g c,v3=.slice (some ⟨g,0,none⟩) 1 c∧1≤c∧w4.rangeAt g 0 (upF (⟨#[98]⟩,true,1)):=by
    rcases r3.at_ (fun x=>rfl) with ⟨-,h0⟩|⟨g,c,hv,-,-,hc,-,hr⟩
    · cases h0
    · exact ⟨g,c,hv,hc,hr 0 _ rfl⟩
  obtain ⟨g4,c4,rfl,m4,x4⟩:∃ g c,v4=.slice (some ⟨g,0,none⟩) 3 c∧3≤c∧w4.rangeAt g (2*2) (lcF (⟨#[102]⟩,0)):=by
    rcases r4.at_ (fun x=>rfl) with ⟨-,h0⟩|⟨g,c,hv,-,-,hc,-,hr⟩
    · cases h0
    · exact ⟨g,c,hv,hc,hr 2 _ rfl⟩
  have d2:=x2 0 _ rfl;have d3:=x3 0 _ rfl;have d3b:=x3 1 _ rfl;have d3c:=x3 2 _ rfl;have d4:=x4 0 _ rfl;simp only [Nat.zero_add,Nat.add_zero,Nat.reduceMul,Nat.reduceAdd] at d2 d3 d3b d3c d4;clear x2 x3 x4 r2 r3 r4 HR2 HR3 HR4 HC HU HL B1
  go_wp2_with (first
    | (go_at_call 21;(with_reducible refine (R2.out _ bw).mono ?_);rintro e w5 ⟨⟨a5,c5,rfl,B5⟩,hb5⟩)
    | (go_at_call 13;(with_reducible refine (H2.out _ _ _ B5.out).mono ?_);rintro e w6 ⟨rfl,hb6⟩)
    | (go_at_call 21;(with_reducible refine (R3.out _ bw).mono ?_);rintro e w7 ⟨⟨a7,c7,rfl,B7⟩,hb7⟩)
    | (go_at_call 13;(with_reducible refine (H3.out _ _ _ B7.out).mono ?_);rintro e w8 ⟨rfl,hb8⟩)
    | (go_at_call 21;(with_reducible refine (R4.out _ bw).mono ?_);rintro e w9 ⟨⟨a9,c9,rfl,B9⟩,hb9⟩)
    | (go_at_call 13;(with_reducible refine (H4.out _ _ _ B9.out).mono ?_);rintro e w10 ⟨rfl,hb10⟩)
    | (go_at_call 21;(with_reducible refine (R5.out _ bw).mono ?_);rintro e w11 ⟨⟨a11,c11,rfl,B11⟩,hb11⟩)
    | (go_at_call 13;(with_reducible refine (H5.out _ _ _ B11.out).mono ?_);rintro e w12 ⟨rfl,hb12⟩))
  go_ret;exact ⟨rfl,bw⟩
end Go.Proofs.YtnglmhlogdjkgaaGreatDoor
