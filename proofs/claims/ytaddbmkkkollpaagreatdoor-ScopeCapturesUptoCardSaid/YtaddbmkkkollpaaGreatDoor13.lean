import Derived.Test.YtaddbmkkkollpaaGreatDoorTZ
import Derived.Test.YtaddbmkkkollpaaGreatDoorI5
set_option linter.all false
namespace Go.Proofs.YtaddbmkkkollpaaGreatDoor
set_option maxHeartbeats 4000000
set_option maxRecDepth 100000
open Go.RowKit Go.Maps Go.Sort Go.Shelf
theorem tY (l:List Nat):Maps.Tidy (dr (cR l))∧Maps.size (dr (cR l))≤l.length:=by
  induction l using pn with
  | h0=>exact ⟨Maps.tidy_empty,KU _⟩
  | h1 l r ih =>
    rw [show cR (l++[r])=cR l++[(.int .i64 (r:Int),.bool true)] by unfold cR;simp,kc];refine ⟨ih.1.put (vS _) _,?_⟩;rw [Maps.size_put ih.1];have:=ih.2;split <;> simp <;> omega
def cF (x:Fu):List Int:=(intKeys (dr (cR x.cau))).mergeSort leI
def zF (n:Int):List Value:=[.int .i64 n]
theorem KF (l:List Int):l.flatMap zF=l.map encZ:=by induction l with|nil=>rfl|cons x r ih=>simp [zF,ih]
theorem IK (m:Nat):AnyZI.SortsIn Tryz.prog Tryz.sortedC_ren Fence.wide m :=
  ⟨fun blk off cap ss W hH hblk hsz=>callsIn_wide.2 (AnyM.slices_Sort_int Tryz.sortC blk off cap ss W hH hblk hsz),
   fun p cap W=>callsIn_wide.2 (AnyM.slices_Sort_int_none Tryz.sortC p cap W)⟩
theorem Ii {w':World} {v:Value} {ss l:List Int} {D:Nat→Prop} {m:Nat} (hD:∀ j,m≤j→D j) (h:w'.ownsRow m 3 1 v ss.length ((ss.mergeSort leI).map encZ)) (hp:ss.Perm l):Rw zF 3 1 D w' v (l.mergeSort leI):=by
  rw [mergeSort_of_perm_i hp] at h;have hl:ss.length=(l.mergeSort leI).length:=by rw [(List.mergeSort_perm l leI).length_eq,hp.length_eq]
  rw [hl,←KF] at h;refine ⟨?_,fun j hj=>hD j (h.lt j hj).1⟩;obtain ⟨h1,h2⟩:=h;refine ⟨h1,?_⟩;rcases h2 with h2|⟨g,cap,cur,r1,r2,r3⟩
  · exact .inl h2
  · exact .inr ⟨g,cap,cur,r1,Nat.zero_le _,r3⟩
theorem tW {cv:List St→Int} (hC:CV cv) {b:List St} {a:Option Addr} {c:Nat} {w:World} (hB:BA b a c w) (fn:Int) (hN:∀ x,ew cv b fn=.ok x→x.cau.length≤68719476736) :
    Calls Tryz.prog 13 #[.slice a b.length c,.int .i64 fn] w (eh zF 3 1 ((ew cv b fn).map cF) w):=by
  have HW:=hI (rT hC hB fn);obtain ⟨R,hR⟩:∃ R,R=ew cv b fn:=⟨_,rfl⟩
  rw [←hR] at HW hN ⊢;have HN:=hI hN;clear hC hB hR hN;refine (callsIn_wide (n:=6)).1 ?_;have hfK:Fence.wide.fn 25:=trivial;have hfS:Fence.wide.fn 24:=trivial;refine callsIn_of_wp Tryz.func13 rfl trivial ?_ rfl;simp only [Tryz.ntmps13,List.size_toArray,List.length_cons,List.length_nil,Nat.reduceAdd,Nat.reduceSub,Array.replicate_succ,Array.replicate_zero,List.push_toArray,List.append_toArray,List.nil_append,List.cons_append]
  gi_wp2_with (refine ⟨trivial,?_⟩;gi_at_call 23;(refine (callsIn_wide.2 HW.out).mono ?_);rintro e w1 ⟨hb1,⟨q,hr,hq,rfl⟩|⟨x,y,G,p,i,hr,rfl,hp,hs⟩⟩;(have hq1:(q.2 != 0)=true:=by simp [hq.out]);rotate_left;(have HBX:=hI hs.out.box;have k0:=fun i=>ac HBX.out i;have k0f:=fun i=>ag HBX.out i;have k0z:=ae HBX.out);rotate_left)
  · go_ret2
    exact eh.err (by rw [hr.out];rfl) hb1
  · have hmc:=hs.out.mc;have hmx:=HN.out x hr.out;have hsz:=(tY x.cau).2;have hbl:=Mp.lt hmc
    have hseq:SeqGives Fence.wide 2 Tryz.prog 36 #[.pointer (some ⟨w1.heap.size,0,none⟩)] encZ (fun ss=>ss.Perm (intKeys (dr (cR x.cau)))) (Maps.size (dr (cR x.cau))) (w1.alloc (.cells #[.map (some y.mc)] 89)) :=
      AnyZI.keys_gives (ρ:=Tryz.keysC_ren) { Tryz.keysC with } Fence.wide _ trivial rfl (by omega) w1.heap.size y.mc x.cau.length (dr (cR x.cau)) _ (by simp) (by simp) (by
        obtain ⟨es,clock,hb,Ft,hs,hD⟩:=hmc;exact ⟨es,clock,(Below.heap_alloc _ _ y.mc hbl).trans hb,Ft,hs,hD⟩)
    have cK:∀ mb W,CallsIn Fence.wide 5 Tryz.prog 25 #[.map mb] W fun e w'=>e=.returned (.func (.func 36) #[] #[.pointer (some ⟨W.heap.size,0,none⟩)])∧w'=W.alloc (.cells #[.map mb] 89):=fun mb W=>AnyZI.keys_in Tryz.keysC Fence.wide 5 trivial rfl mb W;have cS:=AnyZI.sorted_in Tryz.sortedC Fence.wide 5 trivial trivial trivial trivial rfl (by omega) (IK _) (enters_of Tryz.func35 (by kernel_rfl) rfl) 36 #[.pointer (some ⟨w1.heap.size,0,none⟩)] trivial (enters_of Tryz.func36 (by kernel_rfl) rfl) _ _ (by unfold maxLen;omega) (by omega) _ hseq;change CallsIn _ _ Tryz.prog 24 _ _ _ at cS
    gi_wp2_with (first
      | (gi_at_call 25;refine (cK _ _).mono ?_;rintro e w' ⟨rfl,rfl⟩)
      | (gi_at_call 24;refine cS.mono ?_;rintro e w' ⟨v,ss,rfl,hS,hrow,hnil,hb⟩))
    go_ret2
    exact eh.row (l:=cF x) (by rw [hr.out];rfl) ((hb1.alloc hb1.size _).trans (hb.mono (by simp;have:=hb1.size;omega))) (Ii (fun j hj=>hj) (ownsRow_base_a hrow (by simp;have:=hb1.size;omega)) hS)
structure pV (T:World→Prop):Prop where
  keep:∀ w w',Below w.heap.size w w'→T w→T w'
  run:∀ w,T w→Calls Tryz.prog 7 #[] w fun e w'=>e=.returned (.bool true)∧Below w.heap.size w w'
open Go.RowKit
abbrev kh:ByteArray:=⟨#[108,111,99,97,108,32,97,44,32,98,32,61,32,49,32,108,111,99,97,108,32,102,117,110,99,116,105,111,110,32,102,40,41,32,114,101,116,117,114,110,32,98,32,101,110,100]⟩
abbrev li:ByteArray:=⟨#[108,111,99,97,108,32,120,32,61,32,49,10,98,114,101,97,107]⟩
abbrev lj:ByteArray:=⟨#[103,111,116,111,32,100,111,110,101,32,108,111,99,97,108,32,120,32,61,32,49,32,58,58,100,111,110,101,58,58]⟩
abbrev lk:ByteArray:=⟨#[103,111,116,111,32,100,111,110,101,32,108,111,99,97,108,32,120,32,61,32,49,32,58,58,100,111,110,101,58,58,32,112,114,105,110,116,40,120,41]⟩
abbrev ll:ByteArray:=⟨#[108,111,99,97,108,32,120,32,60,99,111,110,115,116,62,32,61,32,49,32,120,32,61,32,50]⟩
def kW (T:World→Prop) (s:ByteArray) (b:List St):Prop:=∀ w,T w→Calls Tryz.prog 19 #[.string s] w fun e w'=>(∃ a c,e=.returned (.slice a b.length c)∧Hid (BA b a c w'))∧Below w.heap.size w w'
structure zN (cv:List St→Int) (T:World→Prop) (b1 b2 b3 b4 b5:List St):Prop where
  k1:∃ (x:Fu) (y z:ByteArray × Int),ew cv b1 0=.ok x∧x.cau=[1]∧x.locals=[y,z,(⟨#[102]⟩,0)]
  k2:(ew cv b1 1).map (·.ups)=.ok [(⟨#[98]⟩,true,1)]
  k3:eq (bU cv b2)=(2,4)
  k4:(eq (bU cv b3)).2=0
  k5:(eq (bU cv b4)).2=12
  k6:(eq (bU cv b5)).2=11
  r1:kW T kh b1
  r2:kW T li b2
  r3:kW T lj b3
  r4:kW T lk b4
  r5:kW T ll b5
theorem Bl {x:Fu} (h:x.cau=[1]):cF x=[1]:=by unfold cF;rw [h,show intKeys (dr (cR [1]))=[1] from by kernel_rfl];simp
theorem Ay {cv:List St→Int} (hC:CV cv) {T:World→Prop} (hT:∀ w w',Below w.heap.size w w'→T w→T w') {b1 b2 b3 b4 b5:List St} (hE:zN cv T b1 b2 b3 b4 b5):pV T:=by
  refine ⟨hT,fun w hTw=>?_⟩;obtain ⟨x,y,z,hx,hx1,hx2⟩:=hE.k1;have R1:=hI (show ∀ w',Below w.heap.size w w'→Calls Tryz.prog 19 #[.string kh] w' fun e w''=>(∃ a c,e=.returned (.slice a b1.length c)∧Hid (BA b1 a c w''))∧Below w'.heap.size w' w'' from fun w' h=>hE.r1 w' (hT w w' h hTw));have R2:=hI (show ∀ w',Below w.heap.size w w'→Calls Tryz.prog 19 #[.string li] w' fun e w''=>(∃ a c,e=.returned (.slice a b2.length c)∧Hid (BA b2 a c w''))∧Below w'.heap.size w' w'' from fun w' h=>hE.r2 w' (hT w w' h hTw));have R3:=hI (show ∀ w',Below w.heap.size w w'→Calls Tryz.prog 19 #[.string lj] w' fun e w''=>(∃ a c,e=.returned (.slice a b3.length c)∧Hid (BA b3 a c w''))∧Below w'.heap.size w' w'' from fun w' h=>hE.r3 w' (hT w w' h hTw));have R4:=hI (show ∀ w',Below w.heap.size w w'→Calls Tryz.prog 19 #[.string lk] w' fun e w''=>(∃ a c,e=.returned (.slice a b4.length c)∧Hid (BA b4 a c w''))∧Below w'.heap.size w' w'' from fun w' h=>hE.r4 w' (hT w w' h hTw));have R5:=hI (show ∀ w',Below w.heap.size w w'→Calls Tryz.prog 19 #[.string ll] w' fun e w''=>(∃ a c,e=.returned (.slice a b5.length c)∧Hid (BA b5 a c w''))∧Below w'.heap.size w' w'' from fun w' h=>hE.r5 w' (hT w w' h hTw))
  have HC:=hI (show ∀ a c w,BA b1 a c w→Calls Tryz.prog 13 #[.slice a b1.length c,.int .i64 0] w (eh zF 3 1 (.ok [1]) w) from fun a c w h=>by
    have h9:=tW hC h 0 (fun x' h'=>by rw [hx] at h';cases h';rw [hx1];decide);rw [hx] at h9;rw [show (Except.ok x:SR Fu).map cF=.ok [1] from by show Except.ok (cF x)=_;rw [Bl hx1]] at h9;exact h9)
  have HU:=hI (show ∀ a c w,BA b1 a c w→Calls Tryz.prog 14 #[.slice a b1.length c,.int .i64 1] w (eh gU 54 3 (.ok [(⟨#[98]⟩,true,1)]) w) from fun a c w h=>by
    have h9:=yD hC h 1;rw [hE.k2] at h9;exact h9)
  have HL:=hI (show ∀ a c w,BA b1 a c w→Calls Tryz.prog 20 #[.slice a b1.length c,.int .i64 0] w (eh kG 69 2 (.ok [y,z,(⟨#[102]⟩,0)]) w) from fun a c w h=>by
    have h9:=Fo hC h 0;rw [hx,show (Except.ok x:SR Fu).map (·.locals)=.ok [y,z,(⟨#[102]⟩,0)] from by show Except.ok x.locals=_;rw [hx2]] at h9;exact h9)
  have H2:=hI (show ∀ a c w,BA b2 a c w→Calls Tryz.prog 10 #[.slice a b2.length c] w fun e w'=>e=.returned (.tuple #[.int .i64 2,.int .i64 4])∧Below w.heap.size w w' from fun a c w h=>by have h9:=mL hC h;rw [hE.k3] at h9;exact h9);obtain ⟨n3,e3⟩:∃ n,eq (bU cv b3)=(n,0):=⟨_,Prod.ext rfl hE.k4⟩
  obtain ⟨n4,e4⟩:∃ n,eq (bU cv b4)=(n,12):=⟨_,Prod.ext rfl hE.k5⟩
  obtain ⟨n5,e5⟩:∃ n,eq (bU cv b5)=(n,11):=⟨_,Prod.ext rfl hE.k6⟩
  have H3:=hI (show ∀ a c w,BA b3 a c w→Calls Tryz.prog 10 #[.slice a b3.length c] w fun e w'=>e=.returned (.tuple #[.int .i64 n3,.int .i64 0])∧Below w.heap.size w w' from fun a c w h=>by have h9:=mL hC h;rw [e3] at h9;exact h9);have H4:=hI (show ∀ a c w,BA b4 a c w→Calls Tryz.prog 10 #[.slice a b4.length c] w fun e w'=>e=.returned (.tuple #[.int .i64 n4,.int .i64 12])∧Below w.heap.size w w' from fun a c w h=>by have h9:=mL hC h;rw [e4] at h9;exact h9);have H5:=hI (show ∀ a c w,BA b5 a c w→Calls Tryz.prog 10 #[.slice a b5.length c] w fun e w'=>e=.returned (.tuple #[.int .i64 n5,.int .i64 11])∧Below w.heap.size w w' from fun a c w h=>by have h9:=mL hC h;rw [e5] at h9;exact h9);clear hE hx hx1 hx2 e3 e4 e5 hT hTw hC
  go_enter Tryz.func7,Tryz.ntmps7
  go_upto_region 5 with (first
    | (go_at_call 19;(with_reducible refine (R1.out _ bw).mono ?_);rintro e w1 ⟨⟨a1,c1,rfl,B1⟩,hb1⟩)
    | (go_at_call 13;(with_reducible refine (HC.out _ _ _ (B1.out.below bw)).mono ?_);rintro e w2 ⟨hb2,v2,rfl,hr2⟩;have HR2:=hI hr2;clear hr2)
    | (go_at_call 14;(with_reducible refine (HU.out _ _ _ (B1.out.below bw)).mono ?_);rintro e w3 ⟨hb3,v3,rfl,hr3⟩;have HR3:=hI hr3;clear hr3)
    | (go_at_call 20;(with_reducible refine (HL.out _ _ _ (B1.out.below bw)).mono ?_);rintro e w4 ⟨hb4,v4,rfl,hr4⟩;have HR4:=hI hr4;clear hr4))
  have r2:=HR2.out.keep (aq (show Below w2.heap.size w2 w4 from bw));have r3:=HR3.out.keep (aq (show Below w3.heap.size w3 w4 from bw));have r4:=HR4.out
  obtain ⟨g2,c2,rfl,m2,x2⟩:∃ g c,v2=.slice (some ⟨g,0,none⟩) 1 c∧1≤c∧w4.rangeAt g 0 (zF 1):=by
    rcases r2.at_ (fun x=>rfl) with ⟨-,h0⟩|⟨g,c,hv,-,-,hc,-,hr⟩
    · cases h0
    · exact ⟨g,c,hv,hc,hr 0 1 rfl⟩
  obtain ⟨g3,c3,rfl,m3,x3⟩:∃ g c,v3=.slice (some ⟨g,0,none⟩) 1 c∧1≤c∧w4.rangeAt g 0 (gU (⟨#[98]⟩,true,1)):=by
    rcases r3.at_ (fun x=>rfl) with ⟨-,h0⟩|⟨g,c,hv,-,-,hc,-,hr⟩
    · cases h0
    · exact ⟨g,c,hv,hc,hr 0 _ rfl⟩
  obtain ⟨g4,c4,rfl,m4,x4⟩:∃ g c,v4=.slice (some ⟨g,0,none⟩) 3 c∧3≤c∧w4.rangeAt g (2*2) (kG (⟨#[102]⟩,0)):=by
    rcases r4.at_ (fun x=>rfl) with ⟨-,h0⟩|⟨g,c,hv,-,-,hc,-,hr⟩
    · cases h0
    · exact ⟨g,c,hv,hc,hr 2 _ rfl⟩
  have d2:=x2 0 _ rfl;have d3:=x3 0 _ rfl;have d3b:=x3 1 _ rfl;have d3c:=x3 2 _ rfl;have d4:=x4 0 _ rfl;simp only [Nat.zero_add,Nat.add_zero,Nat.reduceMul,Nat.reduceAdd] at d2 d3 d3b d3c d4;clear x2 x3 x4 r2 r3 r4 HR2 HR3 HR4 HC HU HL B1
  go_wp2_with (first
    | (go_at_call 19;(with_reducible refine (R2.out _ bw).mono ?_);rintro e w5 ⟨⟨a5,c5,rfl,B5⟩,hb5⟩)
    | (go_at_call 10;(with_reducible refine (H2.out _ _ _ B5.out).mono ?_);rintro e w6 ⟨rfl,hb6⟩)
    | (go_at_call 19;(with_reducible refine (R3.out _ bw).mono ?_);rintro e w7 ⟨⟨a7,c7,rfl,B7⟩,hb7⟩)
    | (go_at_call 10;(with_reducible refine (H3.out _ _ _ B7.out).mono ?_);rintro e w8 ⟨rfl,hb8⟩)
    | (go_at_call 19;(with_reducible refine (R4.out _ bw).mono ?_);rintro e w9 ⟨⟨a9,c9,rfl,B9⟩,hb9⟩)
    | (go_at_call 10;(with_reducible refine (H4.out _ _ _ B9.out).mono ?_);rintro e w10 ⟨rfl,hb10⟩)
    | (go_at_call 19;(with_reducible refine (R5.out _ bw).mono ?_);rintro e w11 ⟨⟨a11,c11,rfl,B11⟩,hb11⟩)
    | (go_at_call 10;(with_reducible refine (H5.out _ _ _ B11.out).mono ?_);rintro e w12 ⟨rfl,hb12⟩))
  go_ret;exact ⟨rfl,bw⟩
