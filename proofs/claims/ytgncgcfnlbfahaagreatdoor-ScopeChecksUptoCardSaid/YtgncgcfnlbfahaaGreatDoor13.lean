import Derived.Test.YtgncgcfnlbfahaaGreatDoorTZ
set_option linter.all false
namespace Go.Proofs.YtgncgcfnlbfahaaGreatDoor
set_option maxHeartbeats 4000000
set_option maxRecDepth 100000
open Go.RowKit Go.Maps Go.Sort Go.Shelf
theorem AQ(l:List Nat):Maps.Tidy (dw (dD l))∧Maps.size (dw (dD l))≤l.length:=by
 induction l using qR with
 |h0=>exact⟨Maps.tidy_empty,I6 _⟩
 |h1 l r ih =>
  rw[show dD (l++[r])=dD l++[(.int .i64 (r:Int),.bool true)] by unfold dD;simp,jE];refine⟨ih.1.put (uW _) _,?_⟩;rw[Maps.size_put ih.1];have:=ih.2;split<;>simp<;>omega
def jH(x:Fu):List Int:=(intKeys (dw (dD x.cau))).mergeSort leI
def zF(n:Int):List Value:=[.int .i64 n]
theorem IV(l:List Int):l.flatMap zF=l.map encZ:=by induction l with|nil=>rfl|cons x r ih=>simp[zF,ih]
theorem Hf(m:Nat):AnyZI.SortsIn Tryz.prog Tryz.sortedC_ren Fence.wide m:=
 ⟨fun blk off cap ss W hH hblk hsz=>callsIn_wide.2 (AnyM.slices_Sort_int Tryz.sortC blk off cap ss W hH hblk hsz),
  fun p cap W=>callsIn_wide.2 (AnyM.slices_Sort_int_none Tryz.sortC p cap W)⟩
theorem GM{w':World}{v:Value}{ss l:List Int}{D:Nat→Prop}{m:Nat}(hD:∀j,m≤j→D j)(h:w'.ownsRow m 3 1 v ss.length ((ss.mergeSort leI).map encZ))(hp:ss.Perm l):Rw zF 3 1 D w' v (l.mergeSort leI):=by
 rw[mergeSort_of_perm_i hp]at h;have hl:ss.length=(l.mergeSort leI).length:=by rw[(List.mergeSort_perm l leI).length_eq,hp.length_eq]
 rw[hl,←IV]at h;refine⟨?_,fun j hj=>hD j (h.lt j hj).1⟩;obtain⟨h1,h2⟩:=h;refine⟨h1,?_⟩;rcases h2 with h2|⟨g,cap,cur,r1,r2,r3⟩
 ·exact .inl h2
 ·exact .inr ⟨g,cap,cur,r1,Nat.zero_le _,r3⟩
theorem AJ{cv:List St→Int}(hC:CV cv){b:List St}{a:Option Addr}{c:Nat}{w:World}(hB:BA b a c w)(fn:Int)(hN:∀x,eK cv b fn=.ok x→x.cau.length≤68719476736):Calls Tryz.prog 15 #[.slice a b.length c,.int .i64 fn] w (b8 zF 3 1 ((eK cv b fn).map jH) w):=by
 have HW:=hI (qB hC hB fn);obtain⟨R,hR⟩:=nM (eK cv b fn)
 rw[←hR]at HW hN⊢;have HN:=hI hN;clear hC hB hR hN;refine(callsIn_wide (n:=6)).1 ?_;have hfK:Fence.wide.fn 30:=trivial;have hfS:Fence.wide.fn 29:=trivial;refine callsIn_of_wp Tryz.func15 rfl trivial ?_ rfl;simp only[Tryz.ntmps15,List.size_toArray,List.length_cons,List.length_nil,Nat.reduceAdd,Nat.reduceSub,Array.replicate_succ,Array.replicate_zero,List.push_toArray,List.append_toArray,List.nil_append,List.cons_append]
 gi_wp2_with (refine⟨trivial,?_⟩;gi_at_call 27;(refine(callsIn_wide.2 HW.1).mono ?_);rintro e w1 ⟨hb1,⟨q,hr,hq,rfl⟩|⟨x,y,G,p,i,hr,rfl,hp,hs⟩⟩;(have hq1:(q.2 != 0)=true:=by simp[hq.1]);rotate_left;(have HBX:=hI hs.1.box;obtain⟨k0,k0f,k0z⟩:=kK HBX);rotate_left)
 ·go_ret2
  exact b8.err (by rw[hr.1];rfl) hb1
 ·have hmc:=hs.1.mc;have hmx:=HN.1 x hr.1;have hsz:=(AQ x.cau).2;have hbl:=Mp.lt hmc
  have hseq:SeqGives Fence.wide 2 Tryz.prog 40 #[.pointer (some ⟨w1.heap.size,0,none⟩)] encZ (fun ss=>ss.Perm (intKeys (dw (dD x.cau)))) (Maps.size (dw (dD x.cau))) (w1.alloc (.cells #[.map (some y.mc)] 71)):=
   AnyZI.keys_gives (ρ:=Tryz.keysC_ren) {Tryz.keysC with} Fence.wide _ trivial rfl (by omega) w1.heap.size y.mc x.cau.length (dw (dD x.cau)) _ (by simp) (by simp) (by
    obtain⟨es,clock,hb,Ft,hs,hD⟩:=hmc;exact⟨es,clock,(Below.heap_alloc _ _ y.mc hbl).trans hb,Ft,hs,hD⟩)
  have cK:∀mb W,CallsIn Fence.wide 5 Tryz.prog 30 #[.map mb] W fun e w'=>e=.returned (.func (.func 40) #[] #[.pointer (some ⟨W.heap.size,0,none⟩)])∧w'=W.alloc (.cells #[.map mb] 71):=fun mb W=>AnyZI.keys_in Tryz.keysC Fence.wide 5 trivial rfl mb W;have cS:=AnyZI.sorted_in Tryz.sortedC Fence.wide 5 trivial trivial trivial trivial rfl (by omega) (Hf _) (enters_of Tryz.func39 (by kernel_rfl) rfl) 40 #[.pointer (some ⟨w1.heap.size,0,none⟩)] trivial (enters_of Tryz.func40 (by kernel_rfl) rfl) _ _ (by unfold maxLen;omega) (by omega) _ hseq;change CallsIn _ _ Tryz.prog 29 _ _ _ at cS
  gi_wp2_with (first
   |(gi_at_call 30;refine(cK _ _).mono ?_;rintro e w' ⟨rfl,rfl⟩)
   |(gi_at_call 29;refine cS.mono ?_;rintro e w' ⟨v,ss,rfl,hS,hrow,hnil,hb⟩))
  go_ret2
  exact b8.row (l:=jH x) (by rw[hr.1];rfl) ((hb1.alloc hb1.size _).trans (hb.mono (by simp;have:=hb1.size;omega))) (GM (fun j hj=>hj) (ownsRow_base_a hrow (by simp;have:=hb1.size;omega)) hS)
structure oP(T:World→Prop):Prop where
 keep:∀w w',Below w.heap.size w w'→T w→T w'
 run:∀w,T w→Calls Tryz.prog 8 #[] w fun e w'=>e=.returned (.bool true)∧Below w.heap.size w w'
def r7:Prop:=∀(b:List St) (a:Option Addr) (c:Nat) (w:World),BA b a c w→Calls Tryz.prog 7 #[.slice a b.length c] w fun e w'=>(∃B,e=.returned (.bool B))∧Below w.heap.size w w'
open Go.RowKit
theorem xZ(x:Us):(dq x).length=6:=rfl
theorem yE{P:Prop}(h:P:=by
 go_enter Tryz.func19,Tryz.ntmps19
 go_wp2_with fail
 go_loopg [13] 0 (fun gk i wr=>gk=0∧i=.int .i64 0∧wr=w)
 case atStart=>exact⟨rfl,rfl,rfl⟩
 case round =>
 obtain⟨rfl,rfl,rfl⟩:=hrel
 go_wp2_with fail
 go_ret;exact⟨rfl,Below.refl _ _⟩):P:=h
theorem GO{F F':Nat→Prop}(l:List Us)(v v':Value)(w:World)(h:Rw dq 89 6 F w v l)(h':Rw dq 89 6 F' w v' l):Calls Tryz.prog 19 #[v,v'] w fun e w'=>e=.returned (.bool true)∧Below w.heap.size w w':=by
 rcases h.at_ xZ with⟨rfl,h0⟩|⟨g,c,rfl,-,hg,hc,hcm,hr⟩
 ·subst h0;obtain⟨a',c',rfl⟩:=h'.shape;exact yE
 ·rcases h'.at_ xZ with⟨rfl,h0⟩|⟨g',c',rfl,-,hg',hc',hcm',hr'⟩
  ·subst h0;exact yE
  ·have HR:=hI hr;have HR':=hI hr';unfold maxLen at hcm hcm';clear h h' hr hr'
   go_enter Tryz.func19,Tryz.ntmps19
   go_wp2_with fail
   go_loopg [13] l.length (fun gk i wr=>∃k:Nat,gk+k=l.length∧i=.int .i64 k∧Hd (Below w.heap.size w wr))
   case atStart=>exact⟨0,by omega,rfl,hI (Below.refl _ _)⟩
   case round =>
   obtain⟨k,hk,rfl,HW⟩:=hrel;have HK:=hI hk;by_cases hlt:k<l.length
   ·obtain⟨y,hy⟩:∃y,l[k]?=some y:=⟨_,I1 hlt⟩
    have r1:=HR.1 k y hy;have r2:=HR'.1 k y hy;have hb:=HW.1;have c0:=(hb.cell hg).trans (r1 0 _ rfl);have c1:=(hb.cell hg).trans (r1 1 _ rfl);have c2:=(hb.cell hg).trans (r1 2 _ rfl);have c3:=(hb.cell hg).trans (r1 3 _ rfl);have c4:=(hb.cell hg).trans (r1 4 _ rfl);have c5:=(hb.cell hg).trans (r1 5 _ rfl);have e0:=(hb.cell hg').trans (r2 0 _ rfl);have e1:=(hb.cell hg').trans (r2 1 _ rfl);have e2:=(hb.cell hg').trans (r2 2 _ rfl);have e3:=(hb.cell hg').trans (r2 3 _ rfl);have e4:=(hb.cell hg').trans (r2 4 _ rfl);have e5:=(hb.cell hg').trans (r2 5 _ rfl);simp only[Nat.add_zero]at c0 e0;clear r1 r2 hy hb hk
    go_wp2_with fail
    go_quiet (fail)
    go_wp2_with fail
    go_roundg (gk-1)
    case rel=>exact⟨k+1,by have:=HK.1;omega,by go_num,hI (bH HW.1 _)⟩
    case measure=>have:=HK.1;omega
   ·go_wp2_with fail
    go_ret;exact⟨rfl,HW.1⟩
open Go.RowKit
abbrev pb:ByteArray:=⟨#[108,111,99,97,108,32,97,44,32,98,32,61,32,49,32,108,111,99,97,108,32,102,117,110,99,116,105,111,110,32,102,40,41,32,114,101,116,117,114,110,32,98,32,101,110,100]⟩
abbrev pe:ByteArray:=⟨#[108,111,99,97,108,32,120,32,61,32,49,10,98,114,101,97,107]⟩
abbrev pf:ByteArray:=⟨#[103,111,116,111,32,100,111,110,101,32,108,111,99,97,108,32,120,32,61,32,49,32,58,58,100,111,110,101,58,58]⟩
abbrev pg:ByteArray:=⟨#[103,111,116,111,32,100,111,110,101,32,108,111,99,97,108,32,120,32,61,32,49,32,58,58,100,111,110,101,58,58,32,112,114,105,110,116,40,120,41]⟩
abbrev ph:ByteArray:=⟨#[108,111,99,97,108,32,120,32,60,99,111,110,115,116,62,32,61,32,49,32,120,32,61,32,50]⟩
def iX(T:World→Prop)(s:ByteArray)(b:List St):Prop:=∀w,T w→Calls Tryz.prog 24 #[.string s] w fun e w'=>(∃a c,e=.returned (.slice a b.length c)∧Hd (BA b a c w'))∧Below w.heap.size w w'
structure zB(cv:List St→Int)(T:World→Prop)(b1 b2 b3 b4 b5:List St):Prop where
 k1:∃(x:Fu) (y z:ByteArray×Int),eK cv b1 0=.ok x∧x.cau=[1]∧x.locals=[y,z,(⟨#[102]⟩,0)]
 k2:(eK cv b1 1).map (·.ups)=.ok [(⟨#[98]⟩,true,1)]
 k3:dK (bo cv b2)=(2,4)
 k4:(dK (bo cv b3)).2=0
 k5:(dK (bo cv b4)).2=12
 k6:(dK (bo cv b5)).2=11
 r1:iX T pb b1
 r2:iX T pe b2
 r3:iX T pf b3
 r4:iX T pg b4
 r5:iX T ph b5
theorem AF{x:Fu}(h:x.cau=[1]):jH x=[1]:=by unfold jH;rw[h,show intKeys (dw (dD [1]))=[1]from by kernel_rfl];simp
theorem zY{cv:List St→Int}(hC:CV cv){T:World→Prop}(hT:∀w w',Below w.heap.size w w'→T w→T w'){b1 b2 b3 b4 b5:List St}(hE:zB cv T b1 b2 b3 b4 b5):oP T:=by
 refine⟨hT,fun w hTw=>?_⟩;obtain⟨x,y,z,hx,hx1,hx2⟩:=hE.k1;have R1:=hI (show ∀w',Below w.heap.size w w'→Calls Tryz.prog 24 #[.string pb] w' fun e w''=>(∃a c,e=.returned (.slice a b1.length c)∧Hd (BA b1 a c w''))∧Below w'.heap.size w' w'' from fun w' h=>hE.r1 w' (hT w w' h hTw));have R2:=hI (show ∀w',Below w.heap.size w w'→Calls Tryz.prog 24 #[.string pe] w' fun e w''=>(∃a c,e=.returned (.slice a b2.length c)∧Hd (BA b2 a c w''))∧Below w'.heap.size w' w'' from fun w' h=>hE.r2 w' (hT w w' h hTw));have R3:=hI (show ∀w',Below w.heap.size w w'→Calls Tryz.prog 24 #[.string pf] w' fun e w''=>(∃a c,e=.returned (.slice a b3.length c)∧Hd (BA b3 a c w''))∧Below w'.heap.size w' w'' from fun w' h=>hE.r3 w' (hT w w' h hTw));have R4:=hI (show ∀w',Below w.heap.size w w'→Calls Tryz.prog 24 #[.string pg] w' fun e w''=>(∃a c,e=.returned (.slice a b4.length c)∧Hd (BA b4 a c w''))∧Below w'.heap.size w' w'' from fun w' h=>hE.r4 w' (hT w w' h hTw));have R5:=hI (show ∀w',Below w.heap.size w w'→Calls Tryz.prog 24 #[.string ph] w' fun e w''=>(∃a c,e=.returned (.slice a b5.length c)∧Hd (BA b5 a c w''))∧Below w'.heap.size w' w'' from fun w' h=>hE.r5 w' (hT w w' h hTw))
 have HC:=hI (show ∀a c w,BA b1 a c w→Calls Tryz.prog 15 #[.slice a b1.length c,.int .i64 0] w (b8 zF 3 1 (.ok [1]) w)from fun a c w h=>by
  have h9:=AJ hC h 0 (fun x' h'=>by rw[hx]at h';cases h';rw[hx1];decide);rw[hx]at h9;rw[show(Except.ok x:SR Fu).map jH=.ok [1]from by show Except.ok (jH x)=_;rw[AF hx1]]at h9;exact h9)
 have HU:=hI (show ∀a c w,BA b1 a c w→Calls Tryz.prog 11 #[.slice a b1.length c,.int .i64 1] w (b8 ic 38 3 (.ok [(⟨#[98]⟩,true,1)]) w)from fun a c w h=>by
  have h9:=Im hC h 1;rw[hE.k2]at h9;exact h9)
 have HL:=hI (show ∀a c w,BA b1 a c w→Calls Tryz.prog 13 #[.slice a b1.length c,.int .i64 0] w (b8 gU 40 2 (.ok [y,z,(⟨#[102]⟩,0)]) w)from fun a c w h=>by
  have h9:=DW hC h 0;rw[hx,show(Except.ok x:SR Fu).map (·.locals)=.ok [y,z,(⟨#[102]⟩,0)]from by show Except.ok x.locals=_;rw[hx2]]at h9;exact h9)
 have H2:=hI (show ∀a c w,BA b2 a c w→Calls Tryz.prog 9 #[.slice a b2.length c] w fun e w'=>e=.returned (.tuple #[.int .i64 2,.int .i64 4])∧Below w.heap.size w w' from fun a c w h=>by have h9:=kM hC h;rw[hE.k3]at h9;exact h9);obtain⟨n3,e3⟩:∃n,dK (bo cv b3)=(n,0):=⟨_,Prod.ext rfl hE.k4⟩
 obtain⟨n4,e4⟩:∃n,dK (bo cv b4)=(n,12):=⟨_,Prod.ext rfl hE.k5⟩
 obtain⟨n5,e5⟩:∃n,dK (bo cv b5)=(n,11):=⟨_,Prod.ext rfl hE.k6⟩
 have H3:=hI (show ∀a c w,BA b3 a c w→Calls Tryz.prog 9 #[.slice a b3.length c] w fun e w'=>e=.returned (.tuple #[.int .i64 n3,.int .i64 0])∧Below w.heap.size w w' from fun a c w h=>by have h9:=kM hC h;rw[e3]at h9;exact h9);have H4:=hI (show ∀a c w,BA b4 a c w→Calls Tryz.prog 9 #[.slice a b4.length c] w fun e w'=>e=.returned (.tuple #[.int .i64 n4,.int .i64 12])∧Below w.heap.size w w' from fun a c w h=>by have h9:=kM hC h;rw[e4]at h9;exact h9);have H5:=hI (show ∀a c w,BA b5 a c w→Calls Tryz.prog 9 #[.slice a b5.length c] w fun e w'=>e=.returned (.tuple #[.int .i64 n5,.int .i64 11])∧Below w.heap.size w w' from fun a c w h=>by have h9:=kM hC h;rw[e5]at h9;exact h9);clear hE hx hx1 hx2 e3 e4 e5 hT hTw hC
 go_enter Tryz.func8,Tryz.ntmps8
 go_upto_region 5 with(first
  |(go_at_call 24;(with_reducible refine(R1.1 _ bw).mono ?_);rintro e w1 ⟨⟨a1,c1,rfl,B1⟩,hb1⟩)
  |(go_at_call 15;(with_reducible refine(HC.1 _ _ _ (B1.1.below bw)).mono ?_);rintro e w2 ⟨hb2,v2,rfl,hr2⟩;have HR2:=hI hr2;clear hr2)
  |(go_at_call 11;(with_reducible refine(HU.1 _ _ _ (B1.1.below bw)).mono ?_);rintro e w3 ⟨hb3,v3,rfl,hr3⟩;have HR3:=hI hr3;clear hr3)
  |(go_at_call 13;(with_reducible refine(HL.1 _ _ _ (B1.1.below bw)).mono ?_);rintro e w4 ⟨hb4,v4,rfl,hr4⟩;have HR4:=hI hr4;clear hr4))
 have r2:=HR2.1.keep (af (show Below w2.heap.size w2 w4 from bw));have r3:=HR3.1.keep (af (show Below w3.heap.size w3 w4 from bw));have r4:=HR4.1
 obtain⟨g2,c2,rfl,m2,x2⟩:∃g c,v2=.slice (some ⟨g,0,none⟩) 1 c∧1≤c∧w4.rangeAt g 0 (zF 1):=by
  rcases r2.at_ (fun x=>rfl)with⟨-,h0⟩|⟨g,c,hv,-,-,hc,-,hr⟩
  ·cases h0
  ·exact⟨g,c,hv,hc,hr 0 1 rfl⟩
 obtain⟨g3,c3,rfl,m3,x3⟩:∃g c,v3=.slice (some ⟨g,0,none⟩) 1 c∧1≤c∧w4.rangeAt g 0 (ic (⟨#[98]⟩,true,1)):=by
  rcases r3.at_ (fun x=>rfl)with⟨-,h0⟩|⟨g,c,hv,-,-,hc,-,hr⟩
  ·cases h0
  ·exact⟨g,c,hv,hc,hr 0 _ rfl⟩
 obtain⟨g4,c4,rfl,m4,x4⟩:∃g c,v4=.slice (some ⟨g,0,none⟩) 3 c∧3≤c∧w4.rangeAt g (2*2) (gU (⟨#[102]⟩,0)):=by
  rcases r4.at_ (fun x=>rfl)with⟨-,h0⟩|⟨g,c,hv,-,-,hc,-,hr⟩
  ·cases h0
  ·exact⟨g,c,hv,hc,hr 2 _ rfl⟩
 have d2:=x2 0 _ rfl;have d3:=x3 0 _ rfl;have d3b:=x3 1 _ rfl;have d3c:=x3 2 _ rfl;have d4:=x4 0 _ rfl;simp only[Nat.zero_add,Nat.add_zero,Nat.reduceMul,Nat.reduceAdd]at d2 d3 d3b d3c d4;clear x2 x3 x4 r2 r3 r4 HR2 HR3 HR4 HC HU HL B1
 go_wp2_with (first
  |(go_at_call 24;(with_reducible refine(R2.1 _ bw).mono ?_);rintro e w5 ⟨⟨a5,c5,rfl,B5⟩,hb5⟩)
  |(go_at_call 9;(with_reducible refine(H2.1 _ _ _ B5.1).mono ?_);rintro e w6 ⟨rfl,hb6⟩)
  |(go_at_call 24;(with_reducible refine(R3.1 _ bw).mono ?_);rintro e w7 ⟨⟨a7,c7,rfl,B7⟩,hb7⟩)
  |(go_at_call 9;(with_reducible refine(H3.1 _ _ _ B7.1).mono ?_);rintro e w8 ⟨rfl,hb8⟩)
  |(go_at_call 24;(with_reducible refine(R4.1 _ bw).mono ?_);rintro e w9 ⟨⟨a9,c9,rfl,B9⟩,hb9⟩)
  |(go_at_call 9;(with_reducible refine(H4.1 _ _ _ B9.1).mono ?_);rintro e w10 ⟨rfl,hb10⟩)
  |(go_at_call 24;(with_reducible refine(R5.1 _ bw).mono ?_);rintro e w11 ⟨⟨a11,c11,rfl,B11⟩,hb11⟩)
  |(go_at_call 9;(with_reducible refine(H5.1 _ _ _ B11.1).mono ?_);rintro e w12 ⟨rfl,hb12⟩))
 go_ret;exact⟨rfl,bw⟩
