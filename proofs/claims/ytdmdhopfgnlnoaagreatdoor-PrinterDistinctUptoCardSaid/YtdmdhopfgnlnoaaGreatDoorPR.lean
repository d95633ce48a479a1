/- The writer's blocks; the recursion over the tree's weight. -/
import Derived.Test.YtdmdhopfgnlnoaaGreatDoorPO
import Derived.Test.YtdmdhopfgnlnoaaGreatDoorPM
import Derived.Test.YtdmdhopfgnlnoaaGreatDoorP1
import Derived.Deep.RegionHeld3
import Derived.Test.YtdmdhopfgnlnoaaGreatDoorCN
namespace Go.Proofs.YtdmdhopfgnlnoaaGreatDoor
open Go.RowKit
set_option linter.unusedVariables false
set_option linter.unusedSimpArgs false
theorem vy {x:Ex} {p:Int} {t:Ttl} (h:ZH t p x=0):1≤x.kind∧x.kind≤19:=by
  have h9:=ZB h;apply Classical.byContradiction;intro hn;unfold Zn at h9;rw [if_neg (by omega),if_neg (by omega),if_neg (by omega),if_neg (by omega),if_neg (by omega),if_neg (by omega),if_neg (by omega),if_neg (by omega),if_neg (by omega),if_neg (by omega),if_neg (by omega),if_neg (by omega),if_neg (by omega),if_neg (by omega)] at h9;cases h9
theorem expr_any {w0:World} {p m k:Nat} {T:Bs} (x:Ex) (d:EA) (t:Ttl) (pk:Int) (w:World) (he:ZH t pk x=0) (ht:zI w0 p m k x) (hat:x.At (Qx w0.heap.size) w d) (h:Wr w0 p m T w) :
    Calls Tryz.prog 24 #[.pointer (some ⟨p,0,none⟩),(eV x d),.int .i64 k] w (Zw w0 p m T (Zr k x) w):=by
  delta eV
  have hK:=vy he;have hs:x.kind=1∨x.kind=2∨x.kind=3∨x.kind=4∨x.kind=5∨x.kind=6∨x.kind=7∨x.kind=8∨x.kind=9∨x.kind=10∨x.kind=11∨x.kind=12∨x.kind=13∨x.kind=14∨x.kind=15∨x.kind=16∨x.kind=17∨x.kind=18∨x.kind=19:=by omega
  rcases hs with hk|hk|hk|hk|hk|hk|hk|hk|hk|hk|hk|hk|hk|hk|hk|hk|hk|hk|hk
  · exact expr_1 x d t pk w hk he ht hat h
  · exact expr_2 x d t pk w hk he ht hat h
  · exact expr_3 x d t pk w hk he ht hat h
  · exact expr_4 x d t pk w hk he ht hat h
  · exact expr_5 x d t pk w hk he ht hat h
  · exact expr_6 x d t pk w hk he ht hat h
  · exact expr_7 x d t pk w hk he ht hat h
  · exact expr_8 x d t pk w hk he ht hat h
  · exact expr_9 x d t pk w hk he ht hat h
  · exact expr_10 x d t pk w hk he ht hat h
  · exact expr_11 x d t pk w hk he ht hat h
  · exact expr_12 x d t pk w hk he ht hat h
  · exact expr_13 x d t pk w hk he ht hat h
  · exact expr_14 x d t pk w hk he ht hat h
  · exact expr_15 x d t pk w hk he ht hat h
  · exact expr_16 x d t pk w hk he ht hat h
  · exact expr_17 x d t pk w hk he ht hat h
  · exact expr_18 x d t pk w hk he ht hat h
  · exact expr_19 x d t pk w hk he ht hat h
theorem tSs_take {k j:Nat} {b:List St} {s:St} (h:b[j]?=some s):Qe k (b.take (j+1))=Qe k (b.take j)++(QH k++(tS k s++[10])):=by
  rw [QQ h,tSs_append];simp [Qe]
set_option maxRecDepth 100000 in
set_option maxHeartbeats 8000000 in
theorem YB {w0:World} {p m k:Nat} {T:Bs} (b:List St) (a:Option Addr) (c:Nat) (w:World) (hT:∀ s ∈ b,QB w0 p m k s) (he:Zf (ZI b)=0) (hk:k≤4194304) (hlc:b.length≤c) (hcm:c≤MX) (hlm:b.length*128≤LM) (hat:St.Ats (Qx w0.heap.size) w b a) (h:Wr w0 p m T w) :
    Calls Tryz.prog 16 #[.pointer (some ⟨p,0,none⟩),.slice a b.length c,.int .i64 k] w (Zw w0 p m T (Qe k b) w):=by
  have hlen:b.length≤9223372036854775807:=by unfold LM at hlm;omega
  have HT:=hI hT;have HW:=hI h;have HROW:=hI (St.ats_iff.1 hat);have HE:=hI (zE.1 he);have hpl:=h.lt;obtain ⟨ij,hij⟩:∃ q:ByteArray,q=⟨(QH k).toArray⟩:=⟨_,rfl⟩
  have HIN:=hI (show ∀ w',Calls Tryz.prog 30 #[.string ⟨#[32,32]⟩,.int .i64 k] w' fun e w''=>e=.returned (.string ij)∧Below w'.heap.size w' w'' from fun w'=>by rw [hij];exact JJ k w' (by omega));have hil:ij.size≤70368744177664:=by rw [hij];have:=Ql k;show (QH k).toArray.size≤_;simp;omega
  have HIB:=hI (show Zg ij=QH k by rw [hij];simp [Zg]);clear hT h hat hij he hcm
  go_enter Tryz.func16,Tryz.ntmps16
  go_wp2_with fail
  go_loopg [10] b.length (fun gk i wr=>∃ j:Nat,gk+j=b.length∧i=.int .i64 j∧Wr w0 p m (T++Qe k (b.take j)) wr∧Gp w0.heap.size p w wr)
  case atStart=>exact ⟨0,by omega,rfl,by simpa [Qe] using HW.out,Gp.refl _ _ _⟩
  case round =>
  obtain ⟨j,hj,rfl,hwr,hgr⟩:=hrel;have HWR:=hI hwr;have HGR:=hI hgr;have HJ:=hI hj;have hpr:=hwr.lt;clear hwr hgr;by_cases hlt:j<b.length
  · obtain ⟨s,hx⟩:∃ s,b[j]?=some s:=⟨_,List.getElem?_eq_getElem hlt⟩
    have HXX:=hI hx
    have hcell:∃ bb off ds,a=some ⟨bb,off,none⟩∧bb<w.heap.size∧wr.rangeAt bb (off+j*7) [.int .i64 s.kind,.int .i64 s.line,.slice ds.na s.names.length ds.nc,.slice ds.la s.left.length ds.lc,.slice ds.ra s.right.length ds.rc,.slice ds.ba s.blocks.length ds.bc,.string s.label]∧s.At (Qx w0.heap.size) wr ds:=by
      obtain ⟨bb,off,h1,h2⟩:=HROW.out;obtain ⟨ha,hF,hlb⟩:=h1 (by rintro rfl;simp at hlt);obtain ⟨cs,hr,ds,rfl,has⟩:=h2 j s hx;exact ⟨bb,off,ds,ha,hlb,(HGR.out.keep hpl.1).range hF hlb hr,has.keep (HGR.out.keep hpl.1) (fun _ h=>h)⟩
    obtain ⟨bb,off,ds,rfl,hlb,hr',has⟩:=hcell;have c0:=hr' 0 _ rfl;have c1:=hr' 1 _ rfl;have c2:=hr' 2 _ rfl;have c3:=hr' 3 _ rfl;have c4:=hr' 4 _ rfl;have c5:=hr' 5 _ rfl;have c6:=hr' 6 _ rfl;simp only [Nat.add_zero] at c0;have hsz:=HGR.out.size;have HAS:=hI has;have HST:=hI (show ∀ T' w',Gp w0.heap.size p wr w'→Wr w0 p m T' w'→Calls Tryz.prog 31 #[.pointer (some ⟨p,0,none⟩),(sV s ds),.int .i64 k] w' (Zw w0 p m T' (tS k s) w') from fun T' w' hg hw=>stat_any s ds _ w' (HE.out j s HXX.out) (HT.out s (List.mem_of_getElem? HXX.out)) (HAS.out.keep (hg.keep hpl.1) (fun _ h=>h)) hw);have hj1:(wr.alloc (.cells #[.int .i64 s.kind,.int .i64 s.line,.slice ds.na s.names.length ds.nc,.slice ds.la s.left.length ds.lc,.slice ds.ra s.right.length ds.rc,.slice ds.ba s.blocks.length ds.bc,.string s.label] 44)).heap[wr.heap.size]?=some (.cells #[.int .i64 s.kind,.int .i64 s.line,.slice ds.na s.names.length ds.nc,.slice ds.la s.left.length ds.lc,.slice ds.ra s.right.length ds.rc,.slice ds.ba s.blocks.length ds.bc,.string s.label] 44):=Zk rfl;have HJ1:=hI hj1;have HGA:Hid (Gp w0.heap.size p wr (wr.alloc (.cells #[.int .i64 s.kind,.int .i64 s.line,.slice ds.na s.names.length ds.nc,.slice ds.la s.left.length ds.lc,.slice ds.ra s.right.length ds.rc,.slice ds.ba s.blocks.length ds.bc,.string s.label] 44))):=hI (Gp.of_below bw);have HWA:Hid (Wr w0 p m (T++Qe k (b.take j)) (wr.alloc (.cells #[.int .i64 s.kind,.int .i64 s.line,.slice ds.na s.names.length ds.nc,.slice ds.la s.left.length ds.lc,.slice ds.ra s.right.length ds.rc,.slice ds.ba s.blocks.length ds.bc,.string s.label] 44))):=hI (HWR.out.below bw);clear hr' has hj hj1 hx
    go_wp2_with (first
      | (go_at_call 30;(with_reducible refine (HIN.out _).mono ?_);rintro e w2 ⟨rfl,hb2⟩;have HW2:=hI (HWA.out.below hb2);have HG2:=hI (Gp.below hb2 HGA.out);have hj2:=Zd hb2 HJ1.out;have HJ2:=hI hj2;clear hb2 hj2)
      | (go_at_call 29;(with_reducible refine (HW2.out.put1 ij (by simp) hil).mono ?_);rintro e w3 ⟨rfl,hw3,hg3⟩;have HW3:=hI hw3;have HG3:=hI (hg3.thru HG2.out);have hj3:=hg3.box HJ2.out (by omega) (by decide);have kb3:=fun i=>Za hj3 i;have kbz3:=Zc hj3;clear hw3 hg3 hj3)
      | (go_at_call 31;(with_reducible refine (HST.out _ _ HG3.out HW3.out).mono ?_);rintro e w4 ⟨rfl,hw4,hg4⟩;have HW4:=hI hw4;have HG4:=hI (hg4.thru HG3.out);clear hw4 hg4)
      | (go_at_call 29;(with_reducible refine (HW4.out.put1 ⟨#[10]⟩ (by simp) (by decide)).mono ?_);rintro e w5 ⟨rfl,hw5,hg5⟩;have HW5:=hI hw5;have HG5:=hI (hg5.thru HG4.out);clear hw5 hg5))
    go_roundg (gk - 1)
    case rel =>
      refine ⟨j+1,by have:=HJ.out;omega,by go_num,?_,HG5.out.thru HGR.out⟩;have h9:=HW5.out;rw [HIB.out] at h9;rw [tSs_take HXX.out];simpa [Zg] using h9
    case measure=>have:=HJ.out;omega
  · have hke:j=b.length:=by omega
    have HKE:=hI hke;clear hj hke
    go_wp2_with fail
    go_end0;refine ⟨rfl,?_,HGR.out⟩;have:=HWR.out;rw [HKE.out,List.take_length] at this;exact this
def WExp (w0:World) (p m n:Nat):Prop:=∀ (x:Ex) (k:Nat) (t:Ttl) (pk:Int),x.wy≤n→ZH t pk x=0→k+x.wy≤4194304→YH w0 p m k x
def WBlk (w0:World) (p m n:Nat):Prop:=∀ (b:List St) (k:Nat),St.wys b≤n→Zf (ZI b)=0→k+St.wys b≤4194304→BlOk w0 p m k b
theorem YV (w0:World) (p m n:Nat):WExp w0 p m n∧WBlk w0 p m n:=by
  induction n with
  | zero =>
    refine ⟨fun x k t pk h=>by have:=x.wy_eq;omega,fun b k h he hk a c T w h1 h2 h3 hat hw=>?_⟩;refine YB b a c w (fun s hs=>?_) he (by omega) h1 h2 h3 hat hw;have:=St.wy_mem hs;have:=s.wy_eq;omega
  | succ n ih =>
    have hE:WExp w0 p m (n+1):=fun x k t pk h he hk d T w hat hw=>by
      refine expr_any x d t pk w he ⟨fun y hy=>?_,fun f hf=>⟨?_,?_⟩,by omega⟩ hat hw
      · have h1:=Ex.wy_mem hy;have h2:=x.wy_eq;exact ih.1 y k ttl0 x.kind (by omega) ((Qm.1 he).2.1 y hy) (by omega)
      · have h1:=Fn.wy_mem hf;have h2:=x.wy_eq;have h3:=f.wy_eq;exact ih.2 f.body (k+1) (by omega) ((Qm.1 he).2.2 f hf) (by omega)
      · have h1:=Fn.wy_mem hf;have h2:=x.wy_eq;have h3:=f.wy_eq;omega
    refine ⟨hE,fun b k h he hk a c T w h1 h2 h3 hat hw=>?_⟩;refine YB b a c w (fun s hs=>?_) he (by omega) h1 h2 h3 hat hw;have hs1:=St.wy_mem hs;have hs2:=s.wy_eq;obtain ⟨i,hi,rfl⟩:=List.getElem_of_mem hs;have hes:=zE.1 he i _ (List.getElem?_eq_getElem hi);obtain ⟨-,hl,hr,hb⟩:=Zq.1 hes;refine ⟨fun y hy=>?_,fun y hy=>?_,fun y hy f hf=>⟨?_,?_⟩,fun l hll=>?_,by omega,by omega⟩
    · have:=Ex.wy_mem hy;exact ih.1 y k _ _ (by omega) (hl y hy) (by omega)
    · have:=Ex.wy_mem hy;exact ih.1 y k _ _ (by omega) (hr y hy) (by omega)
    · have:=Ex.wy_mem hy;have q1:=Fn.wy_mem hf;have q2:=y.wy_eq;have q3:=f.wy_eq;exact ih.2 f.body (k+1) (by omega) ((Qm.1 (hr y hy)).2.2 f hf) (by omega)
    · have:=Ex.wy_mem hy;have q1:=Fn.wy_mem hf;have q2:=y.wy_eq;have q3:=f.wy_eq;omega
    · have:=St.wys_mem hll;exact ih.2 l (k+1) (by omega) (hb l hll) (by omega)
set_option maxHeartbeats 4000000
set_option maxRecDepth 100000
theorem yPSa {P:Prop} (h:P:=by
  go_enter Tryz.func33,Tryz.ntmps33
  go_wp2
  go_region_o
  all_goals (go_wp2;go_ret;exact ⟨rfl,Below.drew (Below.refl B w)⟩)):P:=h
theorem bstring_any {B p m:Nat} {l:Bs} {w:World} (h:WB B p m l w) (hBw:B≤w.heap.size) :
    Calls Tryz.prog 33 #[.pointer (some ⟨p,0,none⟩)] w fun e w'=>e=.returned (.string ⟨l.toArray⟩)∧Below B w w':=by
  have hB:=h.base;obtain ⟨-,q,v,h1,h2,h3⟩:=h;have hlt:=Zc h1;have hUN:∀ (W:World) (q:Option Addr),(Builtin.unsafeString_ #[105,3] 9 #[.pointer q,.int .i64 0]).run Tryz.prog W=.ok (.string .empty) W:=fun W q=>Lib.run_unsafeString_none W _ _ _ q;have mixed:Tryz.prog.follows Departure.mixedOrders=true:=by kernel_rfl
  rcases h3.2 with ⟨rfl,hl0⟩|⟨g,cap,cur,rfl,hbg,hg,hnc,hcm,hcs,htk⟩
  · have hl:l=[]:=List.length_eq_zero_iff.1 hl0;subst hl
    have c1:w.drew.cell? ⟨p,1,none⟩=some (.slice none 0 0):=by
      show w.cell? ⟨p,1,none⟩=_;rw [Za h1];rfl
    have hSD:(Builtin.unsafeSliceData_ #[60] 105 #[.slice none 0 0]).run Tryz.prog w.drew=.ok (.pointer none) w.drew:=rfl;clear h1 h3;exact yPSa
  · by_cases hl:l=[]
    · subst hl;by_cases hc0:cap=0
      · subst hc0
        have c1:w.drew.cell? ⟨p,1,none⟩=some (.slice (some ⟨g,0,none⟩) 0 0):=by
          show w.cell? ⟨p,1,none⟩=_;rw [Za h1];rfl
        have hSD:(Builtin.unsafeSliceData_ #[60] 105 #[.slice (some ⟨g,0,none⟩) 0 0]).run Tryz.prog w.drew=.ok (.pointer (some ⟨w.drew.heap.size,0,none⟩)) (w.drew.alloc (.view ⟨g,0,none⟩ 5)) :=
          Lib.run_unsafeSliceData_zero w.drew _ _ 5 Tryz.underlying105 ⟨g,0,none⟩ 0 (5,cur.size) (by have hg':w.drew.heap[g]?=some (.cells cur 5 (0,0)):=hg;simp [World.shape?,hg'])
        have c2:(w.drew.alloc (.view ⟨g,0,none⟩ 5)).cell? ⟨p,1,none⟩=some (.slice (some ⟨g,0,none⟩) 0 0):=by
          have:(w.drew.alloc (.view ⟨g,0,none⟩ 5)).heap[p]?=_:=(heap_alloc_old w.drew _ hlt).trans h1;rw [Lib.cell_of_heap this];rfl
        have c3:(w.alloc (.view ⟨g,0,none⟩ 5)).drew.cell? ⟨p,1,none⟩=some (.slice (some ⟨g,0,none⟩) 0 0):=c2;have c0:w.cell? ⟨p,1,none⟩=some (.slice (some ⟨g,0,none⟩) 0 0):=c1;clear h1 h3
        go_enter Tryz.func33,Tryz.ntmps33
        go_wp2
        go_region_o
        all_goals (go_wp2;go_ret;exact ⟨rfl,(Below.drew (Below.refl B w)).alloc hBw _⟩)
      · have c1:w.drew.cell? ⟨p,1,none⟩=some (.slice (some ⟨g,0,none⟩) 0 cap):=by
          show w.cell? ⟨p,1,none⟩=_;rw [Za h1];rfl
        have hSD:(Builtin.unsafeSliceData_ #[60] 105 #[.slice (some ⟨g,0,none⟩) 0 cap]).run Tryz.prog w.drew=.ok (.pointer (some ⟨g,0,none⟩)) w.drew :=
          Lib.run_unsafeSliceData_row _ _ _ _ _ _ hc0
        clear h1 h3 hc0;exact yPSa
    · have hl0:l.length≠0:=by simpa using hl
      have c1:w.drew.cell? ⟨p,1,none⟩=some (.slice (some ⟨g,0,none⟩) l.length cap):=by
        show w.cell? ⟨p,1,none⟩=_;rw [Za h1];rfl
      have hSD:(Builtin.unsafeSliceData_ #[60] 105 #[.slice (some ⟨g,0,none⟩) l.length cap]).run Tryz.prog w.drew=.ok (.pointer (some ⟨g,0,none⟩)) w.drew :=
        Lib.run_unsafeSliceData_row _ _ _ _ _ _ (by omega)
      have hUS:(Builtin.unsafeString_ #[105,3] 9 #[.pointer (some ⟨g,0,none⟩),.int .i64 l.length]).run Tryz.prog w.drew=.ok (.string ⟨l.toArray⟩) (w.drew.freeze ⟨g,0,none⟩ l.length):=by
        refine Lib.run_unsafeString_row w.drew 105 3 9 5 Tryz.underlying105 (by kernel_rfl) g cur.size (by have hg':w.drew.heap[g]?=some (.cells cur 5 (0,0)):=hg;simp [World.shape?,hg']) l hl (by omega) (by unfold maxLen at hcm;omega) ?_;intro j x hx;have:=h3.cells (g:=g) rfl j (.int .u8 x.toNat) (by simp [Lib.byteCells,hx]);exact this
      clear h1 h3
      go_enter Tryz.func33,Tryz.ntmps33
      go_wp2
      go_region_o
      all_goals (go_wp2;go_ret;exact ⟨rfl,Lib.below_freeze (Below.drew (Below.refl B w)) (p:=⟨g,0,none⟩) hbg _⟩)
def QA (t:Bs):ByteArray × Int:=if t.length≤65536 then (⟨t.toArray⟩,0) else (⟨#[]⟩,3)
theorem Yb {B p m:Nat} {T:Bs} {w:World} (h:zw B p m T w) (hBw:B≤w.heap.size) :
    Calls Tryz.prog 17 #[.pointer (some ⟨p,0,none⟩)] w fun e w'=>e=.returned (.tuple #[.string (QA T).1,.int .i64 (QA T).2])∧Below B w w':=by
  obtain ⟨l,hwb,hle,hgt⟩:=h.t.st;have HLEN:=hI (blen_any hwb);have HSTR:=hI (bstring_any hwb hBw);have hpl:=h.lt;obtain ⟨q,v,hc⟩:=h.cells;have kb:=fun i=>Za hc i;clear hwb hc h;by_cases hT:T.length≤65536
  · have hl:=hle hT;subst hl;have hB:QA l=(⟨l.toArray⟩,0):=by unfold QA;rw [if_pos hT]
    rw [hB];have t0:decide ((65536:Int)<(l.length:Int))=false:=by simp;omega
    clear hle hgt hB hT
    go_enter Tryz.func17,Tryz.ntmps17
    go_wp2_with (first
      | (go_at_call 32;(with_reducible refine HLEN.out.mono ?_);rintro e w1 ⟨rfl,hw1⟩;subst w1)
      | (go_at_call 33;(with_reducible refine HSTR.out.mono ?_);rintro e w2 ⟨rfl,hb2⟩))
    refine bodyPost_ret (v:=.tuple #[.string ⟨l.toArray⟩,.int .i64 0]) (by simp [results,Tryz.results17,go_sem]) rfl ?_;exact ⟨rfl,hb2⟩
  · have hl:=hgt (by omega);have hB:QA T=(⟨#[]⟩,3):=by unfold QA;rw [if_neg hT]
    rw [hB];have t0:decide ((65536:Int)<(l.length:Int))=true:=by simp;omega
    clear hle hgt hB hT
    go_enter Tryz.func17,Tryz.ntmps17
    go_wp2_with (go_at_call 32;(with_reducible refine HLEN.out.mono ?_);rintro e w1 ⟨rfl,hw1⟩;subst w1)
    refine bodyPost_ret (v:=.tuple #[.string ⟨#[]⟩,.int .i64 3]) (by simp [results,Tryz.results17,go_sem]) rfl ?_;exact ⟨rfl,Below.refl _ _⟩
theorem rows_lt {α:Type} {w:World} {sz:Nat} {R:α→List Value→Prop} {l:List α} {a:Option Addr} (h:Rows Ze w sz R l a):Rows (Qx w.heap.size) w sz R l a:=by
  obtain ⟨b,off,h1,h2⟩:=h;exact ⟨b,off,fun hl=>⟨(h1 hl).1,(h1 hl).2.2,(h1 hl).2.2⟩,h2⟩
mutual
theorem Ex.At.lt {w:World}:∀ {x:Ex} {d:EA},x.At Ze w d→x.At (Qx w.heap.size) w d
  | .mk _ _ _ _ _ _ _ _,_,h=>⟨h.1,h.2.1,Ex.Ats.lt h.2.2.1,Fn.Ats.lt h.2.2.2⟩
theorem Ex.Ats.lt {w:World}:∀ {l:List Ex} {a:Option Addr},Ex.Ats Ze w l a→Ex.Ats (Qx w.heap.size) w l a
  | [],_,_=>trivial
  | _::_,_,⟨b,off,d,h1,h2,h3,h4,h5,h6⟩=>⟨b,off,d,h1,h3,h3,h4,Ex.At.lt h5,Ex.Ats.lt h6⟩
theorem Fn.At.lt {w:World}:∀ {x:Fn} {d:FA},x.At Ze w d→x.At (Qx w.heap.size) w d
  | .mk _ _ _ _ _,_,h=>⟨h.1,h.2.1,rows_lt h.2.2.1,St.Ats.lt h.2.2.2⟩
theorem Fn.Ats.lt {w:World}:∀ {l:List Fn} {a:Option Addr},Fn.Ats Ze w l a→Fn.Ats (Qx w.heap.size) w l a
  | [],_,_=>trivial
  | _::_,_,⟨b,off,d,h1,h2,h3,h4,h5,h6⟩=>⟨b,off,d,h1,h3,h3,h4,Fn.At.lt h5,Fn.Ats.lt h6⟩
theorem St.At.lt {w:World}:∀ {x:St} {d:SA},x.At Ze w d→x.At (Qx w.heap.size) w d
  | .mk _ _ _ _ _ _ _,_,h=>⟨h.1,h.2.1,rows_lt h.2.2.1,Ex.Ats.lt h.2.2.2.1,Ex.Ats.lt h.2.2.2.2.1,St.Atss.lt h.2.2.2.2.2⟩
theorem St.Ats.lt {w:World}:∀ {l:List St} {a:Option Addr},St.Ats Ze w l a→St.Ats (Qx w.heap.size) w l a
  | [],_,_=>trivial
  | _::_,_,⟨b,off,d,h1,h2,h3,h4,h5,h6⟩=>⟨b,off,d,h1,h3,h3,h4,St.At.lt h5,St.Ats.lt h6⟩
theorem St.Atss.lt {w:World}:∀ {l:List (List St)} {a:Option Addr},St.Atss Ze w l a→St.Atss (Qx w.heap.size) w l a
  | [],_,_=>trivial
  | _::_,_,⟨b,off,a',c',h1,h2,h3,h4,h5,h6,h7⟩=>⟨b,off,a',c',h1,h3,h3,h4,h5,St.Ats.lt h6,St.Atss.lt h7⟩
end
theorem wblock0 {w0:World} {p m:Nat} {T:Bs} (b:List St) (a:Option Addr) (c:Nat) (w:World) (he:Zf (ZI b)=0) (hw:St.wys b≤4194304) (h1:b.length≤c) (h2:c≤MX) (h3:b.length*128≤LM) (hat:St.Ats (Qx w0.heap.size) w b a) (h:Wr w0 p m T w) :
    Calls Tryz.prog 16 #[.pointer (some ⟨p,0,none⟩),.slice a b.length c,.int .i64 0] w (Zw w0 p m T (Qe 0 b) w) :=
  (YV w0 p m (St.wys b)).2 b 0 (Nat.le_refl _) he (by omega) a c T w h1 h2 h3 hat h
theorem wexpr0 {w0:World} {p m:Nat} {T:Bs} (x:Ex) (d:EA) (t:Ttl) (pk:Int) (w:World) (he:ZH t pk x=0) (hw:x.wy≤4194304) (hat:x.At (Qx w0.heap.size) w d) (h:Wr w0 p m T w) :
    Calls Tryz.prog 24 #[.pointer (some ⟨p,0,none⟩),.agg #[.int .i64 x.kind,.int .i64 x.op,.int .i64 x.line,.int .i64 x.p,.int .i64 x.q,.string x.str,.slice d.a x.args.length d.c,.slice d.fa x.funcs.length d.fc],.int .i64 0] w (Zw w0 p m T (Zr 0 x) w) :=
  (YV w0 p m x.wy).1 x 0 t pk (Nat.le_refl _) he (by omega) d T w hat h
theorem vc {b:List St} (h:QN b=0):Zf (ZI b)=0:=by
  unfold QN at h;split at h
  · exact absurd h (by decide)
  · exact h
def Vk (b:List St):ByteArray × Int:=if QN b=0 then QA (Ky b) else (⟨#[]⟩,QN b)
set_option maxRecDepth 100000 in
set_option maxHeartbeats 4000000 in
theorem qS (b:List St) (a:Option Addr) (c:Nat) (w:World) (hw:St.wys b≤4194304) (h1:b.length≤c) (h2:c≤MX) (h3:b.length*128≤LM) (hat:St.Ats Ze w b a) (ht:Tab w) :
    Calls Tryz.prog 6 #[.slice a b.length c] w fun e w'=>e=.returned (.tuple #[.string (Vk b).1,.int .i64 (Vk b).2])∧Below w.heap.size w w':=by
  have hwz:St.wzs b≤1073741824:=by have:=St.wzs_wy b;omega
  have HA:=hI hat;have HT:=hI ht;have HWY:=hI hw;have HCK:=hI (show ∀ w',Below w.heap.size w w'→Calls Tryz.prog 14 #[.slice a b.length c] w' fun e w''=>e=.returned (.int .i64 (QN b))∧Below w'.heap.size w' w'' from fun w' hb=>JW b a c w' hwz h1 h2 h3 (HA.out.keep (Zb hb) (fun _ h=>h)));have HCC:=hI (And.intro h1 (And.intro h2 h3));obtain ⟨r,hr⟩:∃ r,r=Vk b:=⟨_,rfl⟩
  rw [←hr];unfold Vk at hr;have HR:=hI hr;obtain ⟨v,hv⟩:∃ v,v=QN b:=⟨_,rfl⟩
  rw [←hv] at HR HCK;have HV:=hI hv;clear hat ht hw h3 hr hv hwz h1 h2;by_cases hv0:v=0
  · have t0:(v != 0)=false:=by rw [hv0];rfl
    have e:r=QA (Ky b):=by rw [HR.out,if_pos hv0]
    have HE:=hI e;have HV0:=hI hv0;clear e hv0
    go_enter Tryz.func6,Tryz.ntmps6
    go_wp2_with (first
      | (go_at_call 14;(with_reducible refine (HCK.out _ bw).mono ?_);rintro e w2 ⟨rfl,hb2⟩;have HB2:=hI hb2;clear hb2)
      | (go_at_call 15;(with_reducible refine (qK _).mono ?_);rintro e w3 ⟨p,m,rfl,hwr,hb3⟩;have HWR:Hid (Wr w2 p m [] w3):=hI ⟨hwr,hb3,HT.out.below HB2.out⟩;have HB3:=hI hb3;clear hwr hb3)
      | (go_at_call 16;(with_reducible refine (wblock0 b a c _ (vc (HV.out.symm.trans HV0.out)) HWY.out HCC.out.1 HCC.out.2.1 HCC.out.2.2 ((St.Ats.lt (HA.out.keep (Zb HB2.out) (fun _ h=>h))).keep (Zb HB3.out) (fun _ h=>h)) HWR.out).mono ?_);rintro e w4 ⟨rfl,hw4,hg4⟩;have HW4:=hI hw4;clear hw4 hg4)
      | (go_at_call 17;(with_reducible refine (Yb HW4.out.at_ HW4.out.bl.size).mono ?_);rintro e w5 ⟨rfl,hb5⟩;have HB5:=hI hb5;clear hb5))
    refine bodyPost_ret (v:=.tuple #[.string (QA (Qe 0 b)).1,.int .i64 (QA (Qe 0 b)).2]) (by simp [results,Tryz.results6,go_sem]) rfl ?_;exact ⟨by rw [HE.out];rfl,thru (Below.trans HW4.out.bl HB5.out) HB2.out⟩
  · have t0:(v != 0)=true:=by simp;exact hv0
    have e:r=(⟨#[]⟩,v):=by rw [HR.out,if_neg hv0]
    subst e;clear HR
    go_enter Tryz.func6,Tryz.ntmps6
    go_wp2_with (go_at_call 14;(with_reducible refine (HCK.out _ bw).mono ?_);rintro e w2 ⟨rfl,hb2⟩;have HB2:=hI hb2;clear hb2)
    refine bodyPost_ret (v:=.tuple #[.string ⟨#[]⟩,.int .i64 v]) (by simp [results,Tryz.results6,go_sem]) rfl ?_;exact ⟨rfl,HB2.out⟩
end Go.Proofs.YtdmdhopfgnlnoaaGreatDoor
