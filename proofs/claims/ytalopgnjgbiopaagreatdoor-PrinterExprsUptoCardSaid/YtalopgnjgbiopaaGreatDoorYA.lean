/- Contracts of the package scriptingref02: Base (at base 10, of a number that is not negative), Decimal. -/
import Derived.Test.YtalopgnjgbiopaaGreatDoorI1
import Derived.Laws.BitsAllLaws
import Derived.Laws.BytesArg
import Derived.Lib.ItoaNum
import Derived.Deep.DeepCutAuto
import Derived.Outline
import Derived.Test.YtalopgnjgbiopaaGreatDoorPK
import Derived.Test.YtalopgnjgbiopaaGreatDoorT1
namespace Go.Proofs.YtalopgnjgbiopaaGreatDoor
open Go.RowKit
set_option linter.unusedVariables false
set_option linter.unusedSimpArgs false
def u8V (b:UInt8):Value:=.int .u8 (b.toNat:Int)
def digT (u:Nat):List UInt8:=if u=0 then [] else Lib.decDigits u
def dig (u:Nat):UInt8:=UInt8.ofNat (48+u % 10)
def zW (N u:Nat) (xs:List UInt8):Prop:=(xs=[]∧u=N)∨(xs≠[]∧Lib.decDigits N=digT u++xs.reverse)
theorem Ky (u:Nat):Lib.decDigits u=digT (u / 10)++[dig u]:=by
  unfold digT dig;by_cases h:u<10
  · rw [if_pos (by omega),Lib.decDigits_one h,Nat.mod_eq_of_lt h];rfl
  · rw [if_neg (by omega),Lib.decDigits,dif_neg h]
theorem zW.step {N u:Nat} {xs:List UInt8} (h:zW N u xs) (hu:0<u∨xs=[]):zW N (u / 10) (xs++[dig u]):=by
  refine .inr ⟨by simp,?_⟩;rcases h with ⟨rfl,rfl⟩|⟨h1,h2⟩
  · simpa using Ky u
  · have hu:0<u:=by rcases hu with h|h;exact h;exact absurd h h1
    rw [h2,show digT u=Lib.decDigits u from if_neg (by omega),Ky u];simp
theorem zW.done {N:Nat} {xs:List UInt8} (h:zW N 0 xs) (hx:xs≠[]):Lib.decDigits N=xs.reverse:=by
  rcases h with ⟨h1,-⟩|⟨-,h2⟩
  · exact absurd h1 hx
  · rw [h2];rfl
theorem zW.len {N u:Nat} {xs:List UInt8} (h:zW N u xs):xs.length≤(Lib.decDigits N).length:=by
  rcases h with ⟨rfl,-⟩|⟨-,h2⟩
  · simp
  · rw [h2];simp
theorem dec_len {n:Int} (h:QO n):(Lib.decDigits n.natAbs).length≤21:=by
  have h9:=Lib.itoa_length_le n h.1 h.2;unfold Lib.itoa at h9;split at h9
  · simp at h9;omega
  · rwa [show n.toNat=n.natAbs from by omega] at h9
theorem Kj {w:World} {base:Nat} {e:TypeId} {size:Nat} {v:Value} {n:Nat} {xs:List Value} (h:w.ownsRow base e size v n xs):∃ a c,v=.slice a n c:=by
  rcases h.2 with ⟨rfl,rfl⟩|⟨g,cap,cur,rfl,-⟩
  · exact ⟨_,_,rfl⟩
  · exact ⟨_,_,rfl⟩
theorem own_at {w:World} {base:Nat} {e:TypeId} {n:Nat} {a:Option Addr} {c:Nat} {xs:List Value} (h:w.ownsRow base e 1 (.slice a n c) n xs) {i:Nat} (hi:i<n):∃ g,a=some ⟨g,0,none⟩∧n≤c∧base≤g∧g<w.heap.size∧∀ j,j<n→w.cell? ⟨g,j,none⟩=xs[j]?:=by
  rcases h.2 with ⟨h1,rfl⟩|⟨g,cap,cur,h1,h2,h3,h4,h5,h6,h7⟩
  · omega
  · cases h1;refine ⟨g,rfl,h4,h2,(Array.getElem?_eq_some_iff.1 h3).1,fun j hj=>h.cellAt j (by omega)⟩
theorem info_u8:(Tryz.prog.info? 5).map (fun i=>(i.zero,i.size,i.bytes))=some (some (.int .u8 0),1,1):=by kernel_rfl
structure zc (w:World) (N:Nat) (wr:World) (u:Nat) (v:Value) (xs:List UInt8):Prop where
  below:Below w.heap.size w wr
  own:wr.ownsRow w.heap.size 5 1 v xs.length (xs.map u8V)
  inv:zW N u xs
theorem zc.start {w wr:World} {N:Nat} {c:Nat} (hb:Below w.heap.size w wr) (hc:c=wr.heap.size):zc w N (wr.alloc (.cells #[] 5)) N (.slice (some ⟨c,0,none⟩) 0 0) []:=by
  subst hc;exact ⟨Zj hb _,World.ownsRow_made (base:=w.heap.size) (e:=5) (size:=1) wr #[] 0 hb.size (by unfold maxLen;omega) rfl,.inl ⟨rfl,rfl⟩⟩
theorem zc.step {w wr w':World} {N u:Nat} {v v':Value} {xs:List UInt8} (h:zc w N wr u v xs) (hu:0<u∨xs=[]) {o:Obj} (h1:w'.ownsRow w.heap.size 5 1 v' (xs.length+1) (xs.map u8V++[u8V (dig u)])) (h2:(wr.alloc o).grownBy w' v.ownBlock) :
    zc w N w' (u / 10) v' (xs++[dig u]):=by
  refine ⟨Below.grown (Zj h.below o) h2 (by have:=h.below.size;simp;omega) (fun k hk=>(h.own.lt k hk).1),?_,h.inv.step hu⟩;simpa using h1
theorem dig_fin:∀ k:Fin 10,(⟨#[48,49,50,51,52,53,54,55,56,57,97,98,99,100,101,102,103,104,105,106,107,108,109,110,111,112,113,114,115,116,117,118,119,120,121,122]⟩:ByteArray)[k.val]'(by have:=k.isLt;show k.val<36;omega)=UInt8.ofNat (48+k.val):=by decide
theorem dig_at (c:Nat) (h:c % 10<(⟨#[48,49,50,51,52,53,54,55,56,57,97,98,99,100,101,102,103,104,105,106,107,108,109,110,111,112,113,114,115,116,117,118,119,120,121,122]⟩:ByteArray).size) :
    (⟨#[48,49,50,51,52,53,54,55,56,57,97,98,99,100,101,102,103,104,105,106,107,108,109,110,111,112,113,114,115,116,117,118,119,120,121,122]⟩:ByteArray)[c % 10]=dig c:=dig_fin ⟨c % 10,by omega⟩
theorem u64_pos {n:Int} (h:QO n) (hn:0≤n):IntKind.u64.wrap n=(n.natAbs:Int):=by
  rw [IntKind.wrap_u64];unfold QO at h;omega
theorem rev_step {L:List UInt8} {k:Nat} {b:UInt8} (h:L[k]?=some b):(L.drop k).reverse=(L.drop (k+1)).reverse++[b]:=by
  obtain ⟨hk,rfl⟩:=List.getElem?_eq_some_iff.1 h;rw [List.drop_eq_getElem_cons hk,List.reverse_cons]
theorem Jy (ys:List UInt8):strOfNums (ys.map fun b=>(b.toNat:Int))=⟨ys.toArray⟩:=by
  have h:(strOfNums (ys.map fun b=>(b.toNat:Int))).data.toList=ys:=by
    rw [strOfNums_data,List.map_map]
    conv=>rhs;rw [←List.map_id ys]
    refine List.map_congr_left fun b _=>?_;simp
  generalize strOfNums (ys.map fun b=>(b.toNat:Int))=s at h;cases s;simp only [ByteArray.mk.injEq];rw [←h]
structure VM (w:World) (b2:Nat) (L:List UInt8) (lv:Value) (wr:World) (o:Value) (ys:List UInt8):Prop where
  below:Below w.heap.size w wr
  size:w.heap.size≤b2∧b2≤wr.heap.size
  own1:wr.ownsRow w.heap.size 5 1 lv L.length (L.map u8V)
  lt:∀ k,lv.ownBlock=some k→k<b2
  own2:wr.ownsRow b2 5 1 o ys.length (ys.map u8V)
theorem VM.start {w wr:World} {L:List UInt8} {lv:Value} (hb:Below w.heap.size w wr) (ho:wr.ownsRow w.heap.size 5 1 lv L.length (L.map u8V)):VM w wr.heap.size L lv (wr.alloc (.cells #[] 5)) (.slice (some ⟨wr.heap.size,0,none⟩) 0 0) [] :=
  ⟨Zj hb _,⟨hb.size,by simp⟩,ho.alloc _,fun k hk=>(ho.lt k hk).2,World.ownsRow_made (base:=wr.heap.size) (e:=5) (size:=1) wr #[] 0 (Nat.le_refl _) (by unfold maxLen;omega) rfl⟩
theorem VM.step {w wr w':World} {b2:Nat} {L:List UInt8} {lv o o':Value} {ys:List UInt8} (h:VM w b2 L lv wr o ys) {b:UInt8} {ob:Obj} (h1:w'.ownsRow b2 5 1 o' (ys.length+1) (ys.map u8V++[u8V b])) (h2:(wr.alloc ob).grownBy w' o.ownBlock) :
    VM w b2 L lv w' o' (ys++[b]):=by
  have hz:=h.size;have hs:=h2.size;simp at hs;refine ⟨Below.grown (Zj h.below ob) h2 (by have:=h.below.size;simp;omega) (fun k hk=>by have:=(h.own2.lt k hk).1;omega),⟨hz.1,by omega⟩,(h.own1.alloc ob).kept h2 ?_,h.lt,by simpa using h1⟩;cases hl:lv.ownBlock with
  | none=>exact .inl rfl
  | some k =>
    right;intro he;have a1:=h.lt k hl;have a2:=(h.own2.lt k he.symm).1;omega
theorem VM.done {w wr:World} {b2:Nat} {L:List UInt8} {lv:Value} {oa:Option Addr} {oc:Nat} {ys:List UInt8} (h:VM w b2 L lv wr (.slice oa ys.length oc) ys) (hy:ys=L.reverse) {n:Int} (hd:L.reverse=Lib.itoa n) :
    (convert 67 9 (.slice oa ys.length oc)).run Tryz.prog wr=.ok (.string (VK n)) wr∧ys≠[]:=by
  have hn:ys≠[]:=by
    rw [hy,hd];intro h0
    have h1:0<(Lib.itoa n).length:=by
      unfold Lib.itoa;split
      · simp
      · rw [Lib.decDigits_length];exact Lib.nDigits_pos _
    rw [h0] at h1;simp at h1
  refine ⟨?_,hn⟩;have hl:0<ys.length:=List.length_pos_iff.2 hn;obtain ⟨g,rfl,h1,h2,h3,h4⟩:=own_at h.own2 hl
  have hc:=run_convert_bytes_arg (P:=Tryz.prog) wr 67 5 Tryz.underlying67 Tryz.underlying5 g 0 ys.length oc (ys.map fun b=>(b.toNat:Int)) (by simp) (fun i hi=>by
    rw [Nat.zero_add,h4 i hi,List.getElem?_map,List.getElem?_eq_getElem hi];simp [u8V,hi]) 9 Tryz.underlying9
  rw [hc,Jy];unfold VK;rw [hy,hd]
set_option maxRecDepth 100000 in
set_option maxHeartbeats 4000000 in
theorem base_any (n:Int) (h:QO n) (hn:0≤n) (w:World) :
    Calls Tryz.prog 129 #[.int .i64 n,.int .i64 10] w fun e w'=>e=.returned (.tuple #[.string (VK n),.int .i64 0])∧Below w.heap.size w w':=by
  have hdl:=dec_len h;obtain ⟨N,hN⟩:∃ N,N=n.natAbs:=⟨_,rfl⟩
  rw [←hN] at hdl;have hN2:N≤9223372036854775808:=by unfold QO at h;omega
  have HN:=hI hN;clear hN;have HW:=hI h;unfold QO at h;obtain ⟨i0,hi,hz0,hz1,hz2⟩:=info_parts info_u8;have HZ:=hI (u64_pos HW.out hn)
  go_enter Tryz.func129,Tryz.ntmps129
  go_wp2_with fail
  go_loopg [6,8] (N+1) (fun gk u v wr=>∃ (c:Nat) (xs:List UInt8),gk=(if xs=[] then c+1 else c)∧c≤N∧u=.int .u64 (c:Int)∧zc w N wr c v xs)
  case atStart=>exact ⟨N,[],rfl,Nat.le_refl _,by rw [HN.out];go_num,zc.start (Below.refl _ _) rfl⟩
  case round =>
    obtain ⟨c,xs,hgk,hcN,rfl,hh⟩:=hrel;have HGK:=hI hgk;clear hgk;have hln:=hh.inv.len;obtain ⟨la,lc,rfl⟩:=Kj hh.own;have HH:=hI hh;have hbw:=hh.below;clear hh;have hcc:c % 10<36:=by omega
    by_cases h0:0<c
    · have HST:=hI (show 0<c∨xs=[] from .inl h0)
      go_wp2_with (at_builtin;refine wpList_append_own _ rfl _ _ 67 rfl w.heap.size 5 i0 (.int .u8 0) 1 1 Tryz.underlying67 hi hz0 hz1 hz2 rfl (by decide) _ _ _ rfl (HH.out.own.alloc _) ⟨wr.heap.size,0,none⟩ 1 1 [u8V (dig c)] rfl rfl ?c1 ?c2 ?c3 ?c4 ?c5 ?_)
      case c1 =>
        intro j u hu
        match j,hu with
        | 0,hu=>simp at hu;subst hu;simp [Addr.add,dig_at,u8V]
      case c2=>intro u hu;simp at hu;subst hu;rfl
      case c3=>unfold maxLen;omega
      case c4=>omega
      case c5=>have h9:=hbw.size;simp;omega
      intro v' w1 hown hgrow _;have HO:=hI hown;clear hown;have HG:=hI hgrow;clear hgrow
      go_wp2_with fail
      go_roundg (c / 10)
      case rel=>exact ⟨c / 10,xs++[dig c],by simp,by omega,by go_num,HH.out.step HST.out HO.out HG.out⟩
      case measure=>rw [HGK.out];split <;> omega
    · by_cases hx:xs=[]
      · have HST:=hI (show 0<c∨xs=[] from .inr hx);have h0':decide (0<(c:Int))=false:=by simp;omega
        have hlx:((xs.length:Int)==0)=true:=by simp;exact hx
        have HX:=hI hx;clear hx
        go_wp2_with (at_builtin;refine wpList_append_own _ rfl _ _ 67 rfl w.heap.size 5 i0 (.int .u8 0) 1 1 Tryz.underlying67 hi hz0 hz1 hz2 rfl (by decide) _ _ _ rfl (HH.out.own.alloc _) ⟨wr.heap.size,0,none⟩ 1 1 [u8V (dig c)] rfl rfl ?c1 ?c2 ?c3 ?c4 ?c5 ?_)
        case c1 =>
          intro j u hu
          match j,hu with
          | 0,hu=>simp at hu;subst hu;simp [Addr.add,dig_at,u8V]
        case c2=>intro u hu;simp at hu;subst hu;rfl
        case c3=>unfold maxLen;omega
        case c4=>omega
        case c5=>have h9:=hbw.size;simp;omega
        intro v' w1 hown hgrow _;have HO:=hI hown;clear hown;have HG:=hI hgrow;clear hgrow
        go_wp2_with fail
        go_roundg (c / 10)
        case rel=>exact ⟨c / 10,xs++[dig c],by simp,by omega,by go_num,HH.out.step HST.out HO.out HG.out⟩
        case measure=>rw [HGK.out,if_pos HX.out];omega
      · have hlx:((xs.length:Int)==0)=false:=by simp;exact hx
        have h0':decide (0<(c:Int))=false:=by simp;omega
        have HD:=hI (zW.done (by have h9:=HH.out.inv;rwa [show c=0 from by omega] at h9) hx);clear hx;have HDC:=hI (show xs.reverse=Lib.itoa n by unfold Lib.itoa;rw [if_neg (by omega),←HD.out,HN.out];congr 1;omega);have HO1:=hI HH.out.own;clear HH HD;obtain ⟨wo,rfl⟩:∃ wo:World,wo=wr:=⟨_,rfl⟩
        go_wp2_with fail
        go_loopg [9,10] xs.length (fun gk o i wr2=>∃ (j:Int) (ys:List UInt8),i=.int .i64 j∧j+1=gk∧gk≤xs.length∧ys=(xs.drop gk).reverse∧VM w wo.heap.size (xs) (.slice la xs.length lc) wr2 o ys)
        case atStart=>exact ⟨_,[],rfl,by omega,Nat.le_refl _,by simp,VM.start hbw HO1.out⟩
        case round =>
          obtain ⟨j,ys,rfl,hj,hgk,hys,hr⟩:=hrel;have hyl:ys.length≤22:=by rw [hys];simp;omega
          obtain ⟨oa,oc,rfl⟩:=Kj hr.own2;have HR:=hI hr;have hbr:=hr.below;have hbs:=hr.size;clear hr;have HYS:=hI hys;clear hys;by_cases hk:gk=0
          · subst hk;have hj0:j = -1:=by omega
            subst hj0;have hend:=HR.out.done (by rw [HYS.out];rfl) (n:=n) HDC.out;have HC:=hI hend;clear hend;obtain ⟨HC1,HC2⟩:=HC.out
            go_wp2_with fail
            go_ret2
            refine ⟨rfl,?_⟩;exact bw
          · obtain ⟨k,rfl⟩:∃ k,gk=k+1:=⟨gk - 1,by omega⟩
            have hjk:j=(k:Int):=by omega
            subst hjk;have hkl:k<xs.length:=by omega
            obtain ⟨b,hbk⟩:∃ b,(xs)[k]?=some b:=⟨_,List.getElem?_eq_getElem hkl⟩
            have hown1:=HR.out.own1;obtain ⟨g,hg0,hg1,hg2,hg3,hg4⟩:=own_at hown1 hkl;subst hg0;have hcell:=hg4 k hkl;rw [List.getElem?_map,hbk] at hcell;simp only [Option.map_some,u8V] at hcell;clear hg4 hown1 hj hk;have HBK:=hI hbk;clear hbk;have hgk2:=hgk
            go_wp2_with (at_builtin;refine wpList_append_own _ rfl _ _ 67 rfl wo.heap.size 5 i0 (.int .u8 0) 1 1 Tryz.underlying67 hi hz0 hz1 hz2 rfl (by decide) _ _ _ rfl (HR.out.own2.alloc _) ⟨wr.heap.size,0,none⟩ 1 1 [u8V b] rfl rfl ?c1 ?c2 ?c3 ?c4 ?c5 ?_)
            case c1 =>
              intro j u hu
              match j,hu with
              | 0,hu=>simp at hu;subst hu;simp [Addr.add,u8V]
            case c2=>intro u hu;simp at hu;subst hu;rfl
            case c3=>unfold maxLen;omega
            case c4=>omega
            case c5=>simp;omega
            intro v' w1 hown hgrow _;have HO:=hI hown;clear hown;have HG:=hI hgrow;clear hgrow
            go_wp2_with fail
            go_roundg k
            case rel=>exact ⟨_,ys++[b],rfl,by first|omega|(simp;omega),by omega,by rw [HYS.out];exact (rev_step HBK.out).symm,HR.out.step HO.out HG.out⟩
            case measure=>omega
theorem qn (n:Int) (h:QO n) (hn:0≤n) (w:World) :
    Calls Tryz.prog 97 #[.int .i64 n] w fun e w'=>e=.returned (.string (VK n))∧Below w.heap.size w w':=by
  go_enter Tryz.func97,Tryz.ntmps97
  go_wp2_with (go_at_call 129;go_loud (refine (base_any n h hn _).mono ?_;rintro e w1 ⟨rfl,hb⟩))
  go_ret;exact ⟨rfl,hb⟩
set_option maxHeartbeats 2000000
set_option maxRecDepth 100000
def RS (t:Bs) (w:World) (e:Ending) (w':World):Prop:=∃ s:ByteArray,Zg s=t∧e=.returned (.string s)∧Below w.heap.size w w'
theorem RS.lit {t:Bs} {w w':World} {s:ByteArray} (h:Zg s=t) (hb:Below w.heap.size w w'):RS t w (.returned (.string s)) w':=⟨s,h,rfl,hb⟩
theorem Zo {s:ByteArray} {t:Bs} {n:Nat} (h:Zg s=t) (hl:t.length≤n):s.size≤n:=by subst h;exact hl
theorem Jq (x:Ex) (d:EA) (w:World) (hs:x.str.size≤MX) :
    Calls Tryz.prog 58 #[(eV x d)] w fun e w'=>e=.returned (.bool (zt x))∧Below w.heap.size w w':=by
  delta eV
  obtain ⟨nb,hnb⟩:∃ b,b=ZG x.str:=⟨_,rfl⟩
  have HN:=hI (show ∀ w',Calls Tryz.prog 98 #[.string x.str] w' fun e w''=>e=.returned (.bool nb)∧w''=w' from fun w'=>by rw [hnb];exact VO x.str w' hs);have HR:=hI (show zt x=(x.kind==5 && nb) by rw [hnb];rfl);clear hnb;cases h5:(x.kind==5) <;> cases nb
  all_goals
    go_enter Tryz.func58,Tryz.ntmps58
    go_wp2_with (go_at_call 98;(with_reducible refine (HN.out _).mono ?_);rintro e w2 ⟨rfl,hw2⟩;subst w2)
    go_ret;exact ⟨by rw [HR.out,h5];rfl,bw⟩
theorem Vo (n:Nat) (w:World) (hn:n≤8388608) :
    Calls Tryz.prog 43 #[.int .i64 n] w (RS (QH n) w):=by
  go_enter Tryz.func43,Tryz.ntmps43
  go_wp2_with fail
  go_loopg [3,4] n (fun gk v i wr=>∃ (k:Nat) (s:ByteArray),gk+k=n∧i=.int .i64 k∧v=.string s∧Zg s=QH k∧wr=w)
  case atStart=>exact ⟨0,⟨#[]⟩,by omega,rfl,rfl,rfl,rfl⟩
  case round =>
  obtain ⟨k,s,hk,rfl,rfl,hs,rfl⟩:=hrel;have hz:s.size≤16777216:=Zo hs (by rw [Ql];omega);have HK:=hI hk;have HS:=hI hs;clear hs;by_cases hlt:k<n
  · go_wp2_with fail
    go_roundg (gk - 1)
    case rel=>exact ⟨k+1,_,by have:=HK.out;omega,by go_num,rfl,by rw [Zi,HS.out];unfold QH;rw [List.replicate_succ'];simp [Zg],rfl⟩
    case measure=>have:=HK.out;omega
  · have hke:k=n:=by omega
    have HR:=hI (show Zg s=QH n by rw [HS.out,hke]);clear hke
    go_wp2_with fail
    go_ret;exact RS.lit HR.out bw
theorem rcolon7_any (s:ByteArray) (w:World) (hs:s.size≤MX) :
    Calls Tryz.prog 127 #[.string s] w fun e w'=>e=.returned (.int .i64 (if QK s=true then 1 else 0))∧w'=w:=by
  unfold MX at hs;obtain ⟨b,hb⟩:∃ b,b=QK s:=⟨_,rfl⟩
  rw [←hb];have HB:=hI hb;clear hb
  go_enter Tryz.func127,Tryz.ntmps127
  go_wp2_with fail
  go_loopg [3] s.size (fun gk i wr=>∃ k:Nat,gk+k=s.size∧i=.int .i64 k∧wr=w∧ZL (·==(58:UInt8)) s.data.toList k)
  case atStart=>exact ⟨0,by omega,rfl,rfl,ZO⟩
  case round =>
  obtain ⟨k,hk,rfl,rfl,hno⟩:=hrel;have HK:=hI hk;have HNO:=hI hno;clear hno;by_cases hlt:k<s.size
  · have hck:s.data.toList[k]?=some s[k]:=by rw [Array.getElem?_toList];exact Array.getElem?_eq_getElem hlt
    have HCK:=hI hck;clear hck;cases hc:(((s[k].toNat:Nat):Int)==58)
    · have HC:=hI (show (s[k]==58)=false by rw [←u8_58];exact hc)
      go_wp2_with fail
      go_roundg (gk - 1)
      case rel=>exact ⟨k+1,by have:=HK.out;omega,by go_num,rfl,HNO.out.succ HCK.out HC.out⟩
      case measure=>have:=HK.out;omega
    · have HC:=hI (show (s[k]==58)=true by rw [←u8_58];exact hc);have e:b=true:=by rw [HB.out];exact ZJ HCK.out HC.out
      subst e;clear HB
      go_wp2_with fail
      go_ret;exact ⟨rfl,rfl⟩
  · have hke:k=s.size:=by omega
    have e:b=false:=by rw [HB.out];exact ZK (by rw [show (Zg s).length=k from hke.symm];exact HNO.out)
    subst e;clear HB hke
    go_wp2_with fail
    go_ret;exact ⟨rfl,rfl⟩
end Go.Proofs.YtalopgnjgbiopaaGreatDoor
