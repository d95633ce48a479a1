/- Chunks one behind the other in memory; law07.large; the law PrinterJoins, but the examples. -/
import Derived.Test.YtdmdhopfgnlnoaaGreatDoorPU
import Derived.Test.YtdmdhopfgnlnoaaGreatDoorTD
namespace Go.Proofs.YtdmdhopfgnlnoaaGreatDoor
open Go.RowKit
set_option linter.unusedVariables false
set_option linter.unusedSimpArgs false
def jE (b:List St):Bool:=(QN b != 0) || decide (2000<mSs b)
set_option maxRecDepth 100000 in
set_option maxHeartbeats 4000000 in
theorem UC (b:List St) (a:Option Addr) (c:Nat) (w:World) (hw:St.wys b≤4194304) (h1:b.length≤c) (h2:c≤MX) (h3:b.length*128≤LM) (hat:St.Ats Ze w b a) :
    Calls Tryz.prog 4 #[.slice a b.length c] w fun e w'=>e=.returned (.bool (jE b))∧Below w.heap.size w w':=by
  have hwz:St.wzs b≤1073741824:=by have:=St.wzs_wy b;omega
  have hsz:=St.szs_wz b;have hsm:mSs b≤1073741824:=Nat.le_trans (vX b) (by omega);have hwn:wN (JA b)=(mSs b:Int):=by rw [nSs_m];unfold wN wrap64;omega
  have HA:=hI hat;have HCK:=hI (show ∀ w',Below w.heap.size w w'→Calls Tryz.prog 9 #[.slice a b.length c] w' fun e w''=>e=.returned (.int .i64 (QN b))∧Below w'.heap.size w' w'' from fun w' hb=>rcheck_any b a c w' hwz h1 h2 h3 (HA.out.keep (Zb hb) (fun _ h=>h)));have HSZ:=hI (show ∀ w',Below w.heap.size w w'→Calls Tryz.prog 10 #[.slice a b.length c] w' fun e w''=>e=.returned (.int .i64 (mSs b:Int))∧Below w'.heap.size w' w'' from fun w' hb=>(size_any b a c w' h1 h2 (HA.out.keep (Zb hb) (fun _ h=>h))).mono fun e w'' ⟨he,m,hm⟩=>⟨by rw [he,hwn],by rw [hm];exact ZS (Below.refl _ _) _⟩);have hL:jE b=((QN b != 0) || decide (2000<mSs b)):=rfl;obtain ⟨r,hr⟩:∃ r,r=jE b:=⟨_,rfl⟩
  rw [←hr] at hL ⊢;obtain ⟨v,hv⟩:∃ v,v=QN b:=⟨_,rfl⟩
  obtain ⟨m,hm⟩:∃ m,m=mSs b:=⟨_,rfl⟩
  rw [←hv] at hL HCK;rw [←hm] at hL HSZ;have HL:=hI hL;clear hat hwz hsz hsm hwn hL hr hv hm hw h1 h2 h3;by_cases hv0:v=0
  · have t0:(v != 0)=false:=by rw [hv0];rfl
    have e:r=decide (2000<m):=by rw [HL.out,t0];rfl
    subst e;clear HL hv0
    go_enter Tryz.func4,Tryz.ntmps4
    go_wp2_with (first
      | (go_at_call 9;(with_reducible refine (HCK.out _ bw).mono ?_);rintro e w2 ⟨rfl,hb2⟩)
      | (go_at_call 10;(with_reducible refine (HSZ.out _ bw).mono ?_);rintro e w3 ⟨rfl,hb3⟩))
    go_ret;refine ⟨?_,thru hb3 hb2⟩
    first
      | rfl
      | (refine congrArg (fun b=>Ending.returned (.bool b)) ?_;rw [decide_eq_decide];omega)
  · have t0:(v != 0)=true:=by simp;exact hv0
    have e:r=true:=by rw [HL.out,t0];rfl
    subst e;clear HL hv0
    go_enter Tryz.func4,Tryz.ntmps4
    go_wp2_with (go_at_call 9;(with_reducible refine (HCK.out _ bw).mono ?_);rintro e w2 ⟨rfl,hb2⟩)
    go_ret;exact ⟨rfl,hb2⟩
end Go.Proofs.YtdmdhopfgnlnoaaGreatDoor
