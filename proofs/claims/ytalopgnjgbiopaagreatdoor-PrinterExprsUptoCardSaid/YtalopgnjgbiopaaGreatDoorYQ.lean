/- The reference's Quote. -/
import Derived.Test.YtalopgnjgbiopaaGreatDoorYA
namespace Go.Proofs.YtalopgnjgbiopaaGreatDoor
open Go.RowKit
set_option linter.unusedVariables false
set_option linter.unusedSimpArgs false
set_option maxRecDepth 100000 in
set_option maxHeartbeats 8000000 in
theorem rquote_any (s:ByteArray) (w:World) (hs:s.size≤1048576) :
    Calls Tryz.prog 57 #[.string s] w (RS (Vv s) w):=by
  obtain ⟨i0,hi,hz0,hz1,hz2⟩:=info_parts infoByte;have hss:s.size≤9223372036854775807:=by omega
  go_enter Tryz.func57,Tryz.ntmps57
  go_wp2_with fail
  go_loopg [3,4] s.size (fun gk v i wr=>∃ k:Nat,gk+k=s.size∧i=.int .i64 k∧Below w.heap.size w wr∧wr.ownsRow w.heap.size 5 1 v (34::((Zg s).take k).flatMap QJ).length (Lib.byteCells (34::((Zg s).take k).flatMap QJ)))
  case atStart=>exact ⟨0,by omega,rfl,bw,⟨rfl,.inr ⟨w.heap.size,1,#[.int .u8 34],rfl,Nat.le_refl _,Zk rfl,Nat.le_refl _,by unfold maxLen;omega,rfl,rfl⟩⟩⟩
  case round =>
  obtain ⟨k,hk,rfl,hbr,hown⟩:=hrel;have HBR:=hI hbr;have HK:=hI hk;obtain ⟨l,hl⟩:∃ l,l=(34::((Zg s).take k).flatMap QJ):=⟨_,rfl⟩
  have hll:l.length≤1+4*s.size:=by
    rw [hl,List.length_cons];have h1:=zm ((Zg s).take k);have h2:((Zg s).take k).length≤s.size:=by rw [List.length_take];exact Nat.min_le_right _ _
    omega
  rw [←hl] at hown;have HL:=hI hl
  have hsl:∃ ao n' cap,u3=Value.slice ao n' cap:=by
    rcases hown.2 with ⟨hv,_⟩|⟨g,cap,cur,hv,_⟩
    · exact ⟨_,_,_,hv⟩
    · exact ⟨_,_,_,hv⟩
  have HOWN:=hI hown;clear hbr hown hl;by_cases hlt:k<s.size
  · have hck:(Zg s)[k]?=some s[k]:=by unfold Zg;rw [List.getElem?_eq_getElem (by simpa using hlt)];rfl
    have HCK:=hI hck;have hc255:=(s[k]).toNat_lt
    have HSTEP:∀ (v':Value) (w3:World) (m:Nat) (cs:List Value) (x:List UInt8),w3.ownsRow w.heap.size 5 1 v' (l.length+m) (Lib.byteCells l++cs)→QJ s[k]=x→x.length=m→Lib.byteCells x=cs→w3.ownsRow w.heap.size 5 1 v' (34::((Zg s).take (k+1)).flatMap QJ).length (Lib.byteCells (34::((Zg s).take (k+1)).flatMap QJ)):=by
      intro v' w3 m cs x h1 h2 h3 h4;subst h3 h4;rw [vx HCK.out,h2,←List.cons_append,←HL.out,List.length_append,Lib.byteCells_append];exact h1
    have tests:(((s[k].toNat:Nat):Int)==10)=true∧QJ s[k]=[92,110]∨(((s[k].toNat:Nat):Int)==10)=false∧((((s[k].toNat:Nat):Int)==9)=true∧QJ s[k]=[92,116]∨(((s[k].toNat:Nat):Int)==9)=false ∧
        ((((s[k].toNat:Nat):Int)==92)=true∧QJ s[k]=[92,s[k]]∨(((s[k].toNat:Nat):Int)==92)=false∧((((s[k].toNat:Nat):Int)==34)=true∧QJ s[k]=[92,s[k]]∨(((s[k].toNat:Nat):Int)==34)=false ∧
        (decide (((s[k].toNat:Nat):Int)<32)=true∧QJ s[k]=[92,48+s[k] / 100,48+s[k] / 10 % 10,48+s[k] % 10]∨decide (((s[k].toNat:Nat):Int)<32)=false∧(decide ((126:Int)<((s[k].toNat:Nat):Int))=true∧QJ s[k]=[92,48+s[k] / 100,48+s[k] / 10 % 10,48+s[k] % 10]∨decide ((126:Int)<((s[k].toNat:Nat):Int))=false∧QJ s[k]=[s[k]]))))):=by
      generalize s[k]=c
      have h:∀ n:Fin 256,(fun c:UInt8=>(((c.toNat:Nat):Int)==10)=true∧QJ c=[92,110]∨(((c.toNat:Nat):Int)==10)=false∧((((c.toNat:Nat):Int)==9)=true∧QJ c=[92,116]∨(((c.toNat:Nat):Int)==9)=false ∧
        ((((c.toNat:Nat):Int)==92)=true∧QJ c=[92,c]∨(((c.toNat:Nat):Int)==92)=false∧((((c.toNat:Nat):Int)==34)=true∧QJ c=[92,c]∨(((c.toNat:Nat):Int)==34)=false ∧
        (decide (((c.toNat:Nat):Int)<32)=true∧QJ c=[92,48+c / 100,48+c / 10 % 10,48+c % 10]∨decide (((c.toNat:Nat):Int)<32)=false∧(decide ((126:Int)<((c.toNat:Nat):Int))=true∧QJ c=[92,48+c / 100,48+c / 10 % 10,48+c % 10]∨decide ((126:Int)<((c.toNat:Nat):Int))=false∧QJ c=[c])))))) (UInt8.ofNat n.1):=by decide +kernel
      simpa using h ⟨c.toNat,c.toNat_lt⟩
    rcases tests with ⟨t10,he⟩|⟨t10,⟨t9,he⟩|⟨t9,⟨t92,he⟩|⟨t92,⟨t34,he⟩|⟨t34,⟨t32,he⟩|⟨t32,⟨t126,he⟩|⟨t126,he⟩⟩⟩⟩⟩⟩
    all_goals
      have HE:=hI he;clear he hck
      go_wp2_with (at_builtin;first|(refine wpList_append_own _ rfl _ _ 67 rfl w.heap.size 5 i0 (.int .u8 0) 1 1 Tryz.underlying67 hi hz0 hz1 hz2 rfl (by decide) _ _ _ rfl (HOWN.out.alloc _) ⟨wr.heap.size,0,none⟩ 2 2 [.int .u8 92,.int .u8 110] rfl rfl (World.news_of_block (heap_alloc_new _ _)) ?c2 ?c3 ?c4 ?c5 ?_)|(refine wpList_append_own _ rfl _ _ 67 rfl w.heap.size 5 i0 (.int .u8 0) 1 1 Tryz.underlying67 hi hz0 hz1 hz2 rfl (by decide) _ _ _ rfl (HOWN.out.alloc _) ⟨wr.heap.size,0,none⟩ 2 2 [.int .u8 92,.int .u8 116] rfl rfl (World.news_of_block (heap_alloc_new _ _)) ?c2 ?c3 ?c4 ?c5 ?_)|(refine wpList_append_own _ rfl _ _ 67 rfl w.heap.size 5 i0 (.int .u8 0) 1 1 Tryz.underlying67 hi hz0 hz1 hz2 rfl (by decide) _ _ _ rfl (HOWN.out.alloc _) ⟨wr.heap.size,0,none⟩ 2 2 [.int .u8 92,.int .u8 s[k].toNat] rfl rfl (World.news_of_block (heap_alloc_new _ _)) ?c2 ?c3 ?c4 ?c5 ?_)|(refine wpList_append_own _ rfl _ _ 67 rfl w.heap.size 5 i0 (.int .u8 0) 1 1 Tryz.underlying67 hi hz0 hz1 hz2 rfl (by decide) _ _ _ rfl (HOWN.out.alloc _) ⟨wr.heap.size,0,none⟩ 4 4 [.int .u8 92,.int .u8 (48+(s[k].toNat:Int) / 100),.int .u8 (48+(s[k].toNat:Int) / 10 % 10),.int .u8 (48+(s[k].toNat:Int) % 10)] rfl rfl (World.news_of_block (heap_alloc_new _ _)) ?c2 ?c3 ?c4 ?c5 ?_)|(refine wpList_append_own _ rfl _ _ 67 rfl w.heap.size 5 i0 (.int .u8 0) 1 1 Tryz.underlying67 hi hz0 hz1 hz2 rfl (by decide) _ _ _ rfl (HOWN.out.alloc _) ⟨wr.heap.size,0,none⟩ 1 1 [.int .u8 s[k].toNat] rfl rfl (World.news_of_block (heap_alloc_new _ _)) ?c2 ?c3 ?c4 ?c5 ?_))
      case c2=>intro u hu;simp at hu;(first|(rcases hu with rfl|rfl|rfl|rfl <;> rfl)|(rcases hu with rfl|rfl <;> rfl)|(subst hu;rfl))
      case c3=>unfold maxLen;omega
      case c4=>omega
      case c5=>have:=HBR.out.size;simp;omega
      intro v' w3 hown3 hgrow _;have hb3:Below w.heap.size w w3:=Below.grown (Zj HBR.out _) hgrow (by have:=HBR.out.size;simp;omega) (fun k hk=>(HOWN.out.lt k hk).1)
      have hsl3:∃ ao n' cap,v'=Value.slice ao n' cap:=by
        rcases hown3.2 with ⟨hv,_⟩|⟨g,cap,cur,hv,_⟩
        · exact ⟨_,_,_,hv⟩
        · exact ⟨_,_,_,hv⟩
      have HO3:=hI hown3;have HB3:=hI hb3;clear hown3 hgrow hb3
      go_wp2_with fail
      go_roundg (gk - 1)
      case rel=>exact ⟨k+1,by have:=HK.out;omega,by go_num,HB3.out,HSTEP _ _ _ _ _ HO3.out HE.out rfl (by first|rfl|exact Kr _)⟩
      case measure=>have:=HK.out;omega
  · have hke:k=s.size:=by omega
    have hq:l++[34]=Vv s:=by
      rw [HL.out,hke];unfold Vv;rw [List.take_of_length_le (by unfold Zg;exact Nat.le_of_eq rfl)]
    have HQ:=hI hq;clear hk hke hq
    go_wp2_with (at_builtin;refine wpList_append_own _ rfl _ _ 67 rfl w.heap.size 5 i0 (.int .u8 0) 1 1 Tryz.underlying67 hi hz0 hz1 hz2 rfl (by decide) _ _ _ rfl (HOWN.out.alloc _) ⟨wr.heap.size,0,none⟩ 1 1 [.int .u8 34] rfl rfl ?c1 ?c2 ?c3 ?c4 ?c5 ?_)
    case c1=>exact World.news_of_block (heap_alloc_new _ _)
    case c2=>intro u hu;simp at hu;subst hu;rfl
    case c3=>unfold maxLen;omega
    case c4=>omega
    case c5=>have:=HBR.out.size;simp;omega
    intro v' w3 hown3 hgrow _;have hb3:Below w.heap.size w w3:=Below.grown (Zj HBR.out _) hgrow (by have:=HBR.out.size;simp;omega) (fun k hk=>(HOWN.out.lt k hk).1);have h9:w3.ownsRow w.heap.size 5 1 v' (l++[34]).length (Lib.byteCells (l++[34])):=by rw [List.length_append,Lib.byteCells_append];exact hown3
    have hcv:=conv_own h9 (by simp);rw [HQ.out] at hcv;have HB3:=hI hb3;clear hown3 hgrow hb3 h9
    go_wp2_with fail
    go_ret;exact RS.lit (JP _) HB3.out
end Go.Proofs.YtalopgnjgbiopaaGreatDoor
