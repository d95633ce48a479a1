import Derived.Test.YtaddbmkkkollpaaGreatDoorC1
set_option linter.all false
namespace Go.Proofs.YtaddbmkkkollpaaGreatDoor
open Go.RowKit
set_option maxHeartbeats 8000000
def dq (l:List UInt8) (p:Int→Bool):Nat:=(l.takeWhile fun c=>p c.toNat).length
theorem xT (p:Int→Bool):dq [] p=0:=rfl
theorem pq {c:UInt8} {r:List UInt8} {p:Int→Bool} (h:p c.toNat=true):dq (c::r) p=1+dq r p:=by simp [dq,h];omega
theorem sm {c:UInt8} {r:List UInt8} {p:Int→Bool} (h:p c.toNat=false):dq (c::r) p=0:=by simp [dq,h]
theorem iL (s:ByteArray) (k:Nat) (h:k<s.size):s.data.toList.drop k=s[k]::s.data.toList.drop (k+1):=by
  rw [List.drop_eq_getElem_cons (by simpa using h)];rfl
theorem oH (c:UInt8):lD c.toNat=fZ c:=by
  have h:∀ n:Fin 256,lD (n.val:Int)=fZ (UInt8.ofNat n.val):=by decide +kernel
  have:=h ⟨c.toNat,c.toNat_lt⟩;simpa using this
theorem sC (c:UInt8):kN c.toNat=dL c:=by
  have h:∀ n:Fin 256,kN (n.val:Int)=dL (UInt8.ofNat n.val):=by decide +kernel
  have:=h ⟨c.toNat,c.toNat_lt⟩;simpa using this
theorem sn (s:ByteArray) (n:Nat) (v:Value) (p:Int→Bool) (w:World) (hn:n≤s.size) (hs:s.size≤MX) (hv:eU w v p) :
    Calls Tryz.prog 116 #[.string s,.int .i64 n,v] w fun e w'=>e=.returned (.int .i64 ((n+dq (s.data.toList.drop n) p:Nat):Int))∧Below w.heap.size w w':=by
  unfold MX at hs;obtain ⟨f,cap,rfl,ef,hf⟩:=hv;have HF:=hI hf;clear hf
  go_enter Tryz.func116,Tryz.ntmps116
  go_wp2_with fail
  go_loopg [1] (s.size - n) (fun gk i wr=>∃ k:Nat,gk+k=s.size∧i=.int .i64 k∧Below w.heap.size w wr∧n+dq (s.data.toList.drop n) p=k+dq (s.data.toList.drop k) p)
  case atStart=>exact ⟨n,by omega,rfl,Below.refl _ _,rfl⟩
  case round =>
    obtain ⟨k,hk,rfl,hbw,hno⟩:=hrel;have HB:=hI hbw;clear hbw;have HN:=hI hno;clear hno;have HK:=hI hk;by_cases hlt:k<s.size
    · have hd:=hI (iL s k hlt);cases hp:p s[k].toNat
      · have HP:=hI hp;clear hp
        go_wp2_with ((with_reducible refine (HF.out _ _ (by omega) (by have:=(s[k]).toNat_lt;omega) HB.out).mono ?_);(rw [HP.out];rintro e w1 ⟨rfl,hb⟩;have HB1:=hI hb;clear hb))
        go_ret;exact ⟨by rw [HN.out,hd.out,sm HP.out];rfl,thru HB1.out HB.out⟩
      · have HP:=hI hp;clear hp
        go_wp2_with ((with_reducible refine (HF.out _ _ (by omega) (by have:=(s[k]).toNat_lt;omega) HB.out).mono ?_);(rw [HP.out];rintro e w1 ⟨rfl,hb⟩;have HB1:=hI hb;clear hb))
        go_roundg (gk - 1)
        case rel=>exact ⟨k+1,by have:=HK.out;omega,by go_num,thru HB1.out HB.out,by rw [HN.out,hd.out,pq HP.out];omega⟩
        case measure=>have:=HK.out;omega
    · go_wp2_with fail
      go_ret;have hke:k=s.size:=by have:=HK.out;omega
      exact ⟨by rw [HN.out,hke,List.drop_of_length_le (by simp),xT];rfl,HB.out⟩
theorem xS {l:List UInt8} {p:Int→Bool}:dq l p≤l.length∧(dq l p=l.length↔(l.all fun c=>p c.toNat)=true):=by
  induction l with
  | nil=>simp [dq]
  | cons c r ih =>
    cases h:p c.toNat
    · rw [sm h];simp [h]
    · rw [pq h];simp only [List.length_cons,List.all_cons,h,Bool.true_and];exact ⟨by omega,by rw [←ih.2];omega⟩
theorem F3 (s:ByteArray) (w:World) (hl:s.data.toList=[]) :
    Calls Tryz.prog 101 #[.string s] w fun e w'=>e=.returned (.bool (cw s))∧Below w.heap.size w w':=by
  have hn:cw s=false:=by unfold cw;rw [hl]
  have HN:=hI hn;clear hn;have hz:s.toList=[]:=by rw [ByteArray.toList_eq];exact hl
  have hzz:s.toList.isEmpty=true:=by rw [hz];rfl
  clear hl
  go_enter Tryz.func101,Tryz.ntmps101
  go_wp2_with fail
  refine wp_region_any (by kernel_rfl) ?_
  try change wpAny _ _ _ _ _ _ _ (World.drew _)
  refine wpAny_ready (rs:=[0]) (by kernel_rfl) (by simp) ?_;refine AllReady.cons rfl (fun K hK=>?_) AllReady.nil
  go_simp
  refine hK _ _ ?_;clear hK K;refine wpAny_ready (rs:=[1]) (by kernel_rfl) (by simp) ?_;refine AllReady.cons rfl (fun K hK=>?_) AllReady.nil
  go_simp
  refine hK _ _ ?_;clear hK K;refine wpAny_ready (rs:=[2]) (by kernel_rfl) (by simp) ?_;refine AllReady.cons rfl (fun K hK=>?_) AllReady.nil
  go_simp
  refine hK _ _ ?_;clear hK K;refine wpAny_take (i:=3) (v:=undef) rfl (by kernel_rfl) (by kernel_rfl) (by kernel_rfl) (fun _ _ _ h=>h) (Or.inr ⟨by rfl,rfl⟩) ?_;refine wpAny_take (i:=4) (v:=undef) rfl (by kernel_rfl) (by kernel_rfl) (by kernel_rfl) (fun _ _ _ h=>h) (Or.inr ⟨by rfl,rfl⟩) ?_;refine wpAny_take (i:=5) (v:=undef) rfl (by kernel_rfl) (by kernel_rfl) (by kernel_rfl) (fun _ _ _ h=>h) (Or.inr ⟨by rfl,rfl⟩) ?_;refine wpAny_ready (rs:=[6]) (by kernel_rfl) (by simp) ?_;refine AllReady.cons rfl (fun K hK=>?_) AllReady.nil
  go_simp
  refine hK _ _ ?_;clear hK K;refine wpAny_ready (rs:=[7]) (by kernel_rfl) (by simp) ?_;refine AllReady.cons rfl (fun K hK=>?_) AllReady.nil
  go_simp
  refine hK _ _ ?_;clear hK K;refine wpAny_take (i:=8) (v:=undef) rfl (by kernel_rfl) (by kernel_rfl) (by kernel_rfl) (fun _ _ _ h=>h) (Or.inr ⟨by rfl,rfl⟩) ?_;refine wpAny_take (i:=9) (v:=undef) rfl (by kernel_rfl) (by kernel_rfl) (by kernel_rfl) (fun _ _ _ h=>h) (Or.inr ⟨by rfl,rfl⟩) ?_;refine wpAny_ready (rs:=[10]) (by kernel_rfl) (by simp) ?_;refine AllReady.cons rfl (fun K hK=>?_) AllReady.nil
  go_simp
  refine hK _ _ ?_;clear hK K;refine wpAny_ready (rs:=[11]) (by kernel_rfl) (by simp) ?_;refine AllReady.cons rfl (fun K hK=>?_) AllReady.nil
  go_simp
  refine hK _ _ ?_;clear hK K;refine wpAny_take (i:=12) (v:=undef) rfl (by kernel_rfl) (by kernel_rfl) (by kernel_rfl) (fun _ _ _ h=>h) (Or.inr ⟨by rfl,rfl⟩) ?_;refine wpAny_take (i:=13) (v:=undef) rfl (by kernel_rfl) (by kernel_rfl) (by kernel_rfl) (fun _ _ _ h=>h) (Or.inr ⟨by rfl,rfl⟩) ?_;refine wpAny_take (i:=14) (v:=undef) rfl (by kernel_rfl) (by kernel_rfl) (by kernel_rfl) (fun _ _ _ h=>h) (Or.inr ⟨by rfl,rfl⟩) ?_;refine wpAny_take (i:=15) (v:=undef) rfl (by kernel_rfl) (by kernel_rfl) (by kernel_rfl) (fun _ _ _ h=>h) (Or.inr ⟨by rfl,rfl⟩) ?_;refine wpAny_take (i:=16) (v:=undef) rfl (by kernel_rfl) (by kernel_rfl) (by kernel_rfl) (fun _ _ _ h=>h) (Or.inr ⟨by rfl,rfl⟩) ?_;refine wpAny_ready (rs:=[17]) (by kernel_rfl) (by simp) ?_;refine AllReady.cons rfl (fun K hK=>?_) AllReady.nil
  go_simp
  refine hK _ _ ?_;clear hK K;refine wpAny_done (by kernel_rfl) ?_ _
  go_wp2_with fail
  go_ret;exact ⟨by rw [HN.out];rfl,bw⟩
theorem lJ (s:ByteArray) (w:World) (hs:s.size≤MX) :
    Calls Tryz.prog 101 #[.string s] w fun e w'=>e=.returned (.bool (cw s))∧Below w.heap.size w w':=by
  have hn:cw s=match s.data.toList with
    | []=>false
    | c::r=>decide (s.size≤40) && !kD s && fZ c && (c::r).all dL:=rfl
  unfold MX at hs;rcases hl:s.data.toList with _|⟨c,r⟩
  · exact F3 s w hl
  · rw [hl] at hn;have hsz:s.size=r.length+1:=by have:=congrArg List.length hl;simpa using this
    have hz:s.toList≠[]:=by rw [ByteArray.toList_eq,hl];simp
    have hzz:s.toList.isEmpty=false:=by cases h:s.toList with
      | nil=>exact absurd h hz
      | cons a b=>rfl
    have h0:0<s.size:=by omega
    have hc0:s[0]=c:=by
      have:=iL s 0 h0;rw [List.drop_zero,hl] at this;exact (List.cons.inj this).1.symm
    have HC0:=hI hc0;clear hc0;have HL:=hI hl;clear hl;have HS:=hI hsz;clear hsz;have HN:=hI hn;clear hn;by_cases h40:s.size≤40
    · have d40:decide ((40:Int)<(s.size:Int))=false:=by simp;omega
      cases hk:kD s
      · have HK:=hI hk;clear hk;cases hi:fZ c
        · have HI:=hI hi;clear hi
          go_enter Tryz.func101,Tryz.ntmps101
          go_wp2_with fail
          refine wp_region_any (by kernel_rfl) ?_
          try change wpAny _ _ _ _ _ _ _ (World.drew _)
          refine wpAny_ready (rs:=[0]) (by kernel_rfl) (by simp) ?_;refine AllReady.cons rfl (fun K hK=>?_) AllReady.nil
          go_simp
          refine hK _ _ ?_;clear hK K;refine wpAny_ready (rs:=[1]) (by kernel_rfl) (by simp) ?_;refine AllReady.cons rfl (fun K hK=>?_) AllReady.nil
          go_simp
          refine hK _ _ ?_;clear hK K;refine wpAny_ready (rs:=[2]) (by kernel_rfl) (by simp) ?_;refine AllReady.cons rfl (fun K hK=>?_) AllReady.nil
          go_simp
          refine hK _ _ ?_;clear hK K;refine wpAny_ready (rs:=[3]) (by kernel_rfl) (by simp) ?_;refine AllReady.cons rfl (fun K hK=>?_) AllReady.nil
          go_simp
          refine hK _ _ ?_;clear hK K;refine wpAny_ready (rs:=[4]) (by kernel_rfl) (by simp) ?_;refine AllReady.cons rfl (fun K hK=>?_) AllReady.nil
          go_simp
          refine hK _ _ ?_;clear hK K;refine wpAny_ready (rs:=[5]) (by kernel_rfl) (by simp) ?_;refine AllReady.cons rfl (fun K hK=>?_) AllReady.nil
          go_simp
          refine hK _ _ ?_;clear hK K;refine wpAny_ready (rs:=[6]) (by kernel_rfl) (by simp) ?_;refine AllReady.cons rfl (fun K hK=>?_) AllReady.nil
          go_simp
          refine hK _ _ ?_;clear hK K;refine wpAny_ready (rs:=[7]) (by kernel_rfl) (by simp) ?_;refine AllReady.cons rfl (fun K hK=>?_) AllReady.nil
          go_simp
          refine hK _ _ ?_;clear hK K;refine wpAny_ready (rs:=[8]) (by kernel_rfl) (by simp) ?_;refine AllReady.cons rfl (fun K hK=>?_) AllReady.nil
          go_simp
          refine hK _ _ ?_;clear hK K;refine wpAny_ready (rs:=[9]) (by kernel_rfl) (by simp) ?_;refine AllReady.cons rfl (fun K hK=>?_) AllReady.nil
          go_simp
          go_wp2_with (go_at_call 136;refine (oM _ _).mono ?_;rw [HK.out];rintro e w1 ⟨rfl,rfl⟩)
          refine wpAny_ready (rs:=[10]) (by kernel_rfl) (by simp) ?_;refine AllReady.cons rfl (fun K hK=>?_) AllReady.nil
          go_simp
          refine hK _ _ ?_;clear hK K;refine wpAny_ready (rs:=[11]) (by kernel_rfl) (by simp) ?_;refine AllReady.cons rfl (fun K hK=>?_) AllReady.nil
          go_simp
          refine hK _ _ ?_;clear hK K;refine wpAny_take (i:=13) (v:=.string s) rfl (by kernel_rfl) (by kernel_rfl) (by kernel_rfl) (fun _ _ _ h=>h) (Or.inl ⟨by rfl,fun _=>rfl⟩) ?_;refine wpAny_take (i:=14) (v:=.int .u8 (s[0].toNat:Int)) rfl (by kernel_rfl) (by kernel_rfl) (by kernel_rfl) (fun _ _ _ h=>h) (Or.inl ⟨by rfl,fun w=>by simp [go_sem,h0]⟩) ?_;refine wpAny_ready (rs:=[12]) (by kernel_rfl) (by simp) ?_;refine AllReady.cons rfl (fun K hK=>?_) AllReady.nil
          go_simp
          go_wp2_with (go_at_call 118;refine (lE _).mono ?_;rintro e w1 ⟨v,rfl,hv,hb1⟩;obtain ⟨f,cap,rfl,ef,hf⟩:=hv;have HF:=hI hf;clear hf)
          refine wpAny_ready (rs:=[15]) (by kernel_rfl) (by simp) ?_;refine AllReady.cons rfl (fun K hK=>?_) AllReady.nil
          go_simp
          go_wp2_with ((with_reducible refine (HF.out _ _ (by omega) (by have:=(s[0]).toNat_lt;omega) (Below.refl _ _)).mono ?_);(rw [oH,HC0.out,HI.out];rintro e w2 ⟨rfl,hb2⟩))
          refine wpAny_ready (rs:=[16]) (by kernel_rfl) (by simp) ?_;refine AllReady.cons rfl (fun K hK=>?_) AllReady.nil
          go_simp
          refine hK _ _ ?_;clear hK K;refine wpAny_ready (rs:=[17]) (by kernel_rfl) (by simp) ?_;refine AllReady.cons rfl (fun K hK=>?_) AllReady.nil
          go_simp
          refine hK _ _ ?_;clear hK K;refine wpAny_done (by kernel_rfl) ?_ _
          go_wp2_with fail
          go_ret;exact ⟨by rw [HN.out,HI.out,Bool.and_false,Bool.false_and];rfl,bw⟩
        · have HI:=hI hi;clear hi
          go_enter Tryz.func101,Tryz.ntmps101
          go_wp2_with fail
          refine wp_region_any (by kernel_rfl) ?_
          try change wpAny _ _ _ _ _ _ _ (World.drew _)
          refine wpAny_ready (rs:=[0]) (by kernel_rfl) (by simp) ?_;refine AllReady.cons rfl (fun K hK=>?_) AllReady.nil
          go_simp
          refine hK _ _ ?_;clear hK K;refine wpAny_ready (rs:=[1]) (by kernel_rfl) (by simp) ?_;refine AllReady.cons rfl (fun K hK=>?_) AllReady.nil
          go_simp
          refine hK _ _ ?_;clear hK K;refine wpAny_ready (rs:=[2]) (by kernel_rfl) (by simp) ?_;refine AllReady.cons rfl (fun K hK=>?_) AllReady.nil
          go_simp
          refine hK _ _ ?_;clear hK K;refine wpAny_ready (rs:=[3]) (by kernel_rfl) (by simp) ?_;refine AllReady.cons rfl (fun K hK=>?_) AllReady.nil
          go_simp
          refine hK _ _ ?_;clear hK K;refine wpAny_ready (rs:=[4]) (by kernel_rfl) (by simp) ?_;refine AllReady.cons rfl (fun K hK=>?_) AllReady.nil
          go_simp
          refine hK _ _ ?_;clear hK K;refine wpAny_ready (rs:=[5]) (by kernel_rfl) (by simp) ?_;refine AllReady.cons rfl (fun K hK=>?_) AllReady.nil
          go_simp
          refine hK _ _ ?_;clear hK K;refine wpAny_ready (rs:=[6]) (by kernel_rfl) (by simp) ?_;refine AllReady.cons rfl (fun K hK=>?_) AllReady.nil
          go_simp
          refine hK _ _ ?_;clear hK K;refine wpAny_ready (rs:=[7]) (by kernel_rfl) (by simp) ?_;refine AllReady.cons rfl (fun K hK=>?_) AllReady.nil
          go_simp
          refine hK _ _ ?_;clear hK K;refine wpAny_ready (rs:=[8]) (by kernel_rfl) (by simp) ?_;refine AllReady.cons rfl (fun K hK=>?_) AllReady.nil
          go_simp
          refine hK _ _ ?_;clear hK K;refine wpAny_ready (rs:=[9]) (by kernel_rfl) (by simp) ?_;refine AllReady.cons rfl (fun K hK=>?_) AllReady.nil
          go_simp
          go_wp2_with (go_at_call 136;refine (oM _ _).mono ?_;rw [HK.out];rintro e w1 ⟨rfl,rfl⟩)
          refine wpAny_ready (rs:=[10]) (by kernel_rfl) (by simp) ?_;refine AllReady.cons rfl (fun K hK=>?_) AllReady.nil
          go_simp
          refine hK _ _ ?_;clear hK K;refine wpAny_ready (rs:=[11]) (by kernel_rfl) (by simp) ?_;refine AllReady.cons rfl (fun K hK=>?_) AllReady.nil
          go_simp
          refine hK _ _ ?_;clear hK K;refine wpAny_take (i:=13) (v:=.string s) rfl (by kernel_rfl) (by kernel_rfl) (by kernel_rfl) (fun _ _ _ h=>h) (Or.inl ⟨by rfl,fun _=>rfl⟩) ?_;refine wpAny_take (i:=14) (v:=.int .u8 (s[0].toNat:Int)) rfl (by kernel_rfl) (by kernel_rfl) (by kernel_rfl) (fun _ _ _ h=>h) (Or.inl ⟨by rfl,fun w=>by simp [go_sem,h0]⟩) ?_;refine wpAny_ready (rs:=[12]) (by kernel_rfl) (by simp) ?_;refine AllReady.cons rfl (fun K hK=>?_) AllReady.nil
          go_simp
          go_wp2_with (go_at_call 118;refine (lE _).mono ?_;rintro e w1 ⟨v,rfl,hv,hb1⟩;obtain ⟨f,cap,rfl,ef,hf⟩:=hv;have HF:=hI hf;clear hf)
          refine wpAny_ready (rs:=[15]) (by kernel_rfl) (by simp) ?_;refine AllReady.cons rfl (fun K hK=>?_) AllReady.nil
          go_simp
          go_wp2_with ((with_reducible refine (HF.out _ _ (by omega) (by have:=(s[0]).toNat_lt;omega) (Below.refl _ _)).mono ?_);(rw [oH,HC0.out,HI.out];rintro e w2 ⟨rfl,hb2⟩))
          refine wpAny_ready (rs:=[16]) (by kernel_rfl) (by simp) ?_;refine AllReady.cons rfl (fun K hK=>?_) AllReady.nil
          go_simp
          refine hK _ _ ?_;clear hK K;refine wpAny_ready (rs:=[17]) (by kernel_rfl) (by simp) ?_;refine AllReady.cons rfl (fun K hK=>?_) AllReady.nil
          go_simp
          refine hK _ _ ?_;clear hK K;refine wpAny_done (by kernel_rfl) ?_ _
          go_wp2_with (first|(go_at_call 137;refine (pI _).mono ?_;rintro e w5 ⟨v5,rfl,hv5,hb5⟩;have HV:=hI hv5;obtain ⟨f5,c5,rfl,-,-⟩:=hv5)|(go_at_call 116;refine (sn s 0 _ _ _ (Nat.zero_le _) (by unfold MX;omega) HV.out).mono ?_;rw [List.drop_zero,Nat.zero_add];rintro e w6 ⟨rfl,hb6⟩))
          go_ret;refine ⟨?_,bw⟩;rw [HN.out,HI.out,HK.out,decide_eq_true h40];refine congrArg (fun b=>Ending.returned (.bool b)) ?_;have hall:=(xS (l:=s.data.toList) (p:=kN)).2;rw [HL.out] at hall;simp only [sC] at hall;have hle:(c::r).length=s.size:=by rw [HS.out];rfl
          rw [hle] at hall;rw [HL.out];cases ha:(c::r).all dL
          · simp [ha] at hall ⊢;omega
          · simp [ha] at hall ⊢;omega
      · have HK:=hI hk;clear hk
        go_enter Tryz.func101,Tryz.ntmps101
        go_wp2_with fail
        refine wp_region_any (by kernel_rfl) ?_
        try change wpAny _ _ _ _ _ _ _ (World.drew _)
        refine wpAny_ready (rs:=[0]) (by kernel_rfl) (by simp) ?_;refine AllReady.cons rfl (fun K hK=>?_) AllReady.nil
        go_simp
        refine hK _ _ ?_;clear hK K;refine wpAny_ready (rs:=[1]) (by kernel_rfl) (by simp) ?_;refine AllReady.cons rfl (fun K hK=>?_) AllReady.nil
        go_simp
        refine hK _ _ ?_;clear hK K;refine wpAny_ready (rs:=[2]) (by kernel_rfl) (by simp) ?_;refine AllReady.cons rfl (fun K hK=>?_) AllReady.nil
        go_simp
        refine hK _ _ ?_;clear hK K;refine wpAny_ready (rs:=[3]) (by kernel_rfl) (by simp) ?_;refine AllReady.cons rfl (fun K hK=>?_) AllReady.nil
        go_simp
        refine hK _ _ ?_;clear hK K;refine wpAny_ready (rs:=[4]) (by kernel_rfl) (by simp) ?_;refine AllReady.cons rfl (fun K hK=>?_) AllReady.nil
        go_simp
        refine hK _ _ ?_;clear hK K;refine wpAny_ready (rs:=[5]) (by kernel_rfl) (by simp) ?_;refine AllReady.cons rfl (fun K hK=>?_) AllReady.nil
        go_simp
        refine hK _ _ ?_;clear hK K;refine wpAny_ready (rs:=[6]) (by kernel_rfl) (by simp) ?_;refine AllReady.cons rfl (fun K hK=>?_) AllReady.nil
        go_simp
        refine hK _ _ ?_;clear hK K;refine wpAny_ready (rs:=[7]) (by kernel_rfl) (by simp) ?_;refine AllReady.cons rfl (fun K hK=>?_) AllReady.nil
        go_simp
        refine hK _ _ ?_;clear hK K;refine wpAny_ready (rs:=[8]) (by kernel_rfl) (by simp) ?_;refine AllReady.cons rfl (fun K hK=>?_) AllReady.nil
        go_simp
        refine hK _ _ ?_;clear hK K;refine wpAny_ready (rs:=[9]) (by kernel_rfl) (by simp) ?_;refine AllReady.cons rfl (fun K hK=>?_) AllReady.nil
        go_simp
        go_wp2_with (go_at_call 136;refine (oM _ _).mono ?_;rw [HK.out];rintro e w1 ⟨rfl,rfl⟩)
        refine wpAny_ready (rs:=[10]) (by kernel_rfl) (by simp) ?_;refine AllReady.cons rfl (fun K hK=>?_) AllReady.nil
        go_simp
        refine hK _ _ ?_;clear hK K;refine wpAny_ready (rs:=[11]) (by kernel_rfl) (by simp) ?_;refine AllReady.cons rfl (fun K hK=>?_) AllReady.nil
        go_simp
        refine hK _ _ ?_;clear hK K;refine wpAny_take (i:=12) (v:=undef) rfl (by kernel_rfl) (by kernel_rfl) (by kernel_rfl) (fun _ _ _ h=>h) (Or.inr ⟨by rfl,rfl⟩) ?_;refine wpAny_take (i:=13) (v:=undef) rfl (by kernel_rfl) (by kernel_rfl) (by kernel_rfl) (fun _ _ _ h=>h) (Or.inr ⟨by rfl,rfl⟩) ?_;refine wpAny_take (i:=14) (v:=undef) rfl (by kernel_rfl) (by kernel_rfl) (by kernel_rfl) (fun _ _ _ h=>h) (Or.inr ⟨by rfl,rfl⟩) ?_;refine wpAny_take (i:=15) (v:=undef) rfl (by kernel_rfl) (by kernel_rfl) (by kernel_rfl) (fun _ _ _ h=>h) (Or.inr ⟨by rfl,rfl⟩) ?_;refine wpAny_take (i:=16) (v:=undef) rfl (by kernel_rfl) (by kernel_rfl) (by kernel_rfl) (fun _ _ _ h=>h) (Or.inr ⟨by rfl,rfl⟩) ?_;refine wpAny_ready (rs:=[17]) (by kernel_rfl) (by simp) ?_;refine AllReady.cons rfl (fun K hK=>?_) AllReady.nil
        go_simp
        refine hK _ _ ?_;clear hK K;refine wpAny_done (by kernel_rfl) ?_ _
        go_wp2_with fail
        go_ret;exact ⟨by rw [HN.out,HK.out,Bool.not_true,Bool.and_false,Bool.false_and,Bool.false_and];rfl,bw⟩
    · have d40:decide ((40:Int)<(s.size:Int))=true:=by simp;omega
      go_enter Tryz.func101,Tryz.ntmps101
      go_wp2_with fail
      refine wp_region_any (by kernel_rfl) ?_
      try change wpAny _ _ _ _ _ _ _ (World.drew _)
      refine wpAny_ready (rs:=[0]) (by kernel_rfl) (by simp) ?_;refine AllReady.cons rfl (fun K hK=>?_) AllReady.nil
      go_simp
      refine hK _ _ ?_;clear hK K;refine wpAny_ready (rs:=[1]) (by kernel_rfl) (by simp) ?_;refine AllReady.cons rfl (fun K hK=>?_) AllReady.nil
      go_simp
      refine hK _ _ ?_;clear hK K;refine wpAny_ready (rs:=[2]) (by kernel_rfl) (by simp) ?_;refine AllReady.cons rfl (fun K hK=>?_) AllReady.nil
      go_simp
      refine hK _ _ ?_;clear hK K;refine wpAny_ready (rs:=[3]) (by kernel_rfl) (by simp) ?_;refine AllReady.cons rfl (fun K hK=>?_) AllReady.nil
      go_simp
      refine hK _ _ ?_;clear hK K;refine wpAny_ready (rs:=[4]) (by kernel_rfl) (by simp) ?_;refine AllReady.cons rfl (fun K hK=>?_) AllReady.nil
      go_simp
      refine hK _ _ ?_;clear hK K;refine wpAny_ready (rs:=[5]) (by kernel_rfl) (by simp) ?_;refine AllReady.cons rfl (fun K hK=>?_) AllReady.nil
      go_simp
      refine hK _ _ ?_;clear hK K;refine wpAny_ready (rs:=[6]) (by kernel_rfl) (by simp) ?_;refine AllReady.cons rfl (fun K hK=>?_) AllReady.nil
      go_simp
      refine hK _ _ ?_;clear hK K;refine wpAny_ready (rs:=[7]) (by kernel_rfl) (by simp) ?_;refine AllReady.cons rfl (fun K hK=>?_) AllReady.nil
      go_simp
      refine hK _ _ ?_;clear hK K;refine wpAny_take (i:=8) (v:=undef) rfl (by kernel_rfl) (by kernel_rfl) (by kernel_rfl) (fun _ _ _ h=>h) (Or.inr ⟨by rfl,rfl⟩) ?_;refine wpAny_take (i:=9) (v:=undef) rfl (by kernel_rfl) (by kernel_rfl) (by kernel_rfl) (fun _ _ _ h=>h) (Or.inr ⟨by rfl,rfl⟩) ?_;refine wpAny_ready (rs:=[10]) (by kernel_rfl) (by simp) ?_;refine AllReady.cons rfl (fun K hK=>?_) AllReady.nil
      go_simp
      refine hK _ _ ?_;clear hK K;refine wpAny_ready (rs:=[11]) (by kernel_rfl) (by simp) ?_;refine AllReady.cons rfl (fun K hK=>?_) AllReady.nil
      go_simp
      refine hK _ _ ?_;clear hK K;refine wpAny_take (i:=12) (v:=undef) rfl (by kernel_rfl) (by kernel_rfl) (by kernel_rfl) (fun _ _ _ h=>h) (Or.inr ⟨by rfl,rfl⟩) ?_;refine wpAny_take (i:=13) (v:=undef) rfl (by kernel_rfl) (by kernel_rfl) (by kernel_rfl) (fun _ _ _ h=>h) (Or.inr ⟨by rfl,rfl⟩) ?_;refine wpAny_take (i:=14) (v:=undef) rfl (by kernel_rfl) (by kernel_rfl) (by kernel_rfl) (fun _ _ _ h=>h) (Or.inr ⟨by rfl,rfl⟩) ?_;refine wpAny_take (i:=15) (v:=undef) rfl (by kernel_rfl) (by kernel_rfl) (by kernel_rfl) (fun _ _ _ h=>h) (Or.inr ⟨by rfl,rfl⟩) ?_;refine wpAny_take (i:=16) (v:=undef) rfl (by kernel_rfl) (by kernel_rfl) (by kernel_rfl) (fun _ _ _ h=>h) (Or.inr ⟨by rfl,rfl⟩) ?_;refine wpAny_ready (rs:=[17]) (by kernel_rfl) (by simp) ?_;refine AllReady.cons rfl (fun K hK=>?_) AllReady.nil
      go_simp
      refine hK _ _ ?_;clear hK K;refine wpAny_done (by kernel_rfl) ?_ _
      go_wp2_with fail
      go_ret;exact ⟨by rw [HN.out,decide_eq_false h40,Bool.false_and,Bool.false_and,Bool.false_and];rfl,bw⟩
def gI (n:Int):List PanicEntry:=[{ v:=.iface 110 (.agg #[.int .i64 n]),recovered:=false }]
theorem CU (n:Int) (w:World) :
    Calls Tryz.prog 129 #[.int .i64 n] w fun e w'=>e=.panicked (gI n)∧w'=w:=by
  go_enter Tryz.func129,Tryz.ntmps129
  go_wp2_with fail
  exact ⟨rfl,rfl,rfl⟩
theorem F8 (n:Int) (w:World) :
    Calls Tryz.prog 99 #[.bool true,.int .i64 n] w fun e w'=>e=.returned (.tuple #[])∧w'=w:=by
  go_enter Tryz.func99,Tryz.ntmps99
  go_wp2_with fail
  go_end0;exact ⟨rfl,rfl⟩
theorem F7 (n:Int) (w:World) :
    Calls Tryz.prog 99 #[.bool false,.int .i64 n] w fun e w'=>e=.panicked (gI n)∧w'=w:=by
  go_enter Tryz.func99,Tryz.ntmps99
  go_wp2_with (go_at_call 129;refine (CU _ _).mono ?_;rintro e w1 ⟨rfl,rfl⟩)
  exact ⟨rfl,rfl,rfl⟩
theorem vA (x:Ex) (d:EA) (op num str:Bool) (n:Int) (w:World) (hat:x.At ak w d) (hn:aJ n) :
    Calls Tryz.prog 168 #[(eV x d),.bool op,.bool num,.bool str,.int .i64 n] w fun e w'=>e=.returned (.bool (bB x op num str n))∧Below w.heap.size w w':=by
  delta eV
  go_enter Tryz.func168,Tryz.ntmps168
  go_wp2_with fail
  all_goals
    go_ret;refine ⟨?_,bw⟩;clear hat hn
    first
    | (refine congrArg (fun b=>Ending.returned (.bool b)) ?_;unfold bB;simp_all;done)
    | (refine congrArg (fun b=>Ending.returned (.bool b)) ?_;unfold bB;simp_all;intro h9;omega)
theorem eY (n k:Int) (w:World) :
    Calls Tryz.prog 163 #[.int .i64 n,.int .i64 k] w fun e w'=>e=.returned (.bool (cT n k))∧w'=w:=by
  go_enter Tryz.func163,Tryz.ntmps163
  go_wp2_with fail
  all_goals
    go_ret;refine ⟨?_,rfl⟩;refine congrArg (fun b=>Ending.returned (.bool b)) ?_;unfold cT;simp_all
theorem rI (x:Ex) (d:EA) (w:World):Calls Tryz.prog 159 #[.agg #[.int .i64 x.kind,.int .i64 x.op,.int .i64 x.line,.int .i64 x.p,.int .i64 x.q,.string x.str,.slice d.a x.args.length d.c,.slice d.fa x.funcs.length d.fc]] w fun e w'=>e=.returned (.bool (jI x.kind))∧Below w.heap.size w w':=by
  obtain ⟨k,hk⟩:∃ k,k=x.kind:=⟨_,rfl⟩
  rw [←hk];clear hk;have hm:jI k=((k==9) || (k==10) || (k==6)):=rfl;have HM:=hI hm;clear hm;cases h9:(k==9) <;> cases h10:(k==10) <;> cases h6:(k==6)
  all_goals
    go_enter Tryz.func159,Tryz.ntmps159
    go_wp2_with fail
    go_ret;refine ⟨by rw [HM.out,h9,h10,h6];rfl,?_⟩;exact bw
theorem ze {P:Prop} (h:P:=by
  go_enter Tryz.func170,Tryz.ntmps170
  go_wp2_with fail
  go_ret;exact ⟨by rw [HB.out];rfl,bw⟩):P:=h
theorem Ja (x:Ex) (d:EA) (w:World) (hat:x.At ak w d) :
    Calls Tryz.prog 170 #[(eV x d)] w fun e w'=>e=.returned (.bool (jV x))∧Below w.heap.size w w':=by
  delta eV
  obtain ⟨-,⟨hl1,hl2,-⟩,hrow,-⟩:=Ex.at_iff.1 hat;have hlen:x.args.length≤9223372036854775807:=by have h9:=hl2.2;unfold LM at h9;omega
  have hb:jV x=match x.args with
    | []=>false
    | y::_=>y.kind != 6:=rfl
  rcases hx:x.args with _|⟨y,r⟩
  · rw [hx] at hb;have HB:=hI hb;clear hb hrow hat;exact ze
  · rw [hx] at hb;have HB:=hI hb;rw [hx] at hl1 hlen hrow;obtain ⟨b,off,h1,h2⟩:=hrow;obtain ⟨ha,-,hlb⟩:=h1 (by simp);obtain ⟨cs,hr,dy,rfl,-⟩:=h2 0 y rfl;have c0:=hr 0 _ rfl;simp only [Nat.zero_mul,Nat.add_zero] at c0;have HX:=hI hx;have hlen':(r.length:Int)+1≤9223372036854775807:=by simp at hlen;omega
    obtain ⟨a,c,fa,fc⟩:=d;subst ha;clear hx hb h1 h2 hr hat hl2 hlen;have hc:(r.length:Int)+1≤c:=by simp at hl1;omega
    exact ze
theorem uf (s:St) (d:SA) (n l r b:Int) (lab:Bool) (w:World) :
    Calls Tryz.prog 132 #[(sV s d),.int .i64 n,.int .i64 l,.int .i64 r,.int .i64 b,.bool lab] w fun e w'=>e=.returned (.bool (bo s n l r b lab))∧Below w.heap.size w w':=by
  delta sV
  have hcb:bo s n l r b lab=(cT s.names.length n && cT s.left.length l && cT s.right.length r && cT s.blocks.length b && (lab || s.label.toList.isEmpty)):=rfl;have HCB:=hI hcb;clear hcb;obtain ⟨b1,h1⟩:∃ b1,cT s.names.length n=b1:=⟨_,rfl⟩
  obtain ⟨b2,h2⟩:∃ b1,cT s.left.length l=b1:=⟨_,rfl⟩
  obtain ⟨b3,h3⟩:∃ b1,cT s.right.length r=b1:=⟨_,rfl⟩
  obtain ⟨b4,h4⟩:∃ b1,cT s.blocks.length b=b1:=⟨_,rfl⟩
  have H1:=hI h1;have H2:=hI h2;have H3:=hI h3;have H4:=hI h4;clear h1 h2 h3 h4;have T1:True:=trivial;have T2:True:=trivial;have T3:True:=trivial;have T4:True:=trivial;cases b1
  · go_enter Tryz.func132,Tryz.ntmps132
    go_wp2_with (go_at_call 163;(with_reducible refine (eY _ _ _).mono ?_);rw [H1.out];rintro e w1 ⟨rfl,rfl⟩)
    go_ret;exact ⟨by rw [HCB.out,H1.out];rfl,bw⟩
  · cases b2
    · go_enter Tryz.func132,Tryz.ntmps132
      go_wp2_with (go_at_call 163;first|(have _t:=T1;(with_reducible refine (eY (s.names.length:Int) n _).mono ?_);rw [H1.out];rintro e w1 ⟨rfl,rfl⟩;clear T1 _t)|(have _t:=T2;(with_reducible refine (eY (s.left.length:Int) l _).mono ?_);rw [H2.out];rintro e w1 ⟨rfl,rfl⟩;clear T2 _t))
      go_ret;exact ⟨by rw [HCB.out,H1.out,H2.out];rfl,bw⟩
    · cases b3
      · go_enter Tryz.func132,Tryz.ntmps132
        go_wp2_with (go_at_call 163;first|(have _t:=T1;(with_reducible refine (eY (s.names.length:Int) n _).mono ?_);rw [H1.out];rintro e w1 ⟨rfl,rfl⟩;clear T1 _t)|(have _t:=T2;(with_reducible refine (eY (s.left.length:Int) l _).mono ?_);rw [H2.out];rintro e w1 ⟨rfl,rfl⟩;clear T2 _t)|(have _t:=T3;(with_reducible refine (eY (s.right.length:Int) r _).mono ?_);rw [H3.out];rintro e w1 ⟨rfl,rfl⟩;clear T3 _t))
        go_ret;exact ⟨by rw [HCB.out,H1.out,H2.out,H3.out];rfl,bw⟩
      · cases b4
        · go_enter Tryz.func132,Tryz.ntmps132
          go_wp2_with (go_at_call 163;first|(have _t:=T1;(with_reducible refine (eY (s.names.length:Int) n _).mono ?_);rw [H1.out];rintro e w1 ⟨rfl,rfl⟩;clear T1 _t)|(have _t:=T2;(with_reducible refine (eY (s.left.length:Int) l _).mono ?_);rw [H2.out];rintro e w1 ⟨rfl,rfl⟩;clear T2 _t)|(have _t:=T3;(with_reducible refine (eY (s.right.length:Int) r _).mono ?_);rw [H3.out];rintro e w1 ⟨rfl,rfl⟩;clear T3 _t)|(have _t:=T4;(with_reducible refine (eY (s.blocks.length:Int) b _).mono ?_);rw [H4.out];rintro e w1 ⟨rfl,rfl⟩;clear T4 _t))
          go_ret;exact ⟨by rw [HCB.out,H1.out,H2.out,H3.out,H4.out];rfl,bw⟩
        · cases lab
          all_goals
            go_enter Tryz.func132,Tryz.ntmps132
            go_wp2_with (go_at_call 163;first|(have _t:=T1;(with_reducible refine (eY (s.names.length:Int) n _).mono ?_);rw [H1.out];rintro e w1 ⟨rfl,rfl⟩;clear T1 _t)|(have _t:=T2;(with_reducible refine (eY (s.left.length:Int) l _).mono ?_);rw [H2.out];rintro e w1 ⟨rfl,rfl⟩;clear T2 _t)|(have _t:=T3;(with_reducible refine (eY (s.right.length:Int) r _).mono ?_);rw [H3.out];rintro e w1 ⟨rfl,rfl⟩;clear T3 _t)|(have _t:=T4;(with_reducible refine (eY (s.blocks.length:Int) b _).mono ?_);rw [H4.out];rintro e w1 ⟨rfl,rfl⟩;clear T4 _t))
            go_ret;refine ⟨?_,bw⟩;rw [HCB.out,H1.out,H2.out,H3.out,H4.out];simp
set_option maxRecDepth 100000 in
theorem Eg (P:ByteArray × Int→Bool) (g:FuncId) (l:List (ByteArray × Int)) (la:Option Addr) (cap:Nat) (w:World) (hcap:l.length≤cap) (hmx:cap≤MX) (hrow:aj ak w 2 ie l la) (hg:∀ xs w,(callFunc g xs).run Tryz.prog w=.ok (.enter g xs) w)
    (hcall:∀ x w',x ∈ l→Below w.heap.size w w'→Calls Tryz.prog g #[.agg #[.string x.1,.int .i64 x.2]] w' fun e w''=>e=.returned (.bool (P x))∧Below w'.heap.size w' w'') :
    Calls Tryz.prog 162 #[.slice la l.length cap,.func (.func g) #[] #[]] w fun e w'=>e=.returned (.int .i64 (iS P l))∧Below w.heap.size w w':=by
  unfold MX at hmx
  go_enter Tryz.func162,Tryz.ntmps162
  go_wp2_with fail
  go_loopg [5,8] l.length (fun gk u v wr=>∃ k:Nat,gk+k=l.length∧v=.int .i64 k∧Below w.heap.size w wr∧dk P l k)
  case atStart=>exact ⟨0,by omega,rfl,Below.refl _ _,fun j x hj=>absurd hj (by omega)⟩
  case round =>
    obtain ⟨k,hk,rfl,hbw,hno⟩:=hrel;have HB:=hI hbw;clear hbw;have HN:=hI hno;clear hno;have HK:=hI hk;by_cases hlt:k<l.length
    · obtain ⟨x,hx⟩:∃ x,l[k]?=some x:=⟨_,KP hlt⟩
      obtain ⟨b,off,h1,h2⟩:=hrow;obtain ⟨rfl,-,hlb⟩:=h1 (by rintro rfl;simp at hlt);obtain ⟨cs,hr,rfl,-⟩:=h2 k x hx;have hr':=(aq HB.out:af ak w wr).range trivial hlb hr;have c0:=hr' 0 _ rfl;have c1:=hr' 1 _ rfl;simp only [Nat.add_zero,Nat.mul_one] at c0;have HC:=hI (hcall x wr (KR hx) HB.out);have HX:=hI hx;clear hx;clear hr hr' h1 h2 hcall hk;cases hp:P x
      · have HP:=hI hp;clear hp
        go_wp2_with ((with_reducible refine HC.out.mono ?_);(rw [HP.out];rintro e w1 ⟨rfl,hb⟩;have HB1:=hI hb;clear hb))
        go_roundg (gk - 1)
        case rel=>exact ⟨k+1,by have:=HK.out;omega,by go_num,thru HB1.out HB.out,HN.out.succ HX.out HP.out⟩
        case measure=>have:=HK.out;omega
      · have HP:=hI hp;clear hp
        go_wp2_with ((with_reducible refine HC.out.mono ?_);(rw [HP.out];rintro e w1 ⟨rfl,hb⟩;have HB1:=hI hb;clear hb))
        go_ret;exact ⟨by rw [qW HN.out HX.out HP.out];rfl,thru HB1.out HB.out⟩
    · have HE:k=l.length:=by omega
      have HE':=hI HE;clear HE;clear hk
      go_wp2_with fail
      go_ret;exact ⟨by rw [qV (by have:=HE'.out;subst this;exact HN.out)];rfl,HB.out⟩
theorem ue (P:ByteArray × Int→Bool) (g:FuncId) (l:List (ByteArray × Int)) (la:Option Addr) (cap:Nat) (w:World) (hcap:l.length≤cap) (hmx:cap≤MX) (hrow:aj ak w 2 ie l la) (hg:∀ xs w,(callFunc g xs).run Tryz.prog w=.ok (.enter g xs) w)
    (hcall:∀ x w',x ∈ l→Below w.heap.size w w'→Calls Tryz.prog g #[.agg #[.string x.1,.int .i64 x.2]] w' fun e w''=>e=.returned (.bool (P x))∧Below w'.heap.size w' w'') :
    Calls Tryz.prog 130 #[.slice la l.length cap,.func (.func g) #[] #[]] w fun e w'=>e=.returned (.bool (l.any P))∧Below w.heap.size w w':=by
  have HC:=hI (Eg P g l la cap w hcap hmx hrow hg hcall);have HA:=hI (qU (P:=P) (l:=l));clear hcall hrow
  go_enter Tryz.func130,Tryz.ntmps130
  go_wp2_with (go_at_call 162;go_loud (refine HC.out.mono ?_;rintro e w1 ⟨rfl,hb⟩))
  go_ret;exact ⟨by rw [←HA.out];rfl,hb⟩
def mH (x:ByteArray × Int):Bool:=decide (x.2<0) || decide (2<x.2)
theorem AG (x:ByteArray × Int) (w:World):Calls Tryz.prog 131 #[.agg #[.string x.1,.int .i64 x.2]] w fun e w'=>e=.returned (.bool (mH x))∧Below w.heap.size w w':=by
  have hm:mH x=(decide (x.2<0) || decide (2<x.2)):=rfl;have HM:=hI hm;clear hm;cases h1:decide (x.2<0) <;> cases h2:decide (2<x.2)
  all_goals
    go_enter Tryz.func131,Tryz.ntmps131
    go_wp2_with fail
    go_ret;exact ⟨by rw [HM.out,h1,h2];rfl,bw⟩
def o4 (x:ByteArray × Int):Bool:=x.2 != 0
theorem Gt (x:ByteArray × Int) (w:World):Calls Tryz.prog 164 #[.agg #[.string x.1,.int .i64 x.2]] w fun e w'=>e=.returned (.bool (o4 x))∧Below w.heap.size w w':=by
  go_enter Tryz.func164,Tryz.ntmps164
  go_wp2_with fail
  go_ret;exact ⟨rfl,bw⟩
def mJ (x:Ex):Bool:=(x.kind != 7) && (x.kind != 8)
theorem AK (x:Ex) (d:EA) (w:World):Calls Tryz.prog 135 #[.agg #[.int .i64 x.kind,.int .i64 x.op,.int .i64 x.line,.int .i64 x.p,.int .i64 x.q,.string x.str,.slice d.a x.args.length d.c,.slice d.fa x.funcs.length d.fc]] w fun e w'=>e=.returned (.bool (mJ x))∧Below w.heap.size w w':=by
  have hm:mJ x=((x.kind != 7) && (x.kind != 8)):=rfl;have HM:=hI hm;clear hm;cases h1:(x.kind != 7) <;> cases h2:(x.kind != 8)
  all_goals
    go_enter Tryz.func135,Tryz.ntmps135
    go_wp2_with fail
    go_ret;exact ⟨by rw [HM.out,h1,h2];rfl,bw⟩
def mI (x:Ex):Bool:=(x.kind != 13) && (x.kind != 14)
theorem AI (x:Ex) (d:EA) (w:World):Calls Tryz.prog 171 #[.agg #[.int .i64 x.kind,.int .i64 x.op,.int .i64 x.line,.int .i64 x.p,.int .i64 x.q,.string x.str,.slice d.a x.args.length d.c,.slice d.fa x.funcs.length d.fc]] w fun e w'=>e=.returned (.bool (mI x))∧Below w.heap.size w w':=by
  have hm:mI x=((x.kind != 13) && (x.kind != 14)):=rfl;have HM:=hI hm;clear hm;cases h1:(x.kind != 13) <;> cases h2:(x.kind != 14)
  all_goals
    go_enter Tryz.func171,Tryz.ntmps171
    go_wp2_with fail
    go_ret;exact ⟨by rw [HM.out,h1,h2];rfl,bw⟩
theorem Co:∀ args w,(callFunc 131 args).run Tryz.prog w=.ok (.enter 131 args) w:=enters_of Tryz.func131 (by kernel_rfl) rfl
theorem Cq:∀ args w,(callFunc 135 args).run Tryz.prog w=.ok (.enter 135 args) w:=enters_of Tryz.func135 (by kernel_rfl) rfl
theorem Cp:∀ args w,(callFunc 171 args).run Tryz.prog w=.ok (.enter 171 args) w:=enters_of Tryz.func171 (by kernel_rfl) rfl
theorem Cx:∀ args w,(callFunc 164 args).run Tryz.prog w=.ok (.enter 164 args) w:=enters_of Tryz.func164 (by kernel_rfl) rfl
theorem od {α:Type} {p q:α→Bool} (h:∀ x,p x = !q x) (l:List α):l.all p = !l.any q:=by
  induction l with
  | nil=>rfl
  | cons x r ih=>simp [ih,h]
theorem xu (l:List (ByteArray × Int)) (la:Option Addr) (cap:Nat) (w:World) (hcap:l.length≤cap) (hmx:cap≤MX) (hrow:aj ak w 2 ie l la) :
    Calls Tryz.prog 133 #[.slice la l.length cap] w fun e w'=>e=.returned (.bool (jO l))∧Below w.heap.size w w':=by
  have he:jO l = !l.any o4:=od (fun x=>by unfold o4;cases h:(x.2==0) <;> simp [h,bne]) l;have HE:=hI he;clear he;have HC:=hI (ue o4 164 l la cap w hcap hmx hrow Cx (fun x w' _ _=>Gt x w'));clear hrow
  go_enter Tryz.func133,Tryz.ntmps133
  go_wp2_with (go_at_call 130;go_loud (refine HC.out.mono ?_;rintro e w1 ⟨rfl,hb⟩))
  go_ret;exact ⟨by rw [HE.out];rfl,hb⟩
