import Derived.Test.YtgncgcfnlbfahaaGreatDoorC1
set_option linter.all false
namespace Go.Proofs.YtgncgcfnlbfahaaGreatDoor
open Go.RowKit
set_option maxHeartbeats 8000000
def fG(l:List UInt8)(p:Int→Bool):Nat:=(l.takeWhile fun c=>p c.toNat).length
theorem Hj(p:Int→Bool):fG [] p=0:=rfl
theorem xt{c:UInt8}{r:List UInt8}{p:Int→Bool}(h:p c.toNat=true):fG (c::r) p=1+fG r p:=by simp[fG,h];omega
theorem xr{c:UInt8}{r:List UInt8}{p:Int→Bool}(h:p c.toNat=false):fG (c::r) p=0:=by simp[fG,h]
theorem tF(s:ByteArray)(k:Nat)(h:k<s.size):s.data.toList.drop k=s[k]::s.data.toList.drop (k+1):=by
 rw[List.drop_eq_getElem_cons (by simpa using h)];rfl
theorem uV(c:UInt8):m8 c.toNat=eL c:=by
 have h:∀n:Fin 256,m8 (n.val:Int)=eL (UInt8.ofNat n.val):=by decide +kernel
 have:=h ⟨c.toNat,c.toNat_lt⟩;simpa using this
theorem IP(c:UInt8):oE c.toNat=eu c:=by
 have h:∀n:Fin 256,oE (n.val:Int)=eu (UInt8.ofNat n.val):=by decide +kernel
 have:=h ⟨c.toNat,c.toNat_lt⟩;simpa using this
theorem Hk(s:ByteArray)(n:Nat)(v:Value)(p:Int→Bool)(w:World)(hn:n≤s.size)(hs:s.size≤MX)(hv:fz w v p):Calls Tryz.prog 147 #[.string s,.int .i64 n,v] w fun e w'=>e=.returned (.int .i64 ((n+fG (s.data.toList.drop n) p:Nat):Int))∧Below w.heap.size w w':=by
 unfold MX at hs;obtain⟨f,cap,rfl,ef,hf⟩:=hv;have HF:=hI hf;clear hf
 go_enter Tryz.func147,Tryz.ntmps147
 go_wp2_with fail
 go_loopg [1] (s.size-n) (fun gk i wr=>∃k:Nat,gk+k=s.size∧i=.int .i64 k∧Below w.heap.size w wr∧n+fG (s.data.toList.drop n) p=k+fG (s.data.toList.drop k) p)
 case atStart=>exact⟨n,by omega,rfl,Below.refl _ _,rfl⟩
 case round =>
  obtain⟨k,hk,rfl,hbw,hno⟩:=hrel;have HB:=hI hbw;clear hbw;have HN:=hI hno;clear hno;have HK:=hI hk;by_cases hlt:k<s.size
  ·have hd:=hI (tF s k hlt);cases hp:p s[k].toNat
   ·have HP:=hI hp;clear hp
    go_wp2_with ((with_reducible refine(HF.1 _ _ (by omega) (by have:=(s[k]).toNat_lt;omega) HB.1).mono ?_);(rw[HP.1];rintro e w1 ⟨rfl,hb⟩;have HB1:=hI hb;clear hb))
    go_ret;exact⟨by rw[HN.1,hd.1,xr HP.1];rfl,thru HB1.1 HB.1⟩
   ·have HP:=hI hp;clear hp
    go_wp2_with ((with_reducible refine(HF.1 _ _ (by omega) (by have:=(s[k]).toNat_lt;omega) HB.1).mono ?_);(rw[HP.1];rintro e w1 ⟨rfl,hb⟩;have HB1:=hI hb;clear hb))
    go_roundg (gk-1)
    case rel=>exact⟨k+1,by have:=HK.1;omega,by go_num,thru HB1.1 HB.1,by rw[HN.1,hd.1,xt HP.1];omega⟩
    case measure=>have:=HK.1;omega
  ·go_wp2_with fail
   go_ret;have hke:k=s.size:=by have:=HK.1;omega
   exact⟨by rw[HN.1,hke,List.drop_of_length_le (by simp),Hj];rfl,HB.1⟩
theorem Hi{l:List UInt8}{p:Int→Bool}:fG l p≤l.length∧(fG l p=l.length↔(l.all fun c=>p c.toNat)=true):=by
 induction l with
 |nil=>simp[fG]
 |cons c r ih =>
  cases h:p c.toNat
  ·rw[xr h];simp[h]
  ·rw[xt h];simp only[List.length_cons,List.all_cons,h,Bool.true_and];exact⟨by omega,by rw[←ih.2];omega⟩
theorem Et(s:ByteArray)(w:World)(hl:s.data.toList=[]):Calls Tryz.prog 121 #[.string s] w fun e w'=>e=.returned (.bool (aV s))∧Below w.heap.size w w':=by
 have hn:aV s=false:=by unfold aV;rw[hl]
 have HN:=hI hn;clear hn;have hz:s.toList=[]:=by rw[ByteArray.toList_eq];exact hl
 have hzz:s.toList.isEmpty=true:=by rw[hz];rfl
 clear hl
 go_enter Tryz.func121,Tryz.ntmps121
 go_wp2_with fail
 refine wp_region_any (by kernel_rfl) ?_
 try change wpAny _ _ _ _ _ _ _ (World.drew _)
 refine dA 0 fun K hK=>?_
 go_simp
 refine hK _ _ ?_;clear hK K;refine dA 1 fun K hK=>?_
 go_simp
 refine hK _ _ ?_;clear hK K;refine dA 2 fun K hK=>?_
 go_simp
 refine hK _ _ ?_;clear hK K;refine tA 3 ?_;refine tA 4 ?_;refine tA 5 ?_;refine dA 6 fun K hK=>?_
 go_simp
 refine hK _ _ ?_;clear hK K;refine dA 7 fun K hK=>?_
 go_simp
 refine hK _ _ ?_;clear hK K;refine tA 8 ?_;refine tA 9 ?_;refine dA 10 fun K hK=>?_
 go_simp
 refine hK _ _ ?_;clear hK K;refine dA 11 fun K hK=>?_
 go_simp
 refine hK _ _ ?_;clear hK K;refine tA 12 ?_;refine tA 13 ?_;refine tA 14 ?_;refine tA 15 ?_;refine tA 16 ?_;refine dA 17 fun K hK=>?_
 go_simp
 refine hK _ _ ?_;clear hK K;refine wpAny_done (by kernel_rfl) ?_ _
 go_wp2_with fail
 go_ret;exact⟨by rw[HN.1];rfl,bw⟩
theorem jV(s:ByteArray)(w:World)(hs:s.size≤MX):Calls Tryz.prog 121 #[.string s] w fun e w'=>e=.returned (.bool (aV s))∧Below w.heap.size w w':=by
 have hn:aV s=match s.data.toList with
  |[]=>false
  |c::r=>decide (s.size≤40)&&!gR s&&eL c&&(c::r).all eu:=rfl
 unfold MX at hs;rcases hl:s.data.toList with _|⟨c,r⟩
 ·exact Et s w hl
 ·rw[hl]at hn;have hsz:s.size=r.length+1:=by have:=congrArg List.length hl;simpa using this
  have hz:s.toList≠[]:=by rw[ByteArray.toList_eq,hl];simp
  have hzz:s.toList.isEmpty=false:=by cases h:s.toList with
   |nil=>exact absurd h hz
   |cons a b=>rfl
  have h0:0<s.size:=by omega
  have hc0:s[0]=c:=by
   have:=tF s 0 h0;rw[List.drop_zero,hl]at this;exact(List.cons.inj this).1.symm
  have HC0:=hI hc0;clear hc0;have HL:=hI hl;clear hl;have HS:=hI hsz;clear hsz;have HN:=hI hn;clear hn;by_cases h40:s.size≤40
  ·have d40:decide ((40:Int)<(s.size:Int))=false:=by simp;omega
   cases hk:gR s
   ·have HK:=hI hk;clear hk;cases hi:eL c
    ·have HI:=hI hi;clear hi
     go_enter Tryz.func121,Tryz.ntmps121
     go_wp2_with fail
     refine wp_region_any (by kernel_rfl) ?_
     try change wpAny _ _ _ _ _ _ _ (World.drew _)
     refine dA 0 fun K hK=>?_
     go_simp
     refine hK _ _ ?_;clear hK K;refine dA 1 fun K hK=>?_
     go_simp
     refine hK _ _ ?_;clear hK K;refine dA 2 fun K hK=>?_
     go_simp
     refine hK _ _ ?_;clear hK K;refine dA 3 fun K hK=>?_
     go_simp
     refine hK _ _ ?_;clear hK K;refine dA 4 fun K hK=>?_
     go_simp
     refine hK _ _ ?_;clear hK K;refine dA 5 fun K hK=>?_
     go_simp
     refine hK _ _ ?_;clear hK K;refine dA 6 fun K hK=>?_
     go_simp
     refine hK _ _ ?_;clear hK K;refine dA 7 fun K hK=>?_
     go_simp
     refine hK _ _ ?_;clear hK K;refine dA 8 fun K hK=>?_
     go_simp
     refine hK _ _ ?_;clear hK K;refine dA 9 fun K hK=>?_
     go_simp
     go_wp2_with (go_at_call 167;refine(qn _ _).mono ?_;rw[HK.1];rintro e w1 ⟨rfl,rfl⟩)
     refine dA 10 fun K hK=>?_
     go_simp
     refine hK _ _ ?_;clear hK K;refine dA 11 fun K hK=>?_
     go_simp
     refine hK _ _ ?_;clear hK K;refine wpAny_take (i:=13) (v:=.string s) rfl (by kernel_rfl) (by kernel_rfl) (by kernel_rfl) (fun _ _ _ h=>h) (Or.inl ⟨by rfl,fun _=>rfl⟩) ?_;refine wpAny_take (i:=14) (v:=.int .u8 (s[0].toNat:Int)) rfl (by kernel_rfl) (by kernel_rfl) (by kernel_rfl) (fun _ _ _ h=>h) (Or.inl ⟨by rfl,fun w=>by simp[go_sem,h0]⟩) ?_;refine dA 12 fun K hK=>?_
     go_simp
     go_wp2_with (go_at_call 149;refine(qf _).mono ?_;rintro e w1 ⟨v,rfl,hv,hb1⟩;obtain⟨f,cap,rfl,ef,hf⟩:=hv;have HF:=hI hf;clear hf)
     refine dA 15 fun K hK=>?_
     go_simp
     go_wp2_with ((with_reducible refine(HF.1 _ _ (by omega) (by have:=(s[0]).toNat_lt;omega) (Below.refl _ _)).mono ?_);(rw[uV,HC0.1,HI.1];rintro e w2 ⟨rfl,hb2⟩))
     refine dA 16 fun K hK=>?_
     go_simp
     refine hK _ _ ?_;clear hK K;refine dA 17 fun K hK=>?_
     go_simp
     refine hK _ _ ?_;clear hK K;refine wpAny_done (by kernel_rfl) ?_ _
     go_wp2_with fail
     go_ret;exact⟨by rw[HN.1,HI.1,Bool.and_false,Bool.false_and];rfl,bw⟩
    ·have HI:=hI hi;clear hi
     go_enter Tryz.func121,Tryz.ntmps121
     go_wp2_with fail
     refine wp_region_any (by kernel_rfl) ?_
     try change wpAny _ _ _ _ _ _ _ (World.drew _)
     refine dA 0 fun K hK=>?_
     go_simp
     refine hK _ _ ?_;clear hK K;refine dA 1 fun K hK=>?_
     go_simp
     refine hK _ _ ?_;clear hK K;refine dA 2 fun K hK=>?_
     go_simp
     refine hK _ _ ?_;clear hK K;refine dA 3 fun K hK=>?_
     go_simp
     refine hK _ _ ?_;clear hK K;refine dA 4 fun K hK=>?_
     go_simp
     refine hK _ _ ?_;clear hK K;refine dA 5 fun K hK=>?_
     go_simp
     refine hK _ _ ?_;clear hK K;refine dA 6 fun K hK=>?_
     go_simp
     refine hK _ _ ?_;clear hK K;refine dA 7 fun K hK=>?_
     go_simp
     refine hK _ _ ?_;clear hK K;refine dA 8 fun K hK=>?_
     go_simp
     refine hK _ _ ?_;clear hK K;refine dA 9 fun K hK=>?_
     go_simp
     go_wp2_with (go_at_call 167;refine(qn _ _).mono ?_;rw[HK.1];rintro e w1 ⟨rfl,rfl⟩)
     refine dA 10 fun K hK=>?_
     go_simp
     refine hK _ _ ?_;clear hK K;refine dA 11 fun K hK=>?_
     go_simp
     refine hK _ _ ?_;clear hK K;refine wpAny_take (i:=13) (v:=.string s) rfl (by kernel_rfl) (by kernel_rfl) (by kernel_rfl) (fun _ _ _ h=>h) (Or.inl ⟨by rfl,fun _=>rfl⟩) ?_;refine wpAny_take (i:=14) (v:=.int .u8 (s[0].toNat:Int)) rfl (by kernel_rfl) (by kernel_rfl) (by kernel_rfl) (fun _ _ _ h=>h) (Or.inl ⟨by rfl,fun w=>by simp[go_sem,h0]⟩) ?_;refine dA 12 fun K hK=>?_
     go_simp
     go_wp2_with (go_at_call 149;refine(qf _).mono ?_;rintro e w1 ⟨v,rfl,hv,hb1⟩;obtain⟨f,cap,rfl,ef,hf⟩:=hv;have HF:=hI hf;clear hf)
     refine dA 15 fun K hK=>?_
     go_simp
     go_wp2_with ((with_reducible refine(HF.1 _ _ (by omega) (by have:=(s[0]).toNat_lt;omega) (Below.refl _ _)).mono ?_);(rw[uV,HC0.1,HI.1];rintro e w2 ⟨rfl,hb2⟩))
     refine dA 16 fun K hK=>?_
     go_simp
     refine hK _ _ ?_;clear hK K;refine dA 17 fun K hK=>?_
     go_simp
     refine hK _ _ ?_;clear hK K;refine wpAny_done (by kernel_rfl) ?_ _
     go_wp2_with (first|(go_at_call 168;refine(IN _).mono ?_;rintro e w5 ⟨v5,rfl,hv5,hb5⟩;have HV:=hI hv5;obtain⟨f5,c5,rfl,-,-⟩:=hv5)|(go_at_call 147;refine(Hk s 0 _ _ _ (Nat.zero_le _) (by unfold MX;omega) HV.1).mono ?_;rw[List.drop_zero,Nat.zero_add];rintro e w6 ⟨rfl,hb6⟩))
     go_ret;refine⟨?_,bw⟩;rw[HN.1,HI.1,HK.1,decide_eq_true h40];refine congrArg (fun b=>Ending.returned (.bool b)) ?_;have hall:=(Hi (l:=s.data.toList) (p:=oE)).2;rw[HL.1]at hall;simp only[IP]at hall;have hle:(c::r).length=s.size:=by rw[HS.1];rfl
     rw[hle]at hall;rw[HL.1];cases ha:(c::r).all eu
     ·simp[ha]at hall⊢;omega
     ·simp[ha]at hall⊢;omega
   ·have HK:=hI hk;clear hk
    go_enter Tryz.func121,Tryz.ntmps121
    go_wp2_with fail
    refine wp_region_any (by kernel_rfl) ?_
    try change wpAny _ _ _ _ _ _ _ (World.drew _)
    refine dA 0 fun K hK=>?_
    go_simp
    refine hK _ _ ?_;clear hK K;refine dA 1 fun K hK=>?_
    go_simp
    refine hK _ _ ?_;clear hK K;refine dA 2 fun K hK=>?_
    go_simp
    refine hK _ _ ?_;clear hK K;refine dA 3 fun K hK=>?_
    go_simp
    refine hK _ _ ?_;clear hK K;refine dA 4 fun K hK=>?_
    go_simp
    refine hK _ _ ?_;clear hK K;refine dA 5 fun K hK=>?_
    go_simp
    refine hK _ _ ?_;clear hK K;refine dA 6 fun K hK=>?_
    go_simp
    refine hK _ _ ?_;clear hK K;refine dA 7 fun K hK=>?_
    go_simp
    refine hK _ _ ?_;clear hK K;refine dA 8 fun K hK=>?_
    go_simp
    refine hK _ _ ?_;clear hK K;refine dA 9 fun K hK=>?_
    go_simp
    go_wp2_with (go_at_call 167;refine(qn _ _).mono ?_;rw[HK.1];rintro e w1 ⟨rfl,rfl⟩)
    refine dA 10 fun K hK=>?_
    go_simp
    refine hK _ _ ?_;clear hK K;refine dA 11 fun K hK=>?_
    go_simp
    refine hK _ _ ?_;clear hK K;refine tA 12 ?_;refine tA 13 ?_;refine tA 14 ?_;refine tA 15 ?_;refine tA 16 ?_;refine dA 17 fun K hK=>?_
    go_simp
    refine hK _ _ ?_;clear hK K;refine wpAny_done (by kernel_rfl) ?_ _
    go_wp2_with fail
    go_ret;exact⟨by rw[HN.1,HK.1,Bool.not_true,Bool.and_false,Bool.false_and,Bool.false_and];rfl,bw⟩
  ·have d40:decide ((40:Int)<(s.size:Int))=true:=by simp;omega
   go_enter Tryz.func121,Tryz.ntmps121
   go_wp2_with fail
   refine wp_region_any (by kernel_rfl) ?_
   try change wpAny _ _ _ _ _ _ _ (World.drew _)
   refine dA 0 fun K hK=>?_
   go_simp
   refine hK _ _ ?_;clear hK K;refine dA 1 fun K hK=>?_
   go_simp
   refine hK _ _ ?_;clear hK K;refine dA 2 fun K hK=>?_
   go_simp
   refine hK _ _ ?_;clear hK K;refine dA 3 fun K hK=>?_
   go_simp
   refine hK _ _ ?_;clear hK K;refine dA 4 fun K hK=>?_
   go_simp
   refine hK _ _ ?_;clear hK K;refine dA 5 fun K hK=>?_
   go_simp
   refine hK _ _ ?_;clear hK K;refine dA 6 fun K hK=>?_
   go_simp
   refine hK _ _ ?_;clear hK K;refine dA 7 fun K hK=>?_
   go_simp
   refine hK _ _ ?_;clear hK K;refine tA 8 ?_;refine tA 9 ?_;refine dA 10 fun K hK=>?_
   go_simp
   refine hK _ _ ?_;clear hK K;refine dA 11 fun K hK=>?_
   go_simp
   refine hK _ _ ?_;clear hK K;refine tA 12 ?_;refine tA 13 ?_;refine tA 14 ?_;refine tA 15 ?_;refine tA 16 ?_;refine dA 17 fun K hK=>?_
   go_simp
   refine hK _ _ ?_;clear hK K;refine wpAny_done (by kernel_rfl) ?_ _
   go_wp2_with fail
   go_ret;exact⟨by rw[HN.1,decide_eq_false h40,Bool.false_and,Bool.false_and,Bool.false_and];rfl,bw⟩
def fS(n:Int):List PanicEntry:=[{v:=.iface 120 (.agg #[.int .i64 n]),recovered:=false}]
theorem Ch(n:Int)(w:World):Calls Tryz.prog 160 #[.int .i64 n] w fun e w'=>e=.panicked (fS n)∧w'=w:=by
 go_enter Tryz.func160,Tryz.ntmps160
 go_wp2_with fail
 exact⟨rfl,rfl,rfl⟩
theorem EC(n:Int)(w:World):Calls Tryz.prog 119 #[.bool true,.int .i64 n] w fun e w'=>e=.returned (.tuple #[])∧w'=w:=by
 go_enter Tryz.func119,Tryz.ntmps119
 go_wp2_with fail
 go_end0;exact⟨rfl,rfl⟩
theorem Ez(n:Int)(w:World):Calls Tryz.prog 119 #[.bool false,.int .i64 n] w fun e w'=>e=.panicked (fS n)∧w'=w:=by
 go_enter Tryz.func119,Tryz.ntmps119
 go_wp2_with (go_at_call 160;refine(Ch _ _).mono ?_;rintro e w1 ⟨rfl,rfl⟩)
 exact⟨rfl,rfl,rfl⟩
theorem uG(x:Ex)(d:EA)(op num str:Bool)(n:Int)(w:World)(hat:x.At ac w d)(hn:bF n):Calls Tryz.prog 209 #[(eV x d),.bool op,.bool num,.bool str,.int .i64 n] w fun e w'=>e=.returned (.bool (az x op num str n))∧Below w.heap.size w w':=by
 delta eV
 go_enter Tryz.func209,Tryz.ntmps209
 go_wp2_with fail
 all_goals
  go_ret;refine⟨?_,bw⟩;clear hat hn
  first
  |(refine congrArg (fun b=>Ending.returned (.bool b)) ?_;unfold az;simp_all;done)
  |(refine congrArg (fun b=>Ending.returned (.bool b)) ?_;unfold az;simp_all;intro h9;omega)
theorem eE(n k:Int)(w:World):Calls Tryz.prog 204 #[.int .i64 n,.int .i64 k] w fun e w'=>e=.returned (.bool (aD n k))∧w'=w:=by
 go_enter Tryz.func204,Tryz.ntmps204
 go_wp2_with fail
 all_goals
  go_ret;refine⟨?_,rfl⟩;refine congrArg (fun b=>Ending.returned (.bool b)) ?_;unfold aD;simp_all
theorem Ed(x:Ex)(d:EA)(w:World):Calls Tryz.prog 200 #[.agg #[.int .i64 x.kind,.int .i64 x.op,.int .i64 x.line,.int .i64 x.p,.int .i64 x.q,.string x.str,.slice d.a x.args.length d.c,.slice d.fa x.funcs.length d.fc]] w fun e w'=>e=.returned (.bool (jm x.kind))∧Below w.heap.size w w':=by
 obtain⟨k,hk⟩:=nM x.kind
 rw[←hk];clear hk;have hm:jm k=((k==9)||(k==10)||(k==6)):=rfl;have HM:=hI hm;clear hm;cases h9:(k==9)<;>cases h10:(k==10)<;>cases h6:(k==6)
 all_goals
  go_enter Tryz.func200,Tryz.ntmps200
  go_wp2_with fail
  go_ret;refine⟨by rw[HM.1,h9,h10,h6];rfl,?_⟩;exact bw
theorem yM{P:Prop}(h:P:=by
 go_enter Tryz.func211,Tryz.ntmps211
 go_wp2_with fail
 go_ret;exact⟨by rw[HB.1];rfl,bw⟩):P:=h
theorem Ic(x:Ex)(d:EA)(w:World)(hat:x.At ac w d):Calls Tryz.prog 211 #[(eV x d)] w fun e w'=>e=.returned (.bool (ft x))∧Below w.heap.size w w':=by
 delta eV
 obtain⟨-,⟨hl1,hl2,-⟩,hrow,-⟩:=Ex.at_iff.1 hat;have hlen:x.args.length≤9223372036854775807:=by have h9:=hl2.2;unfold LM at h9;omega
 have hb:ft x=match x.args with
  |[]=>false
  |y::_=>y.kind != 6:=rfl
 rcases hx:x.args with _|⟨y,r⟩
 ·rw[hx]at hb;have HB:=hI hb;clear hb hrow hat;exact yM
 ·rw[hx]at hb;have HB:=hI hb;rw[hx]at hl1 hlen hrow;obtain⟨b,off,h1,h2⟩:=hrow;obtain⟨ha,-,hlb⟩:=h1 (by simp);obtain⟨cs,hr,dy,rfl,-⟩:=h2 0 y rfl;have c0:=hr 0 _ rfl;simp only[Nat.zero_mul,Nat.add_zero]at c0;have HX:=hI hx;have hlen':(r.length:Int)+1≤9223372036854775807:=by simp at hlen;omega
  obtain⟨a,c,fa,fc⟩:=d;subst ha;clear hx hb h1 h2 hr hat hl2 hlen;have hc:(r.length:Int)+1≤c:=by simp at hl1;omega
  exact yM
theorem th(s:St)(d:SA)(n l r b:Int)(lab:Bool)(w:World):Calls Tryz.prog 163 #[(sV s d),.int .i64 n,.int .i64 l,.int .i64 r,.int .i64 b,.bool lab] w fun e w'=>e=.returned (.bool (ap s n l r b lab))∧Below w.heap.size w w':=by
 delta sV
 have hcb:ap s n l r b lab=(aD s.names.length n&&aD s.left.length l&&aD s.right.length r&&aD s.blocks.length b&&(lab||s.label.toList.isEmpty)):=rfl;have HCB:=hI hcb;clear hcb;obtain⟨b1,h1⟩:∃b1,aD s.names.length n=b1:=⟨_,rfl⟩
 obtain⟨b2,h2⟩:∃b1,aD s.left.length l=b1:=⟨_,rfl⟩
 obtain⟨b3,h3⟩:∃b1,aD s.right.length r=b1:=⟨_,rfl⟩
 obtain⟨b4,h4⟩:∃b1,aD s.blocks.length b=b1:=⟨_,rfl⟩
 have H1:=hI h1;have H2:=hI h2;have H3:=hI h3;have H4:=hI h4;clear h1 h2 h3 h4;have T1:True:=trivial;have T2:True:=trivial;have T3:True:=trivial;have T4:True:=trivial;cases b1
 ·go_enter Tryz.func163,Tryz.ntmps163
  go_wp2_with (go_at_call 204;(with_reducible refine(eE _ _ _).mono ?_);rw[H1.1];rintro e w1 ⟨rfl,rfl⟩)
  go_ret;exact⟨by rw[HCB.1,H1.1];rfl,bw⟩
 ·cases b2
  ·go_enter Tryz.func163,Tryz.ntmps163
   go_wp2_with (go_at_call 204;first|(have _t:=T1;(with_reducible refine(eE (s.names.length:Int) n _).mono ?_);rw[H1.1];rintro e w1 ⟨rfl,rfl⟩;clear T1 _t)|(have _t:=T2;(with_reducible refine(eE (s.left.length:Int) l _).mono ?_);rw[H2.1];rintro e w1 ⟨rfl,rfl⟩;clear T2 _t))
   go_ret;exact⟨by rw[HCB.1,H1.1,H2.1];rfl,bw⟩
  ·cases b3
   ·go_enter Tryz.func163,Tryz.ntmps163
    go_wp2_with (go_at_call 204;first|(have _t:=T1;(with_reducible refine(eE (s.names.length:Int) n _).mono ?_);rw[H1.1];rintro e w1 ⟨rfl,rfl⟩;clear T1 _t)|(have _t:=T2;(with_reducible refine(eE (s.left.length:Int) l _).mono ?_);rw[H2.1];rintro e w1 ⟨rfl,rfl⟩;clear T2 _t)|(have _t:=T3;(with_reducible refine(eE (s.right.length:Int) r _).mono ?_);rw[H3.1];rintro e w1 ⟨rfl,rfl⟩;clear T3 _t))
    go_ret;exact⟨by rw[HCB.1,H1.1,H2.1,H3.1];rfl,bw⟩
   ·cases b4
    ·go_enter Tryz.func163,Tryz.ntmps163
     go_wp2_with (go_at_call 204;first|(have _t:=T1;(with_reducible refine(eE (s.names.length:Int) n _).mono ?_);rw[H1.1];rintro e w1 ⟨rfl,rfl⟩;clear T1 _t)|(have _t:=T2;(with_reducible refine(eE (s.left.length:Int) l _).mono ?_);rw[H2.1];rintro e w1 ⟨rfl,rfl⟩;clear T2 _t)|(have _t:=T3;(with_reducible refine(eE (s.right.length:Int) r _).mono ?_);rw[H3.1];rintro e w1 ⟨rfl,rfl⟩;clear T3 _t)|(have _t:=T4;(with_reducible refine(eE (s.blocks.length:Int) b _).mono ?_);rw[H4.1];rintro e w1 ⟨rfl,rfl⟩;clear T4 _t))
     go_ret;exact⟨by rw[HCB.1,H1.1,H2.1,H3.1,H4.1];rfl,bw⟩
    ·cases lab
     all_goals
      go_enter Tryz.func163,Tryz.ntmps163
      go_wp2_with (go_at_call 204;first|(have _t:=T1;(with_reducible refine(eE (s.names.length:Int) n _).mono ?_);rw[H1.1];rintro e w1 ⟨rfl,rfl⟩;clear T1 _t)|(have _t:=T2;(with_reducible refine(eE (s.left.length:Int) l _).mono ?_);rw[H2.1];rintro e w1 ⟨rfl,rfl⟩;clear T2 _t)|(have _t:=T3;(with_reducible refine(eE (s.right.length:Int) r _).mono ?_);rw[H3.1];rintro e w1 ⟨rfl,rfl⟩;clear T3 _t)|(have _t:=T4;(with_reducible refine(eE (s.blocks.length:Int) b _).mono ?_);rw[H4.1];rintro e w1 ⟨rfl,rfl⟩;clear T4 _t))
      go_ret;refine⟨?_,bw⟩;rw[HCB.1,H1.1,H2.1,H3.1,H4.1];simp
set_option maxRecDepth 100000 in
theorem Dk(P:ByteArray×Int→Bool)(g:FuncId)(l:List (ByteArray×Int))(la:Option Addr)(cap:Nat)(w:World)(hcap:l.length≤cap)(hmx:cap≤MX)(hrow:ag ac w 2 gy l la)(hg:∀xs w,(callFunc g xs).run Tryz.prog w=.ok (.enter g xs) w)(hcall:∀x w',x∈l→Below w.heap.size w w'→Calls Tryz.prog g #[.agg #[.string x.1,.int .i64 x.2]] w' fun e w''=>e=.returned (.bool (P x))∧Below w'.heap.size w' w''):Calls Tryz.prog 203 #[.slice la l.length cap,.func (.func g) #[] #[]] w fun e w'=>e=.returned (.int .i64 (gQ P l))∧Below w.heap.size w w':=by
 unfold MX at hmx
 go_enter Tryz.func203,Tryz.ntmps203
 go_wp2_with fail
 go_loopg [5,8] l.length (fun gk u v wr=>∃k:Nat,gk+k=l.length∧v=.int .i64 k∧Below w.heap.size w wr∧bL P l k)
 case atStart=>exact⟨0,by omega,rfl,Below.refl _ _,fun j x hj=>absurd hj (by omega)⟩
 case round =>
  obtain⟨k,hk,rfl,hbw,hno⟩:=hrel;have HB:=hI hbw;clear hbw;have HN:=hI hno;clear hno;have HK:=hI hk;by_cases hlt:k<l.length
  ·obtain⟨x,hx⟩:∃x,l[k]?=some x:=⟨_,I1 hlt⟩
   obtain⟨b,off,h1,h2⟩:=hrow;obtain⟨rfl,-,hlb⟩:=h1 (by rintro rfl;simp at hlt);obtain⟨cs,hr,rfl,-⟩:=h2 k x hx;have hr':=(af HB.1:aj ac w wr).range trivial hlb hr;have c0:=hr' 0 _ rfl;have c1:=hr' 1 _ rfl;simp only[Nat.add_zero,Nat.mul_one]at c0;have HC:=hI (hcall x wr (I3 hx) HB.1);have HX:=hI hx;clear hx;clear hr hr' h1 h2 hcall hk;cases hp:P x
   ·have HP:=hI hp;clear hp
    go_wp2_with ((with_reducible refine HC.1.mono ?_);(rw[HP.1];rintro e w1 ⟨rfl,hb⟩;have HB1:=hI hb;clear hb))
    go_roundg (gk-1)
    case rel=>exact⟨k+1,by have:=HK.1;omega,by go_num,thru HB1.1 HB.1,HN.1.succ HX.1 HP.1⟩
    case measure=>have:=HK.1;omega
   ·have HP:=hI hp;clear hp
    go_wp2_with ((with_reducible refine HC.1.mono ?_);(rw[HP.1];rintro e w1 ⟨rfl,hb⟩;have HB1:=hI hb;clear hb))
    go_ret;exact⟨by rw[qd HN.1 HX.1 HP.1];rfl,thru HB1.1 HB.1⟩
  ·have HE:k=l.length:=by omega
   have HE':=hI HE;clear HE;clear hk
   go_wp2_with fail
   go_ret;exact⟨by rw[qb (by have:=HE'.1;subst this;exact HN.1)];rfl,HB.1⟩
theorem tf(P:ByteArray×Int→Bool)(g:FuncId)(l:List (ByteArray×Int))(la:Option Addr)(cap:Nat)(w:World)(hcap:l.length≤cap)(hmx:cap≤MX)(hrow:ag ac w 2 gy l la)(hg:∀xs w,(callFunc g xs).run Tryz.prog w=.ok (.enter g xs) w)(hcall:∀x w',x∈l→Below w.heap.size w w'→Calls Tryz.prog g #[.agg #[.string x.1,.int .i64 x.2]] w' fun e w''=>e=.returned (.bool (P x))∧Below w'.heap.size w' w''):Calls Tryz.prog 161 #[.slice la l.length cap,.func (.func g) #[] #[]] w fun e w'=>e=.returned (.bool (l.any P))∧Below w.heap.size w w':=by
 have HC:=hI (Dk P g l la cap w hcap hmx hrow hg hcall);have HA:=hI (qa (P:=P) (l:=l));clear hcall hrow
 go_enter Tryz.func161,Tryz.ntmps161
 go_wp2_with (go_at_call 203;go_loud (refine HC.1.mono ?_;rintro e w1 ⟨rfl,hb⟩))
 go_ret;exact⟨by rw[←HA.1];rfl,hb⟩
def eA(x:ByteArray×Int):Bool:=decide (x.2<0)||decide (2<x.2)
theorem Ae(x:ByteArray×Int)(w:World):Calls Tryz.prog 162 #[.agg #[.string x.1,.int .i64 x.2]] w fun e w'=>e=.returned (.bool (eA x))∧Below w.heap.size w w':=by
 have hm:eA x=(decide (x.2<0)||decide (2<x.2)):=rfl;have HM:=hI hm;clear hm;cases h1:decide (x.2<0)<;>cases h2:decide (2<x.2)
 all_goals
  go_enter Tryz.func162,Tryz.ntmps162
  go_wp2_with fail
  go_ret;exact⟨by rw[HM.1,h1,h2];rfl,bw⟩
def gY(x:ByteArray×Int):Bool:=x.2 != 0
theorem EG(x:ByteArray×Int)(w:World):Calls Tryz.prog 205 #[.agg #[.string x.1,.int .i64 x.2]] w fun e w'=>e=.returned (.bool (gY x))∧Below w.heap.size w w':=by
 go_enter Tryz.func205,Tryz.ntmps205
 go_wp2_with fail
 go_ret;exact⟨rfl,bw⟩
def bS(x:Ex):Bool:=(x.kind != 7)&&(x.kind != 8)
theorem Ai(x:Ex)(d:EA)(w:World):Calls Tryz.prog 166 #[.agg #[.int .i64 x.kind,.int .i64 x.op,.int .i64 x.line,.int .i64 x.p,.int .i64 x.q,.string x.str,.slice d.a x.args.length d.c,.slice d.fa x.funcs.length d.fc]] w fun e w'=>e=.returned (.bool (bS x))∧Below w.heap.size w w':=by
 have hm:bS x=((x.kind != 7)&&(x.kind != 8)):=rfl;have HM:=hI hm;clear hm;cases h1:(x.kind != 7)<;>cases h2:(x.kind != 8)
 all_goals
  go_enter Tryz.func166,Tryz.ntmps166
  go_wp2_with fail
  go_ret;exact⟨by rw[HM.1,h1,h2];rfl,bw⟩
def ep(x:Ex):Bool:=(x.kind != 13)&&(x.kind != 14)
theorem Ag(x:Ex)(d:EA)(w:World):Calls Tryz.prog 212 #[.agg #[.int .i64 x.kind,.int .i64 x.op,.int .i64 x.line,.int .i64 x.p,.int .i64 x.q,.string x.str,.slice d.a x.args.length d.c,.slice d.fa x.funcs.length d.fc]] w fun e w'=>e=.returned (.bool (ep x))∧Below w.heap.size w w':=by
 have hm:ep x=((x.kind != 13)&&(x.kind != 14)):=rfl;have HM:=hI hm;clear hm;cases h1:(x.kind != 13)<;>cases h2:(x.kind != 14)
 all_goals
  go_enter Tryz.func212,Tryz.ntmps212
  go_wp2_with fail
  go_ret;exact⟨by rw[HM.1,h1,h2];rfl,bw⟩
theorem BD:∀args w,(callFunc 162 args).run Tryz.prog w=.ok (.enter 162 args) w:=enters_of Tryz.func162 (by kernel_rfl) rfl
theorem BF:∀args w,(callFunc 166 args).run Tryz.prog w=.ok (.enter 166 args) w:=enters_of Tryz.func166 (by kernel_rfl) rfl
theorem BE:∀args w,(callFunc 212 args).run Tryz.prog w=.ok (.enter 212 args) w:=enters_of Tryz.func212 (by kernel_rfl) rfl
theorem BN:∀args w,(callFunc 205 args).run Tryz.prog w=.ok (.enter 205 args) w:=enters_of Tryz.func205 (by kernel_rfl) rfl
theorem iw{α:Type}{p q:α→Bool}(h:∀x,p x=!q x)(l:List α):l.all p=!l.any q:=by
 induction l with
 |nil=>rfl
 |cons x r ih=>simp[ih,h]
theorem wD(l:List (ByteArray×Int))(la:Option Addr)(cap:Nat)(w:World)(hcap:l.length≤cap)(hmx:cap≤MX)(hrow:ag ac w 2 gy l la):Calls Tryz.prog 164 #[.slice la l.length cap] w fun e w'=>e=.returned (.bool (eP l))∧Below w.heap.size w w':=by
 have he:eP l=!l.any gY:=iw (fun x=>by unfold gY;cases h:(x.2==0)<;>simp[h,bne]) l;have HE:=hI he;clear he;have HC:=hI (tf gY 205 l la cap w hcap hmx hrow BN (fun x w' _ _=>EG x w'));clear hrow
 go_enter Tryz.func164,Tryz.ntmps164
 go_wp2_with (go_at_call 161;go_loud (refine HC.1.mono ?_;rintro e w1 ⟨rfl,hb⟩))
 go_ret;exact⟨by rw[HE.1];rfl,hb⟩
