/- printer.Expr; the chapter's examples as plain data. -/
import Derived.Test.YtdmdhopfgnlnoaaGreatDoorPR
import Derived.Test.YtdmdhopfgnlnoaaGreatDoorJ0
namespace Go.Proofs.YtdmdhopfgnlnoaaGreatDoor
open Go.RowKit
set_option linter.unusedVariables false
set_option linter.unusedSimpArgs false
set_option maxHeartbeats 4000000
set_option maxRecDepth 100000
theorem Qq:QO 0:=by unfold QO;omega
theorem qt (w:World) (cs:Array Value) (t:TypeId) {b:Nat} (hb:b=w.heap.size):(w.alloc (.cells cs t)).rangeAt b 0 cs.toList:=by
  subst hb;intro j v hv;rw [Nat.zero_add,Za (heap_alloc_new w _)];simpa using hv
theorem keepA {w:World} (o:Obj):ZA Ze w (w.alloc o):=Zb (Zj (Below.refl _ _) o)
theorem leaf_at {w:World} {F:Nat→Prop} {k p q:Int} (s:ByteArray) (hs:s.size≤MX) (hk:QO k) (hp:QO p) (hq:QO q):(Ex.mk k 0 0 p q s [] []).At F w ⟨none,0,none,0⟩ :=
  Ex.at_iff.2 ⟨⟨hk,Qq,Qq,hp,hq,hs⟩,⟨by simp [Ex.args],⟨by simp,by simp [Ex.args]⟩,by simp [Ex.funcs],by simp,by simp [Ex.funcs]⟩,Rows.nil _,Rows.nil _⟩
theorem pair_at {w:World} {x y:Ex} {dx dy:EA} {k o:Int} {s:ByteArray} (hk:QO k) (ho:QO o) (hs:s.size≤MX) (hx:x.At Ze w dx) (hy:y.At Ze w dy) :
    (Ex.mk k o 0 0 0 s [x,y] []).At Ze (w.alloc (.cells #[.int .i64 x.kind,.int .i64 x.op,.int .i64 x.line,.int .i64 x.p,.int .i64 x.q,.string x.str,.slice dx.a x.args.length dx.c,.slice dx.fa x.funcs.length dx.fc,.int .i64 y.kind,.int .i64 y.op,.int .i64 y.line,.int .i64 y.p,.int .i64 y.q,.string y.str,.slice dy.a y.args.length dy.c,.slice dy.fa y.funcs.length dy.fc] 37)) ⟨some ⟨w.heap.size,0,none⟩,2,none,0⟩:=by
  have K:ZA Ze w (w.alloc (.cells #[.int .i64 x.kind,.int .i64 x.op,.int .i64 x.line,.int .i64 x.p,.int .i64 x.q,.string x.str,.slice dx.a x.args.length dx.c,.slice dx.fa x.funcs.length dx.fc,.int .i64 y.kind,.int .i64 y.op,.int .i64 y.line,.int .i64 y.p,.int .i64 y.q,.string y.str,.slice dy.a y.args.length dy.c,.slice dy.fa y.funcs.length dy.fc] 37)):=keepA _;have hr:=qt w #[.int .i64 x.kind,.int .i64 x.op,.int .i64 x.line,.int .i64 x.p,.int .i64 x.q,.string x.str,.slice dx.a x.args.length dx.c,.slice dx.fa x.funcs.length dx.fc,.int .i64 y.kind,.int .i64 y.op,.int .i64 y.line,.int .i64 y.p,.int .i64 y.q,.string y.str,.slice dy.a y.args.length dy.c,.slice dy.fa y.funcs.length dy.fc] 37 rfl;refine ⟨⟨hk,ho,Qq,Qq,Qq,hs⟩,⟨by simp,⟨by show 2≤MX;decide,by show 2*104≤LM;decide⟩,by simp,by simp,by simp⟩,?_,trivial⟩;exact ⟨_,0,dx,rfl,trivial,by simp,Yd (xs:=x.cells dx) (ys:=y.cells dy) hr,hx.keep K (fun _ h=>h),_,_,dy,rfl,trivial,by simp,Jr (xs:=x.cells dx) (ys:=y.cells dy) hr,hy.keep K (fun _ h=>h),trivial⟩
theorem single_at {w:World} {x:Ex} {dx:EA} {k o:Int} {s:ByteArray} (hk:QO k) (ho:QO o) (hs:s.size≤MX) (hx:x.At Ze w dx) :
    (Ex.mk k o 0 0 0 s [x] []).At Ze (w.alloc (.cells #[.int .i64 x.kind,.int .i64 x.op,.int .i64 x.line,.int .i64 x.p,.int .i64 x.q,.string x.str,.slice dx.a x.args.length dx.c,.slice dx.fa x.funcs.length dx.fc] 37)) ⟨some ⟨w.heap.size,0,none⟩,1,none,0⟩:=by
  have hr:=qt w #[.int .i64 x.kind,.int .i64 x.op,.int .i64 x.line,.int .i64 x.p,.int .i64 x.q,.string x.str,.slice dx.a x.args.length dx.c,.slice dx.fa x.funcs.length dx.fc] 37 rfl;refine ⟨⟨hk,ho,Qq,Qq,Qq,hs⟩,⟨by simp,⟨by show 1≤MX;decide,by show 1*104≤LM;decide⟩,by simp,by simp,by simp⟩,?_,trivial⟩;exact ⟨_,0,dx,rfl,trivial,by simp,hr,hx.keep (keepA _) (fun _ h=>h),trivial⟩
def qg (x:Ex):St:=.mk 11 0 [] [] [x] [] ⟨#[]⟩
theorem ret_ats {w:World} {x:Ex} {dx:EA} (hx:x.At Ze w dx) :
    St.Ats Ze ((w.alloc (.cells #[.int .i64 x.kind,.int .i64 x.op,.int .i64 x.line,.int .i64 x.p,.int .i64 x.q,.string x.str,.slice dx.a x.args.length dx.c,.slice dx.fa x.funcs.length dx.fc] 37)).alloc (.cells #[.int .i64 11,.int .i64 0,.slice none 0 0,.slice none 0 0,.slice (some ⟨w.heap.size,0,none⟩) 1 1,.slice none 0 0,.string ⟨#[]⟩] 44)) [qg x] (some ⟨w.heap.size+1,0,none⟩):=by
  have K:ZA Ze w ((w.alloc (.cells #[.int .i64 x.kind,.int .i64 x.op,.int .i64 x.line,.int .i64 x.p,.int .i64 x.q,.string x.str,.slice dx.a x.args.length dx.c,.slice dx.fa x.funcs.length dx.fc] 37)).alloc (.cells #[.int .i64 11,.int .i64 0,.slice none 0 0,.slice none 0 0,.slice (some ⟨w.heap.size,0,none⟩) 1 1,.slice none 0 0,.string ⟨#[]⟩] 44)):=Zb (Zj (Zj (Below.refl _ _) _) _);have hr:=qt w #[.int .i64 x.kind,.int .i64 x.op,.int .i64 x.line,.int .i64 x.p,.int .i64 x.q,.string x.str,.slice dx.a x.args.length dx.c,.slice dx.fa x.funcs.length dx.fc] 37 rfl;have hr2:=qt (w.alloc (.cells #[.int .i64 x.kind,.int .i64 x.op,.int .i64 x.line,.int .i64 x.p,.int .i64 x.q,.string x.str,.slice dx.a x.args.length dx.c,.slice dx.fa x.funcs.length dx.fc] 37)) #[.int .i64 11,.int .i64 0,.slice none 0 0,.slice none 0 0,.slice (some ⟨w.heap.size,0,none⟩) 1 1,.slice none 0 0,.string ⟨#[]⟩] 44 (b:=w.heap.size+1) (by simp);refine ⟨_,0,⟨none,0,none,0,some ⟨w.heap.size,0,none⟩,1,none,0⟩,rfl,trivial,by simp,hr2,?_,trivial⟩;refine ⟨⟨QV (by omega) (by omega),Qq,by unfold MX;decide⟩,⟨by simp,⟨by simp,by simp⟩,by simp,⟨by simp,by simp⟩,by simp,⟨by show 1≤MX;decide,by show 1*104≤LM;decide⟩,by simp,by simp,by simp⟩,Rows.nil _,trivial,?_,trivial⟩;exact ⟨_,0,dx,rfl,trivial,by simp;omega,(keepA _).range trivial (by simp) hr,hx.keep K (fun _ h=>h),trivial⟩
def Kq (x:Ex):ByteArray × Int:=if QN [qg x]=0 then QA (Zr 0 x) else (⟨#[]⟩,QN [qg x])
theorem ret_wz (x:Ex):St.wzs [qg x]=x.wz+1:=by simp only [St.wzs,St.wz_eq,qg,St.left,St.right,St.blocks,Ex.wzs,St.wzss];omega
theorem ret_err {x:Ex} (h:QN [qg x]=0):ZH ttl0 0 x=0:=by
  have h1:=vc h;have h2:=zE.1 h1 0 (qg x) rfl;have h3:=(Zq.1 h2).2.2.1 x (by simp [qg,St.right]);have e:ZP (qg x)=ttl0:=by unfold ZP qg;simp [St.kind]
  rw [e] at h3;exact h3
theorem texpr_any (x:Ex) (d:EA) (w:World) (hw:x.wz≤1073741823) (hat:x.At Ze w d) :
    Calls Tryz.prog 23 #[(eV x d)] w fun e w'=>e=.returned (.int .i64 (QN [qg x]))∧Below w.heap.size w w':=by
  delta eV
  obtain ⟨w1,hw1⟩:=vG x d w;have HB1:=hI (show Below w.heap.size w w1 by rw [hw1];exact bw);have HBX:=hI (vU x d hw1);have kb1:=fun i=>Za HBX.out i;have kz1:=Zc HBX.out;have HA1:=hI (ret_ats (hat.keep (Zb HB1.out) (fun _ h=>h)));have HCK:=hI (show ∀ w',St.Ats Ze w' [qg x] (some ⟨w1.heap.size+1,0,none⟩)→Calls Tryz.prog 14 #[.slice (some ⟨w1.heap.size+1,0,none⟩) 1 1] w' fun e w''=>e=.returned (.int .i64 (QN [qg x]))∧Below w'.heap.size w' w'' from fun w' h=>JW [qg x] (some ⟨w1.heap.size+1,0,none⟩) 1 w' (by rw [ret_wz];omega) (Nat.le_refl _) (by unfold MX;decide) (by show 1*128≤LM;decide) h);clear hat hw
  go_enter Tryz.func23,Tryz.ntmps23
  go_upto_region 1 with fail
  rw [←hw1];clear hw1
  go_wp2_with (go_at_call 14;(with_reducible refine (HCK.out _ HA1.out).mono ?_);rintro e w2 ⟨rfl,hb2⟩)
  go_ret;exact ⟨rfl,thru hb2 (Zj (Zj HB1.out _) _)⟩
theorem Kh (x:Ex) (d:EA) (w:World) (hw:x.wy≤4194303) (hat:x.At Ze w d) (ht:Tab w) :
    Calls Tryz.prog 13 #[(eV x d)] w fun e w'=>e=.returned (.tuple #[.string (Kq x).1,.int .i64 (Kq x).2])∧Below w.heap.size w w':=by
  delta eV
  have hwz:x.wz≤1073741823:=by have:=Ex.wz_wy x;omega
  have HA:=hI hat;have HT:=hI ht;have HWY:=hI hw;obtain ⟨w1,hw1⟩:=vG x d w;have HB1:=hI (show Below w.heap.size w w1 by rw [hw1];exact bw);have HBX:=hI (vU x d hw1);have kb1:=fun i=>Za HBX.out i;have kz1:=Zc HBX.out;have HCK:=hI (show ∀ w',Below w.heap.size w w'→Calls Tryz.prog 23 #[(eV x d)] w' fun e w''=>e=.returned (.int .i64 (QN [qg x]))∧Below w'.heap.size w' w'' from fun w' hb=>texpr_any x d w' hwz (HA.out.keep (Zb hb) (fun _ h=>h)));obtain ⟨r,hr⟩:∃ r,r=Kq x:=⟨_,rfl⟩
  rw [←hr];unfold Kq at hr;have HR:=hI hr;obtain ⟨v,hv⟩:∃ v,v=QN [qg x]:=⟨_,rfl⟩
  rw [←hv] at HR HCK;have HV:=hI hv;clear hat ht hw hr hv hwz;by_cases hv0:v=0
  · have t0:(v != 0)=false:=by rw [hv0];rfl
    have e:r=QA (Zr 0 x):=by rw [HR.out,if_pos hv0]
    have HE:=hI e;have HV0:=hI hv0;clear e hv0
    go_enter Tryz.func13,Tryz.ntmps13
    go_upto_region 1 with fail
    rw [←hw1];clear hw1
    go_wp2_with (first
      | (go_at_call 23;(with_reducible refine (HCK.out _ HB1.out).mono ?_);rintro e w2 ⟨rfl,hb2⟩;have HB2:=hI (thru hb2 HB1.out);have hx2:=Zd hb2 HBX.out;have HX2:=hI hx2;clear hb2 hx2)
      | (go_at_call 15;(with_reducible refine (qK _).mono ?_);rintro e w3 ⟨p,m,rfl,hwr,hb3⟩;have HWR:Hid (Wr w2 p m [] w3):=hI ⟨hwr,hb3,HT.out.below HB2.out⟩;have HB3:=hI hb3;have hx3:=Zd hb3 HX2.out;have kb3:=fun i=>Za hx3 i;have kz3:=Zc hx3;clear hwr hb3 hx3)
      | (go_at_call 24;(with_reducible refine (wexpr0 x d ttl0 0 _ (ret_err (HV.out.symm.trans HV0.out)) (by have:=HWY.out;omega) ((Ex.At.lt (HA.out.keep (Zb HB2.out) (fun _ h=>h))).keep (Zb HB3.out) (fun _ h=>h)) HWR.out).mono ?_);rintro e w4 ⟨rfl,hw4,hg4⟩;have HW4:=hI hw4;clear hw4 hg4)
      | (go_at_call 17;(with_reducible refine (Yb HW4.out.at_ HW4.out.bl.size).mono ?_);rintro e w5 ⟨rfl,hb5⟩;have HB5:=hI hb5;clear hb5))
    refine bodyPost_ret (v:=.tuple #[.string (QA (Zr 0 x)).1,.int .i64 (QA (Zr 0 x)).2]) (by simp [results,Tryz.results13,go_sem]) rfl ?_;exact ⟨by rw [HE.out],thru (Below.trans HW4.out.bl HB5.out) HB2.out⟩
  · have t0:(v != 0)=true:=by simp;exact hv0
    have e:r=(⟨#[]⟩,v):=by rw [HR.out,if_neg hv0]
    subst e;clear HR
    go_enter Tryz.func13,Tryz.ntmps13
    go_upto_region 1 with fail
    rw [←hw1];clear hw1
    go_wp2_with (go_at_call 23;(with_reducible refine (HCK.out _ HB1.out).mono ?_);rintro e w2 ⟨rfl,hb2⟩;have HB2:=hI (thru hb2 HB1.out);clear hb2)
    refine bodyPost_ret (v:=.tuple #[.string ⟨#[]⟩,.int .i64 v]) (by simp [results,Tryz.results13,go_sem]) rfl ?_;exact ⟨rfl,HB2.out⟩
def nmE (c:UInt8):Ex:=.mk 7 0 0 0 0 ⟨#[c]⟩ [] []
def subE:Ex:=.mk 16 2 0 0 0 ⟨#[]⟩ [nmE 97,.mk 16 2 0 0 0 ⟨#[]⟩ [nmE 98,nmE 99] []] []
def negE:Ex:=.mk 15 20 0 0 0 ⟨#[]⟩ [nmE 120] []
def powE:Ex:=.mk 16 7 0 0 0 ⟨#[]⟩ [.mk 4 0 0 5 4 ⟨#[]⟩ [] [],negE] []
def callE:Ex:=.mk 9 0 0 0 0 ⟨#[]⟩ [nmE 102,nmE 98] []
def locS:St:=.mk 1 0 [(⟨#[97]⟩,1)] [] [] [] ⟨#[]⟩
def ifS:St:=.mk 8 0 [] [] [nmE 97] [[qg callE]] ⟨#[]⟩
def badS:St:=.mk 1 0 [] [] [] [] ⟨#[]⟩
theorem ex_sub:Kq subE=(⟨#[97,32,45,32,40,98,32,45,32,99,41]⟩,0):=by kernel_rfl
theorem ex_pow:Kq powE=(⟨#[49,46,50,53,32,94,32,40,45,120,41]⟩,0):=by kernel_rfl
theorem ex_bad:Vk [badS]=(⟨#[]⟩,4):=by kernel_rfl
theorem ex_two:Vk [locS,ifS]=(⟨#[108,111,99,97,108,32,97,32,60,99,111,110,115,116,62,10,105,102,32,97,32,116,104,101,110,10,32,32,114,101,116,117,114,110,32,102,40,98,41,10,101,110,100,10]⟩,0):=by kernel_rfl
end Go.Proofs.YtdmdhopfgnlnoaaGreatDoor
