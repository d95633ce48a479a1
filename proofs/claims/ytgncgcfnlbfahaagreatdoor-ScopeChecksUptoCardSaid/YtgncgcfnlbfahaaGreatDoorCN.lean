import Derived.Test.YtgncgcfnlbfahaaGreatDoorCL
import Derived.Test.YtgncgcfnlbfahaaGreatDoorCF
import Derived.Defers
import Derived.Recover
set_option linter.all false
namespace Go.Proofs.YtgncgcfnlbfahaaGreatDoor
open Go.RowKit
set_option maxHeartbeats 4000000
set_option maxRecDepth 100000
structure ev(er:Int)(w:World)(e:Ending)(w':World):Prop where
 below:Below w.heap.size w w'
 ok:er=0→e=.returned (.bool true)
 no:er≠0→e=.panicked (fS er)
theorem xI{w:World}{g:Nat}{T:TypeId}(h:w.heap[g]?=some (.cells #[.string ⟨#[]⟩] T)):eo w b7 (some ⟨g,0,none⟩) 1:=
 ⟨by decide,by decide,by decide,qJ _ (by decide) h,by decide⟩
theorem Ik(x:Ex)(d:EA)(parent:Int)(t:bM)(a:Option Addr)(c:Nat)(w:World)(hat:x.At ac w d)(ht:eo w t a c)(hT:∀y∈x.args,∀dy t' a' c' w',y.At ac w' dy→eo w' t' a' c'→Calls Tryz.prog 75 #[.agg #[.int .i64 y.kind,.int .i64 y.op,.int .i64 y.line,.int .i64 y.p,.int .i64 y.q,.string y.str,.slice dy.a y.args.length dy.c,.slice dy.fa y.funcs.length dy.fc],.int .i64 x.kind,.agg #[.slice a' t'.names.length c',.string t'.method]] w' (bT (aT t' x.kind y) w'))(hB:∀f∈x.funcs,∀df w',f.At ac w' df→Calls Tryz.prog 47 #[.slice df.ba f.body.length df.bc] w' (ev (ff f) w')):Calls Tryz.prog 75 #[(eV x d),.int .i64 parent,.agg #[.slice a t.names.length c,.string t.method]] w (bT (aT t parent x) w):=by
 delta eV
 have HA:=hI hat;have HA':=hI (Ex.at_iff.1 hat);have HE:=hI (kU t parent x);have hal:x.args.length≤9223372036854775807:=by have:=HA'.1.2.1.2.1.2;unfold LM at this;omega
 have hfl:x.funcs.length≤9223372036854775807:=by have:=HA'.1.2.1.2.2.2.2;unfold LM at this;omega
 have hbt:∀w',Below w.heap.size w w'→x.At ac w' d∧eo w' t a c:=fun w' hb=>⟨hat.keep (af hb) (fun _ h=>h),ht.below hb⟩;have HBT:=hI hbt;have HTT:=hI hT;have HBB:=hI hB;clear hat ht hbt hT hB
 go_enter Tryz.func75,Tryz.ntmps75
 go_upto_region 1 with fail
 obtain⟨w1,hw1⟩:=nM ((w.alloc (Obj.cells #[.int .i64 x.kind,.int .i64 x.op,.int .i64 x.line,.int .i64 x.p,.int .i64 x.q,.string x.str,.slice d.a x.args.length d.c,.slice d.fa x.funcs.length d.fc] 114)).alloc (Obj.cells #[.slice a t.names.length c,.string t.method] 151))
 rw[←hw1];have HB1:=hI (by rw[hw1];exact bw:Below w.heap.size w w1);have HBX:=hI (by rw[hw1];exact bu (aM rfl) _:w1.heap[w.heap.size]?=some (.cells #[.int .i64 x.kind,.int .i64 x.op,.int .i64 x.line,.int .i64 x.p,.int .i64 x.q,.string x.str,.slice d.a x.args.length d.c,.slice d.fa x.funcs.length d.fc] 114));have HTX:=hI (by rw[hw1];exact aM (by simp):w1.heap[w.heap.size+1]?=some (.cells #[.slice a t.names.length c,.string t.method] 151));clear hw1;have kb:=fun i=>ae HBX.1 i;have kbl:=ah HBX.1;have ktb:=fun i=>ae HTX.1 i;have ktl:=ah HTX.1;have HC:=hI (AU x d parent t a c w1 (HBT.1 w1 HB1.1).1 (HBT.1 w1 HB1.1).2);by_cases hx0:fg x parent t=0
 case neg =>
  go_wp2_with (go_at_call 124;(with_reducible refine HC.1.mono ?_);rintro e w2 hres;obtain rfl:=hres.no hx0;have HB2:=hI (thru hres.below HB1.1))
  exact⟨rfl,bT.bad HB2.1 (by rw[HE.1];unfold alt;rw[if_neg hx0]) hx0⟩
 case pos =>
 go_upto_region 2 with(go_at_call 124;(with_reducible refine HC.1.mono ?_);rintro e w2 hres;obtain rfl:=hres.ok hx0;have HB2:=hI (thru hres.below HB1.1);have HBX2:=hI (ak hres.below HBX.1))
 clear HBX HTX HC kb kbl ktb ktl;rw[hx0]at HE;have kb:=fun i=>ae HBX2.1 i;have kbl:=ah HBX2.1
 go_wp2_with fail
 go_loopg [7,17] x.args.length (fun gk u i ws=>∃k:Nat,gk+k=x.args.length∧i=.int .i64 k∧Below w2.heap.size w2 ws∧gi (aT b7 x.kind) x.args k)
 case atStart=>exact⟨0,by omega,rfl,Below.refl _ _,fun j _ hj=>absurd hj (by omega)⟩
 case round =>
 obtain⟨k,hk,rfl,hbr,hno⟩:=hrel;have HBR:=hI hbr;have HNO:=hI hno;have HK:=hI hk;have HBW:=hI (thru hbr HB2.1);have HBX3:=hI (ak hbr HBX2.1);clear hbr hno kb kbl;have kb:=fun i=>ae HBX3.1 i;have kbl:=ah HBX3.1;by_cases hlt:k<x.args.length
 ·obtain⟨y,hy⟩:∃y,x.args[k]?=some y:=⟨_,I1 hlt⟩
  have HY:=hI hy
  have hcell:∃b off dy,d.a=some ⟨b,off,none⟩∧b<w.heap.size∧wr.rangeAt b (off+k*8) [.int .i64 y.kind,.int .i64 y.op,.int .i64 y.line,.int .i64 y.p,.int .i64 y.q,.string y.str,.slice dy.a y.args.length dy.c,.slice dy.fa y.funcs.length dy.fc]∧y.At ac w dy:=by
   obtain⟨b,off,h1,h2⟩:=HA'.1.2.2.1;obtain⟨ha,-,hlb⟩:=h1 (by intro h9;rw[h9]at hlt;simp at hlt);obtain⟨cs,hr,dy,rfl,hay⟩:=h2 k y hy;exact⟨b,off,dy,ha,hlb,(af HBW.1:aj ac w wr).range trivial hlb hr,hay⟩
  obtain⟨b,off,dy,ha,hlb,hr',hay⟩:=hcell;obtain⟨a0,c00,fa0,fc0⟩:=d;subst ha;have c0:=hr' 0 _ rfl;have c1:=hr' 1 _ rfl;have c2:=hr' 2 _ rfl;have c3:=hr' 3 _ rfl;have c4:=hr' 4 _ rfl;have c5:=hr' 5 _ rfl;have c6:=hr' 6 _ rfl;have c7:=hr' 7 _ rfl;simp only[Nat.add_zero]at c0;have HAY:=hI hay;have hmem:=I3 hy;have HC:=hI (fun w9 (hb:Below w.heap.size w w9) a' h9=>HTT.1 y hmem dy b7 a' 1 w9 (HAY.1.keep (af hb) (fun _ h=>h)) h9);clear hr' hy hay hk hmem;by_cases h0:aT b7 x.kind y=0
  case neg =>
   go_wp2_with (go_at_call 75;refine(HC.1 _ (aE (aE HBW.1 _) _) _ (xI (aM (by simp)))).mono ?_;rintro e w3 hres;obtain rfl:=hres.no h0;have HB4:=hI (thru hres.below (aE (aE HBW.1 _) _)))
   exact⟨rfl,bT.bad HB4.1 (by rw[HE.1];unfold alt;rw[if_pos rfl,iM HNO.1 HY.1 h0,if_neg h0]) h0⟩
  case pos =>
  go_wp2_with (go_at_call 75;refine(HC.1 _ (aE (aE HBW.1 _) _) _ (xI (aM (by simp)))).mono ?_;rintro e w3 hres;obtain rfl:=hres.ok h0;have HB4:=hI (thru hres.below (aE (aE HBR.1 _) _)))
  go_roundg (gk-1)
  case rel=>exact⟨k+1,by have:=HK.1;omega,by go_num,HB4.1,HNO.1.succ HY.1 h0⟩
  case measure=>have:=HK.1;omega
 ·have hke:k=x.args.length:=by omega
  have e4:ai (x.args.map (aT b7 x.kind))=0:=mX (by rw[←hke];exact HNO.1);rw[e4]at HE;have hfk3:decide (k<x.args.length)=false:=by simp;omega
  clear hk hke hlt e4
  go_wp2_with fail
  go_loopg [9,31] x.funcs.length (fun gk u i ws=>∃k:Nat,gk+k=x.funcs.length∧i=.int .i64 k∧Below w.heap.size w ws∧gi ff x.funcs k)
  case atStart=>exact⟨0,by omega,rfl,HBW.1,fun j _ hj=>absurd hj (by omega)⟩
  case round =>
  obtain⟨k2,hk,rfl,hbr,hno⟩:=hrel;have HB9:=hI hbr;have HN9:=hI hno;have HK9:=hI hk;clear hbr hno kb kbl;by_cases hlt:k2<x.funcs.length
  ·obtain⟨y,hy⟩:∃y,x.funcs[k2]?=some y:=⟨_,I1 hlt⟩
   have HY:=hI hy
   have hcell:∃b off dy,d.fa=some ⟨b,off,none⟩∧b<w.heap.size∧wr.rangeAt b (off+k2*5) [.string y.name,.slice dy.a y.params.length dy.c,.bool y.vararg,.slice dy.ba y.body.length dy.bc,.int .i64 y.line]∧y.At ac w dy:=by
    obtain⟨b,off,h1,h2⟩:=HA'.1.2.2.2;obtain⟨ha,-,hlb⟩:=h1 (by intro h9;rw[h9]at hlt;simp at hlt);obtain⟨cs,hr,dy,rfl,hay⟩:=h2 k2 y hy;exact⟨b,off,dy,ha,hlb,(af HB9.1:aj ac w wr).range trivial hlb hr,hay⟩
   obtain⟨b,off,dy,ha,hlb,hr',hay⟩:=hcell;obtain⟨a0,c00,fa0,fc0⟩:=d;subst ha;have c0:=hr' 0 _ rfl;have c1:=hr' 1 _ rfl;have c2:=hr' 2 _ rfl;have c3:=hr' 3 _ rfl;have c4:=hr' 4 _ rfl;simp only[Nat.add_zero]at c0;have HBA:=hI (aE HB9.1 (.cells #[.string y.name,.slice dy.a y.params.length dy.c,.bool y.vararg,.slice dy.ba y.body.length dy.bc,.int .i64 y.line] 106));have HC:=hI (HBB.1 y (I3 hy) dy _ (hay.keep (af HBA.1) (fun _ h=>h)));clear hr' hy hay hk;by_cases h0:ff y=0
   case neg =>
    go_wp2_with (go_at_call 47;(with_reducible refine HC.1.mono ?_);rintro e w3 hres;obtain rfl:=hres.no h0;have HB4:=hI (thru hres.below HBA.1))
    exact⟨rfl,bT.bad HB4.1 (by rw[HE.1];unfold alt;rw[if_pos rfl,if_pos rfl];exact iM HN9.1 HY.1 h0) h0⟩
   case pos =>
   go_wp2_with (go_at_call 47;(with_reducible refine HC.1.mono ?_);rintro e w3 hres;obtain rfl:=hres.ok h0;have HB4:=hI (thru hres.below HBA.1))
   go_roundg (gk-1)
   case rel=>exact⟨k2+1,by have:=HK9.1;omega,by go_num,HB4.1,HN9.1.succ HY.1 h0⟩
   case measure=>have:=HK9.1;omega
  ·have hke:k2=x.funcs.length:=by omega
   have e4:ai (x.funcs.map ff)=0:=mX (by rw[←hke];exact HN9.1);rw[e4]at HE;have hfk4:decide (k2<x.funcs.length)=false:=by simp;omega
   clear hk hke hlt e4
   go_wp2_with fail
   go_end0;exact⟨HB9.1,fun _=>rfl,fun h9=>absurd HE.1 h9⟩
theorem ev.bad{er n:Int}{w w':World}(hb:Below w.heap.size w w')(h:er=n)(hn:n≠0):ev er w (.panicked (fS n)) w':=⟨hb,fun h9=>absurd (h.symm.trans h9) hn,fun _=>by rw[h]⟩
theorem An(x:Ex)(d:EA)(t:bM)(a:Option Addr)(c tb:Nat)(w:World)(htb:w.heap[tb]?=some (.cells #[.slice a t.names.length c,.string t.method] 151))(hC:∀w',Below w.heap.size w w'→Calls Tryz.prog 75 #[.agg #[.int .i64 x.kind,.int .i64 x.op,.int .i64 x.line,.int .i64 x.p,.int .i64 x.q,.string x.str,.slice d.a x.args.length d.c,.slice d.fa x.funcs.length d.fc],.int .i64 0,.agg #[.slice a t.names.length c,.string t.method]] w' (bT (aT t 0 x) w')):Calls Tryz.prog 74 #[(eV x d),.pointer (some ⟨tb,0,none⟩)] w (ev (aT t 0 x) w):=by
 delta eV
 have HC:=hI hC;have HTB:=hI htb;have kt:=fun i=>ae HTB.1 i;have ktl:=ah HTB.1;clear hC htb;by_cases h0:aT t 0 x=0
 ·go_enter Tryz.func74,Tryz.ntmps74
  go_wp2_with (go_at_call 75;(with_reducible refine(HC.1 _ bw).mono ?_);rintro e w3 hres;obtain rfl:=hres.ok h0;have HB4:=hI (thru hres.below (bw:Below w.heap.size w _)))
  go_ret;exact⟨HB4.1,fun _=>rfl,fun h9=>absurd h0 h9⟩
 ·go_enter Tryz.func74,Tryz.ntmps74
  go_wp2_with (go_at_call 75;(with_reducible refine(HC.1 _ bw).mono ?_);rintro e w3 hres;obtain rfl:=hres.no h0;have HB4:=hI (thru hres.below (bw:Below w.heap.size w _)))
  exact⟨rfl,ev.bad HB4.1 rfl h0⟩
theorem pM(last:Bool)(s:St):dL last s=alt (cW s last) (ai ((bE s).map (cq (aT (aR s) 0) (fun b=>ai (aU b))))):=by
 rw[pL];unfold bE;rw[wh,List.map_map,List.map_map,List.map_map];rfl
theorem mM:∀{l:List St} {k:Nat} {s:St},(∀j s,j<k→l[j]?=some s→dL (decide (j+1=l.length)) s=0)→l[k]?=some s→dL (decide (k+1=l.length)) s≠0→ai (aU l)=dL (decide (k+1=l.length)) s
 |y::r,0,s,h,hs,hp=>by
  simp at hs;subst hs;have e:decide (0+1=(y::r).length)=r.isEmpty:=by cases r<;>simp
  rw[e]at hp⊢;simp only[aU,ai];unfold alt;rw[if_neg hp]
 |y::r,k+1,s,h,hs,hp=>by
  have h0:=h 0 y (by omega) rfl;have e:decide (0+1=(y::r).length)=r.isEmpty:=by cases r<;>simp
  rw[e]at h0;have e2:∀j,decide (j+1+1=(y::r).length)=decide (j+1=r.length):=fun j=>by simp
  rw[e2]at hp⊢;simp only[aU,ai];unfold alt;rw[if_pos h0];exact mM (fun j s hj hs=>by rw[←e2];exact h (j+1) s (by omega) (by simpa using hs)) (by simpa using hs) hp
theorem pN:∀{l:List St},(∀j s,j<l.length→l[j]?=some s→dL (decide (j+1=l.length)) s=0)→ai (aU l)=0
 |[],h=>rfl
 |y::r,h=>by
  have h0:=h 0 y (by simp) rfl;have e:decide (0+1=(y::r).length)=r.isEmpty:=by cases r<;>simp
  rw[e]at h0;have e2:∀j,decide (j+1+1=(y::r).length)=decide (j+1=r.length):=fun j=>by simp
  simp only[aU,ai];unfold alt;rw[if_pos h0];exact pN fun j s hj hs=>by rw[←e2];exact h (j+1) s (by simp;omega) (by simpa using hs)
theorem BI:∀args w,(callFunc 74 args).run Tryz.prog w=.ok (.enter 74 args) w:=enters_of Tryz.func74 (by kernel_rfl) rfl
theorem BH:∀args w,(callFunc 47 args).run Tryz.prog w=.ok (.enter 47 args) w:=enters_of Tryz.func47 (by kernel_rfl) rfl
theorem ev.res{er:Int}{w:World}{e:Ending}{w':World}(v:Int)(h:ev er w e w'):fM none v er (.bool true) w e w':=⟨Gr.of_below h.below,fun h0=>⟨h.ok h0,fun b hb=>by cases hb⟩,h.no⟩
theorem sS(l:List St)(la:Option Addr)(lc:Nat)(w:World)(hl:l.length≤lc)(hlm:l.length*128≤LM)(hrow:ag ac w 7 (eR ac w) l la)(hw:∀s∈l,s.wz≤1073741824)(hT:∀s∈l,∀x,x∈s.left∨x∈s.right→∀d t a c w',x.At ac w' d→eo w' t a c→Calls Tryz.prog 75 #[.agg #[.int .i64 x.kind,.int .i64 x.op,.int .i64 x.line,.int .i64 x.p,.int .i64 x.q,.string x.str,.slice d.a x.args.length d.c,.slice d.fa x.funcs.length d.fc],.int .i64 0,.agg #[.slice a t.names.length c,.string t.method]] w' (bT (aT t 0 x) w'))(hB:∀s∈l,∀b∈s.blocks,∀a c w',b.length≤c→c≤MX→b.length*128≤LM→ag ac w' 7 (eR ac w') b a→Calls Tryz.prog 47 #[.slice a b.length c] w' (ev (ai (aU b)) w')):Calls Tryz.prog 47 #[.slice la l.length lc] w (ev (ai (aU l)) w):=by
 have hll:l.length≤9223372036854775807:=by unfold LM at hlm;omega
 have HR:=hI hrow;have HTT:=hI hT;have HBB:=hI hB;have HWZ:=hI hw;clear hrow hT hB hw
 go_enter Tryz.func47,Tryz.ntmps47
 go_wp2_with fail
 go_loopg [3,4,5,8] l.length (fun gk u3 u4 u5 i wr=>∃k:Nat,gk+k=l.length∧i=.int .i64 k∧Below w.heap.size w wr∧∀j s,j<k→l[j]?=some s→dL (decide (j+1=l.length)) s=0)
 case atStart=>exact⟨0,by omega,rfl,Below.refl _ _,fun j _ hj=>absurd hj (by omega)⟩
 case round =>
 obtain⟨k,hk,rfl,hbr,hno⟩:=hrel;have HBW:=hI hbr;have HNO:=hI hno;have HK:=hI hk;clear hbr hno;by_cases hlt:k<l.length
 ·obtain⟨s,hs⟩:∃s,l[k]?=some s:=⟨_,I1 hlt⟩
  have HS:=hI hs;have HM:=hI (I3 hs)
  have hcell:∃b off d,la=some ⟨b,off,none⟩∧b<w.heap.size∧wr.rangeAt b (off+k*7) [.int .i64 s.kind,.int .i64 s.line,.slice d.na s.names.length d.nc,.slice d.la s.left.length d.lc,.slice d.ra s.right.length d.rc,.slice d.ba s.blocks.length d.bc,.string s.label]∧s.At ac w d:=by
   obtain⟨b,off,h1,h2⟩:=HR.1;obtain⟨ha,-,hlb⟩:=h1 (by intro h9;rw[h9]at hlt;simp at hlt);obtain⟨cs,hr,d,rfl,hat⟩:=h2 k s hs;exact⟨b,off,d,ha,hlb,(af HBW.1:aj ac w wr).range trivial hlb hr,hat⟩
  obtain⟨b,off,d,rfl,hlb,hr',hat⟩:=hcell;have c0:=hr' 0 _ rfl;have c1:=hr' 1 _ rfl;have c2:=hr' 2 _ rfl;have c3:=hr' 3 _ rfl;have c4:=hr' 4 _ rfl;have c5:=hr' 5 _ rfl;have c6:=hr' 6 _ rfl;simp only[Nat.add_zero]at c0;have HAT:=hI hat;have HBA:=hI (aE HBW.1 (.cells #[.int .i64 s.kind,.int .i64 s.line,.slice d.na s.names.length d.nc,.slice d.la s.left.length d.lc,.slice d.ra s.right.length d.rc,.slice d.ba s.blocks.length d.bc,.string s.label] 97));have HC:=hI (AW l _ lc k s _ hl hlm (HR.1.keep (af HBA.1) (fun _ _=>trivial) (fun _ _ _ h=>by obtain⟨d9,q1,q2⟩:=h;exact⟨d9,q1,q2.keep (af HBA.1) (fun _ h=>h)⟩)) hs);clear hr' hat hk hs;by_cases h0:cW s (decide (k+1=l.length))=0
  case neg =>
   go_wp2_with (go_at_call 72;(with_reducible refine HC.1.mono ?_);rintro e w3 hres;obtain rfl:=hres.no h0;have HB4:=hI (thru hres.below HBA.1))
   refine⟨rfl,ev.bad HB4.1 ?_ h0⟩;have he:dL (decide (k+1=l.length)) s=cW s (decide (k+1=l.length)):=by rw[pM];unfold alt;rw[if_neg h0]
   rw[←he];exact mM HNO.1 HS.1 (by rw[he];exact h0)
  case pos =>
  go_wp2_with (go_at_call 72;(with_reducible refine HC.1.mono ?_);rintro e w3 hres;obtain rfl:=hres.ok h0;have HB4:=hI (thru hres.below HBA.1);have HB4X:=hI (ak hres.below (aM rfl));have kb:=fun i=>ae HB4X.1 i;have kbl:=ah HB4X.1)
  have HTI:=hI (Ih s d w3 (HAT.1.keep (af HB4.1) (fun _ h=>h)) (HWZ.1 s HM.1))
  go_wp2_with (go_at_call 73;(with_reducible refine HTI.1.mono ?_);rintro e w4 hti;obtain⟨ta,tc,rfl,htt⟩:=hti.run;have HTTL:=hI htt;have HB5:=hI (thru hti.below HB4.1);have HB5X:=hI (ak hti.below HB4X.1);have kb:=fun i=>ae HB5X.1 i;have kbl:=ah HB5X.1)
  have HTB:=hI (aM rfl:(w4.alloc (.cells #[.slice ta (aR s).names.length tc,.string (aR s).method] 151)).heap[w4.heap.size]?=_);have HB6:=hI (aE HB5.1 (.cells #[.slice ta (aR s).names.length tc,.string (aR s).method] 151));have HTT6:=hI (HTTL.1.below (aE (Below.refl _ _) (.cells #[.slice ta (aR s).names.length tc,.string (aR s).method] 151)))
  have HST:=hI (qW (row:=none) (stE:=fun v _=>v) (stB:=fun v _=>v) (erE:=aT (aR s) 0) (erB:=fun b=>ai (aU b)) (fste:=#[]) (cape:=#[.pointer (some ⟨w4.heap.size,0,none⟩)]) (fstb:=#[]) (capb:=#[]) BI BH s d _ 0 (HAT.1.keep (af HB6.1) (fun _ _=>by simp)) (fun b h=>by cases h)
   (fun x hx v dx w9 hg hax _=>(An x dx (aR s) ta tc w4.heap.size w9 (ak hg.none_below HTB.1) (fun w' hb=>HTT.1 s HM.1 x hx dx _ _ _ w' (hax.keep (af hb) (fun _ _=>trivial)) ((HTT6.1.below hg.none_below).below hb))).mono fun e w' h=>h.res v)
   (fun b hb v ab cb w9 hg h1 h2 h3 hab _=>(HBB.1 s HM.1 b hb ab cb w9 h1 h2 h3 (St.ats_iff.1 (St.Ats.keep (aj.refl _ _) (fun _ _=>trivial) hab))).mono fun e w' h=>h.res v))
  by_cases h1:ai ((bE s).map (cq (aT (aR s) 0) (fun b=>ai (aU b))))=0
  case neg =>
   go_wp2_with (go_at_call 68;(refine HST.1.mono ?_);rintro e w7 hres;obtain rfl:=hres.no h1;have HB7:=hI (thru hres.gr.none_below HB6.1))
   refine⟨rfl,ev.bad HB7.1 ?_ h1⟩;have he:=pM (decide (k+1=l.length)) s;unfold alt at he;rw[if_pos h0]at he;rw[←he];exact mM HNO.1 HS.1 (by rw[he];exact h1)
  case pos =>
  go_wp2_with (go_at_call 68;(refine HST.1.mono ?_);rintro e w7 hres;obtain rfl:=(hres.ok h1).1;have HB7:=hI (thru hres.gr.none_below HB6.1))
  go_roundg (gk-1)
  case rel =>
   refine⟨k+1,by have:=HK.1;omega,by go_num,HB7.1,fun j s9 hj hs9=>?_⟩;rcases(by omega:j<k∨j=k)with h9|rfl
   ·exact HNO.1 j s9 h9 hs9
   ·rw[HS.1]at hs9;cases hs9;rw[pM];unfold alt;rw[if_pos h0];exact h1
  case measure=>have:=HK.1;omega
 ·have hke:k=l.length:=by omega
  have h0:ai (aU l)=0:=pN (fun j s9 hj=>HNO.1 j s9 (by omega));have hfk:decide (k<l.length)=false:=by simp;omega
  clear hk hke hlt
  go_wp2_with fail
  go_ret;exact⟨HBW.1,fun _=>rfl,fun h9=>absurd h0 h9⟩
def zG(n:Nat):Prop:=∀(x:Ex) (d:EA) (parent:Int) (t:bM) (a:Option Addr) (c:Nat) (w:World),x.wz≤n→x.At ac w d→eo w t a c→Calls Tryz.prog 75 #[.agg #[.int .i64 x.kind,.int .i64 x.op,.int .i64 x.line,.int .i64 x.p,.int .i64 x.q,.string x.str,.slice d.a x.args.length d.c,.slice d.fa x.funcs.length d.fc],.int .i64 parent,.agg #[.slice a t.names.length c,.string t.method]] w (bT (aT t parent x) w)
def zC(n:Nat):Prop:=∀(l:List St) (a:Option Addr) (c:Nat) (w:World),St.wzs l≤n→l.length≤c→l.length*128≤LM→ag ac w 7 (eR ac w) l a→Calls Tryz.prog 47 #[.slice a l.length c] w (ev (ai (aU l)) w)
theorem Ex.wz_pos(x:Ex):1≤x.wz:=by rw[x.wz_eq];omega
theorem AZ(n:Nat)(hn:n≤1073741824):zG n∧zC n:=by
 induction n with
 |zero =>
  refine⟨fun x d p t a c w h=>absurd h (by have:=x.wz_pos;omega),fun l a c w h h1 h2 hr=>?_⟩;refine sS l a c w h1 h2 hr (fun s hs=>by have:=St.wz_mem hs;omega) (fun s hs x hx d t a c w' _ _=>?_) (fun s hs b hb a c w' _ _ _ _=>?_)
  ·exfalso;have:=St.wz_mem hs;rw[s.wz_eq]at this;omega
  ·exfalso;have:=St.wz_mem hs;rw[s.wz_eq]at this;omega
 |succ n ih =>
  obtain⟨hT,hB⟩:=ih (by omega);refine⟨fun x d p t a c w h hat ht=>?_,fun l a c w h h1 h2 hr=>?_⟩
  ·refine Ik x d p t a c w hat ht (fun y hy dy t' a' c' w' hay hat'=>hT y dy _ t' a' c' w' (by have:=Ex.argsW hy;omega) hay hat') (fun f hf df w' haf=>?_);obtain⟨nm,ps,va,body,ln⟩:=f;have hb:=Ex.bodyW hf;simp only[Fn.At]at haf;rw[pK];exact hB body df.ba df.bc w' (by simp only[Fn.body]at hb;omega) haf.2.1.2.2.1 haf.2.1.2.2.2.2 (St.ats_iff.1 haf.2.2.2)
  ·refine sS l a c w h1 h2 hr (fun s hs=>by have:=St.wz_mem hs;omega) (fun s hs x hx d t a c w' hax hat'=>?_) (fun s hs b hb a c w' g1 g2 g3 hr'=>?_)
   ·have h3:=St.wz_mem hs;have h4:x.wz<s.wz:=by rcases hx with hx|hx;exact St.leftW hx;exact St.rightW hx
    exact hT x d 0 t a c w' (by omega) hax hat'
   ·have h3:=St.wz_mem hs;have h4:=St.blocksW hb;exact hB b a c w' (by omega) g1 g3 hr'
theorem Aq(l:List St)(a:Option Addr)(c:Nat)(w:World)(hw:St.wzs l≤1073741824)(h1:l.length≤c)(h2:l.length*128≤LM)(hat:St.Ats ac w l a):Calls Tryz.prog 47 #[.slice a l.length c] w (ev (ai (aU l)) w):=
 (AZ _ hw).2 l a c w (I6 _) h1 h2 (St.ats_iff.1 hat)
theorem zQ(n:Int)(w:World):Sem.run Tryz.prog (Instr.typeAssert (.iface 120 (.agg #[.int .i64 n])) 20 120 false) w=.ok (.agg #[.int .i64 n]) w:=by kernel_rfl
theorem Cj(n:Int)(w:World):Sem.run Tryz.prog (Instr.field 120 (.agg #[.int .i64 n]) 0) w=.ok (.int .i64 n) w:=by kernel_rfl
theorem AP(p:Addr)(x n:Int)(w:World)(hc:w.cell? p=some (.int .i64 x))(hz:w.frozen? p=false):
  CallsD Tryz.prog 46 #[.pointer (some p)] (.panicking (fS n)) w fun e u' w' =>
   e=.returned (.tuple #[])∧u'=.panicking [{v:=.iface 120 (.agg #[.int .i64 n]),recovered:=true}]∧w'=w.setCell p (.int .i64 n):=by
 unfold fS;refine callsD_of_wpS Tryz.func46 rfl fun c₀ cs hu=>?_;apply wpS_seq;apply wpS_region;simp[wpOpsS,go_sem,recoverD,hu,Tryz.ntmps46,Exit.thenS];apply wpS_seq;apply wpS_region;simp[wpOpsS,go_sem,hu,Exit.thenS];refine wpS_cond (t:=true) (by simp[Act.eval,Array.replicate]) ?_;simp only[if_true];apply wpS_region;simp[wpOpsS,go_sem,zQ,Cj,hc,hz,bodyPostS,results,Tryz.results46]
theorem AN(p:Addr)(w:World):
  CallsD Tryz.prog 46 #[.pointer (some p)] .returning w fun e u' w'=>e=.returned (.tuple #[])∧u'=.returning∧w'=w:=by
 refine callsD_of_wpS Tryz.func46 rfl fun c₀ cs hu=>?_;apply wpS_seq;apply wpS_region;simp[wpOpsS,go_sem,recoverD,hu,Tryz.ntmps46,Exit.thenS];apply wpS_seq;apply wpS_region;simp[wpOpsS,go_sem,hu,Exit.thenS];refine wpS_cond (t:=false) (by simp[Act.eval,Array.replicate]) ?_;simp only[Bool.false_eq_true,if_false];refine wpS_of_wp (wp_skip ?_);cases c₀;simp_all [bodyPostS,results,Tryz.results46]
mutual
theorem D2:∀x:Ex,mE x≤x.sz
 |.mk _ _ _ _ _ s a f=>by have:=nD a;have:=vJ f;simp only[Ex.sz,mE];omega
theorem nD:∀l:List Ex,cH l≤Ex.szs l
 |[]=>I6 _
 |x::r=>by have:=D2 x;have:=nD r;simp only[Ex.szs,cH];omega
theorem D5:∀x:Fn,mF x≤x.sz
 |.mk _ _ _ b _=>by have:=ld b;simp only[Fn.sz,mF];omega
theorem vJ:∀l:List Fn,fD l≤Fn.szs l
 |[]=>I6 _
 |x::r=>by have:=D5 x;have:=vJ r;simp only[Fn.szs,fD];omega
theorem D9:∀x:St,mS x≤x.sz
 |.mk _ _ _ l r b _=>by have:=nD l;have:=nD r;have:=vH b;simp only[St.sz,mS];omega
theorem ld:∀l:List St,bU l≤St.szs l
 |[]=>I6 _
 |x::r=>by have:=D9 x;have:=ld r;simp only[St.szs,bU];omega
theorem vH:∀l:List (List St),fC l≤St.szss l
 |[]=>I6 _
 |x::r=>by have:=ld x;have:=vH r;simp only[St.szss,fC];omega
end
theorem GX(b:List St)(a:Option Addr)(c:Nat)(w:World)(hw:St.wzs b≤1073741824)(h1:b.length≤c)(h2:c≤MX)(h3:b.length*128≤LM)(hat:St.Ats ac w b a):Calls Tryz.prog 44 #[.slice a b.length c] w fun e w'=>e=.returned (.int .i64 ((bU b:Nat):Int))∧Below w.heap.size w w':=by
 have h9:=Il b a c w h1 h2 h3 hat
 have e:dv 0 (bU b)=((bU b:Nat):Int):=by
  have:=ld b;have:=St.szs_wz b;unfold dv wrap64;split<;>omega
 rw[e]at h9;exact h9
def dI(b:List St):Int:=if 65536<bU b∨64<1+aZ b then 3 else ai (aU b)
theorem xH(b:List St)(a:Option Addr)(c:Nat)(w:World)(hw:St.wzs b≤1073741824)(h1:b.length≤c)(h2:c≤MX)(h3:b.length*128≤LM)(hat:St.Ats ac w b a):Calls Tryz.prog 33 #[.slice a b.length c] w fun e w'=>e=.returned (.int .i64 (dI b))∧Below w.heap.size w w':=by
 have hmf:∀(fn:Go.Fn) (first cap:Array Value) (w:World),(Instr.makeFunc fn first cap).run Tryz.prog w=.ok (.func fn first cap) w:=fun _ _ _ _=>rfl;obtain⟨m,hm⟩:=nM (bU b)
 obtain⟨dd,hd⟩:∃m,m=1+aZ b:=⟨_,rfl⟩
 obtain⟨er,her⟩:∃m,m=ai (aU b):=⟨_,rfl⟩
 have HV:=hI (by rw[hm,hd,her];rfl:dI b=if 65536<m∨64<dd then 3 else er);have HS:∀w',Below w.heap.size w w'→Hd (Calls Tryz.prog 44 #[.slice a b.length c] w' fun e w''=>e=.returned (.int .i64 (m:Int))∧Below w'.heap.size w' w''):=fun w' h=>hI (by rw[hm];exact GX b a c w' hw h1 h2 h3 (St.Ats.keep (af h) (fun _ _=>trivial) hat));have HD:∀w',Below w.heap.size w w'→Hd (Calls Tryz.prog 45 #[.slice a b.length c] w' fun e w''=>e=.returned (.int .i64 (dd:Int))∧Below w'.heap.size w' w''):=fun w' h=>hI (by rw[hd];exact Bm b a c w' (by have:=St.szs_wz b;omega) h1 h2 h3 (St.Ats.keep (af h) (fun _ _=>trivial) hat));have HB:∀w',Below w.heap.size w w'→Hd (Calls Tryz.prog 47 #[.slice a b.length c] w' (ev er w')):=fun w' h=>hI (by rw[her];exact Aq b a c w' hw h1 h3 (St.Ats.keep (af h) (fun _ _=>trivial) hat));clear hm hd her hw h1 h2 h3 hat;rw[HV.1];by_cases hbig:65536<m
 ·have t1:decide ((65536:Int)<(m:Int))=true:=by simp;omega
  rw[if_pos (.inl hbig)];clear HV hbig
  go_enter_defers Tryz.func33,Tryz.ntmps33
  go_wp2_with (first
   |(go_at_call 44;refine((HS _ bw).out).mono ?_;rintro e w2 ⟨rfl,hb2⟩;have hbx:=ak hb2 (aM rfl);have kb:=fun i=>ae hbx i;have kbf:=bv hbx;have kbz:=ah hbx;have HBX:=hI hbx;clear hbx))
  simp[bodyPostD,Leaves,settle,results,Tryz.results33,go_sem,kb];exact bw
 ·have t1:decide ((65536:Int)<(m:Int))=false:=by simp;omega
  by_cases hdeep:64<dd
  ·have t2:decide ((64:Int)<(dd:Int))=true:=by simp;omega
   rw[if_pos (.inr hdeep)];clear HV hbig hdeep
   go_enter_defers Tryz.func33,Tryz.ntmps33
   go_wp2_with (first
    |(go_at_call 44;refine((HS _ bw).out).mono ?_;rintro e w2 ⟨rfl,hb2⟩;have hbx:=ak hb2 (aM rfl);have HBX:=hI hbx;clear hbx)
    |(go_at_call 45;refine((HD _ bw).out).mono ?_;rintro e w3 ⟨rfl,hb3⟩;have hbx:=ak hb3 HBX.1;have HBX3:=hI hbx;have kb:=fun i=>ae hbx i;have kbf:=bv hbx;have kbz:=ah hbx;clear hbx))
   simp[bodyPostD,Leaves,settle,results,Tryz.results33,go_sem,kb];exact bw
  ·have t2:decide ((64:Int)<(dd:Int))=false:=by simp;omega
   rw[if_neg (by omega)];by_cases h0:er=0
   ·go_enter_defers Tryz.func33,Tryz.ntmps33
    go_wp2_with (first
     |(go_at_call 44;refine((HS _ bw).out).mono ?_;rintro e w2 ⟨rfl,hb2⟩;have hbx:=ak hb2 (aM rfl);have HBX:=hI hbx;clear hbx)
     |(go_at_call 45;refine((HD _ bw).out).mono ?_;rintro e w3 ⟨rfl,hb3⟩;have hbx:=ak hb3 HBX.1;have HBX3:=hI hbx;clear hbx)
     |(go_at_call 47;refine((HB _ bw).out).mono ?_;rintro e w4 hres;obtain rfl:=hres.ok h0;have hbx:=ak hres.below HBX3.1;have HBX4:=hI hbx;have kb:=fun i=>ae hbx i;have kbf:=bv hbx;have kbz:=ah hbx;have HB4:=hI hres.below;clear hres hbx))
    refine leaves_cons (f:=46) (args:=#[.pointer (some ⟨w.heap.size,0,none⟩)]) (by simp) (by simp[go_sem]) ?_;refine(AN ⟨w.heap.size,0,none⟩ _).mono ?_;rintro e u' w'' ⟨rfl,rfl,rfl⟩;have hb5:=HB4.1;simp[Leaves,settle,results,Tryz.results33,go_sem,kb,h0];exact bw
   ·go_enter_defers Tryz.func33,Tryz.ntmps33
    go_wp2_with (first
     |(go_at_call 44;refine((HS _ bw).out).mono ?_;rintro e w2 ⟨rfl,hb2⟩;have hbx:=ak hb2 (aM rfl);have HBX:=hI hbx;clear hbx)
     |(go_at_call 45;refine((HD _ bw).out).mono ?_;rintro e w3 ⟨rfl,hb3⟩;have hbx:=ak hb3 HBX.1;have HBX3:=hI hbx;clear hbx)
     |(go_at_call 47;refine((HB _ bw).out).mono ?_;rintro e w4 hres;obtain rfl:=hres.no h0;have hbx:=ak hres.below HBX3.1;have HBX4:=hI hbx;have kb:=fun i=>ae hbx i;have kbf:=bv hbx;have kbz:=ah hbx;have HB4:=hI hres.below;clear hres hbx))
    refine leaves_cons (f:=46) (args:=#[.pointer (some ⟨w.heap.size,0,none⟩)]) (by simp) (by simp[go_sem]) ?_;refine(AP ⟨w.heap.size,0,none⟩ 0 er _ (kb 0) (kbf 0)).mono ?_;rintro e u' w'' ⟨rfl,rfl,rfl⟩;have hb5:=HB4.1;simp[Leaves,settle,results,Tryz.results33,go_sem,kb];exact bw
