import Derived.Test.YtgncgcfnlbfahaaGreatDoor0P
set_option linter.all false
namespace Go.Proofs.YtgncgcfnlbfahaaGreatDoor
set_option maxHeartbeats 4000000
set_option maxRecDepth 100000
open Go.RowKit
def eq(name:ByteArray)(most:Nat):Nat→List St→Option Nat
 |_,[]=>none
 |k,s::r=>if k<most∧s.kind=14∧s.label=name then some k else eq name most (k+1) r
theorem wG(name:ByteArray)(most:Nat):∀(l:List St) (k:Nat),eq name most k l=((l.take (most-k)).findIdx? fun s=>s.kind==14&&decide (s.label=name)).map (· + k)
 |[],k=>by simp[eq]
 |s::r,k=>by
  unfold eq;rw[wG name most r (k+1)];rcases Nat.lt_or_ge k most with h|h
  ·rw[show most-k=(most-(k+1))+1 by omega,List.take_succ_cons,List.findIdx?_cons];by_cases hp:s.kind=14∧s.label=name
   ·rw[if_pos ⟨h,hp⟩,if_pos (by simp[hp])];simp
   ·rw[if_neg (fun q=>hp q.2),if_neg (by simpa using hp),Option.map_map];congr 1;funext x;simp;omega
  ·rw[show most-k=0 by omega,show most-(k+1)=0 by omega,if_neg (by omega)];simp
theorem wI(l:List St)(name:ByteArray)(most:Nat):eq name most 0 l=cy l name most:=by
 rw[wG];unfold cy;simp
def eQ(o:Option Nat):Int:=match o with|some a=>(a:Int)|none=>-1
theorem pl{a b:ByteArray}(h:(a.toList==b.toList)=true):a=b:=by
 have e:=eq_of_beq h;rw[ByteArray.toList_eq,ByteArray.toList_eq]at e;exact l8 e
theorem Ab{a b:ByteArray}(h:a≠b):(a.toList==b.toList)=false:=by
 cases e:a.toList==b.toList
 ·rfl
 ·exact absurd (pl e) h
theorem pk{a b:ByteArray}(h:a=b):(a.toList==b.toList)=true:=by rw[h];simp
theorem wK{F:Nat→Prop}(l:List St)(la:Option Addr)(lc:Nat)(name:ByteArray)(most:Nat)(w:World)(hlc:l.length≤lc)(hlm:lc≤MX)(hat:St.Ats F w l la):Calls Tryz.prog 175 #[.slice la l.length lc,.string name,.int .i64 most] w fun e w'=>e=.returned (.int .i64 (eQ (cy l name most)))∧Below w.heap.size w w':=by
 have HAT:=hI hat;generalize hR:cy l name most=R;have HR:=hI (show eq name most 0 (l.drop 0)=R from(wI l name most).trans hR);unfold MX at hlm;have hlen:l.length≤9223372036854775807:=by omega
 clear hat hR
 go_enter Tryz.func175,Tryz.ntmps175
 go_wp2_with fail
 go_loopg [11] l.length (fun gk i wr=>∃k:Nat,gk+k=l.length∧i=.int .i64 k∧Hd (eq name most k (l.drop k)=R)∧Below w.heap.size w wr)
 case atStart=>exact⟨0,by omega,rfl,HR,Below.refl _ _⟩
 case round =>
 clear HR;obtain⟨k,hk,rfl,HR,hb⟩:=hrel;have HK:=hI hk;have HB:=hI hb;by_cases hlt:k<l.length
 ·obtain⟨y,hy⟩:∃y,l[k]?=some y:=⟨_,I1 hlt⟩
  obtain⟨b,off,h1,h2⟩:=St.ats_iff.1 HAT.1;obtain⟨hda,hbp,hlb⟩:=h1 (by intro h0;rw[h0]at hlt;simp at hlt);subst hda;obtain⟨cs,hr,dy,rfl,haty⟩:=h2 k y hy;have c0:=(hb.cell hlb).trans (hr 0 _ rfl);have c1:=(hb.cell hlb).trans (hr 1 _ rfl);have c2:=(hb.cell hlb).trans (hr 2 _ rfl);have c3:=(hb.cell hlb).trans (hr 3 _ rfl);have c4:=(hb.cell hlb).trans (hr 4 _ rfl);have c5:=(hb.cell hlb).trans (hr 5 _ rfl);have c6:=(hb.cell hlb).trans (hr 6 _ rfl);simp only[Nat.add_zero]at c0;have hsz:=hb.size;have hgw:b<wr.heap.size:=I4 hlb hsz;have hgn:¬wr.heap.size=b:=by omega
  have HST:=hI (by
   rw[←HR.1];obtain⟨h1,rfl⟩:=I2 hy;rw[List.drop_eq_getElem_cons h1];rfl:(if k<most∧y.kind=14∧y.label=name then some k else eq name most (k+1) (l.drop (k+1)))=R)
  clear h1 h2 hr haty hy hk HR;by_cases hp:k<most∧y.kind=14∧y.label=name
  ·have HE:=hI (by rw[←HST.1,if_pos hp]:some k=R);have q1:(k:Int)<(most:Int):=by omega
   have q2:(y.kind==14)=true:=by simp[hp.2.1]
   have q3:=pk hp.2.2;clear hp
   go_wp2_with fail
   go_ret;exact⟨by rw[←HE.1];rfl,bw⟩
  ·have HE:=hI (by rw[←HST.1,if_neg hp]:eq name most (k+1) (l.drop (k+1))=R);have HP:=hI hp;clear hp
   go_wp2_with fail
   all_goals first
    |exact absurd ⟨by assumption,by assumption,pl (by assumption)⟩ HP.1
    |(go_roundg (gk-1)
      case rel=>exact⟨k+1,by have:=HK.1;omega,by go_num,HE,bw⟩
      case measure=>have:=HK.1;omega)
 ·have hke:l.drop k=[]:=List.drop_eq_nil_of_le (by omega);have HE:=hI (by rw[←HR.1,hke];rfl:none=R);clear hke
  go_wp2_with fail
  go_ret;exact⟨by rw[←HE.1];rfl,bw⟩
theorem sp{l:List St}{k:Nat}{y:St}(h:l[k]?=some y):(l.drop k).all (fun s=>s.kind==14)=((y.kind==14)&&(l.drop (k+1)).all fun s=>s.kind==14):=by
 obtain⟨h1,rfl⟩:=I2 h;rw[List.drop_eq_getElem_cons h1,List.all_cons]
theorem tM{F:Nat→Prop}(l:List St)(la:Option Addr)(lc:Nat)(at_ fn bs:Int)(lp rp:Bool)(m:Value)(a:Nat)(w:World)(hlc:l.length≤lc)(hlm:lc≤MX)(ha:a<l.length)(hat:St.Ats F w l la):Calls Tryz.prog 177 #[.agg #[.slice la l.length lc,.int .i64 at_,.int .i64 fn,.bool lp,.bool rp,.int .i64 bs,m],.int .i64 a] w fun e w'=>e=.returned (.bool (!rp&&(l.drop a).all fun s=>s.kind==14))∧Below w.heap.size w w':=by
 have HAT:=hI hat;obtain⟨b,off,h1,h2⟩:=St.ats_iff.1 hat;obtain⟨rfl,hbp,hlb⟩:=h1 (by intro h0;rw[h0]at ha;simp at ha);have H2:=hI h2;clear hat h1 h2;unfold MX at hlm;have i1:(a:Int)≤(l.length:Int):=by omega
 have i2:(l.length:Int)≤(lc:Int):=by omega
 have hcf:¬lc=a:=by omega
 cases rp
 ·obtain⟨R,hR⟩:=nM ((l.drop a).all fun s=>s.kind==14)
  rw[←hR,show(!false&&R)=R by simp];have HR:=hI (show((l.drop (a+0)).all fun s=>s.kind==14)=R from hR.symm);clear hR
  go_enter Tryz.func177,Tryz.ntmps177
  go_wp2_with fail
  go_loopg [14] (l.length-a) (fun gk i wr=>∃k:Nat,gk+k=l.length-a∧i=.int .i64 k∧Hd (((l.drop (a+k)).all fun s=>s.kind==14)=R)∧Below w.heap.size w wr)
  case atStart=>exact⟨0,by omega,rfl,HR,bw⟩
  case round =>
  clear HR;obtain⟨k,hk,rfl,HR,hb⟩:=hrel;have HK:=hI hk;have HB:=hI hb;by_cases hlt:k<l.length-a
  ·obtain⟨y,hy⟩:∃y,l[a+k]?=some y:=⟨_,I1 (by omega)⟩
   obtain⟨cs,hr,dy,rfl,haty⟩:=H2.1 (a+k) y hy;rw[Nat.add_mul,←Nat.add_assoc]at hr;have c0:=(hb.cell hlb).trans (hr 0 _ rfl);have c1:=(hb.cell hlb).trans (hr 1 _ rfl);have c2:=(hb.cell hlb).trans (hr 2 _ rfl);have c3:=(hb.cell hlb).trans (hr 3 _ rfl);have c4:=(hb.cell hlb).trans (hr 4 _ rfl);have c5:=(hb.cell hlb).trans (hr 5 _ rfl);have c6:=(hb.cell hlb).trans (hr 6 _ rfl);simp only[Nat.add_zero]at c0;have hsz:=hb.size;have hgw:b<wr.heap.size:=I4 hlb hsz;have hgn:¬wr.heap.size=b:=by omega
   have HST:=hI (by rw[←HR.1,sp hy];rfl:((y.kind==14)&&(l.drop (a+(k+1))).all fun s=>s.kind==14)=R);clear hr haty hy hk HR;cases hq:(y.kind==14)
   ·have HE:=hI (by rw[←HST.1,hq];rfl:false=R);have hq2:(y.kind != 14)=true:=by simp[bne,hq]
    go_wp2_with fail
    go_ret;exact⟨by rw[←HE.1];rfl,bw⟩
   ·have HE:=hI (by rw[←HST.1,hq];simp:((l.drop (a+(k+1))).all fun s=>s.kind==14)=R);have hq2:(y.kind != 14)=false:=by simp[bne,hq]
    go_wp2_with fail
    go_roundg (gk-1)
    case rel=>exact⟨k+1,by have:=HK.1;omega,by go_num,HE,bw⟩
    case measure=>have:=HK.1;omega
  ·have HE:=hI (by rw[←HR.1,List.drop_eq_nil_of_le (by omega)];rfl:true=R)
   go_wp2_with fail
   go_ret;exact⟨by rw[←HE.1];rfl,bw⟩
 ·go_enter Tryz.func177,Tryz.ntmps177
  go_wp2_with fail
  go_ret;exact⟨rfl,bw⟩
theorem zM{l:List St}{a k:Nat}{y:St}(h:l[k]?=some y)(hk:k<a):((l.take a).drop k).any (fun s=>s.kind==1||s.kind==2)=((y.kind==1||y.kind==2)||((l.take a).drop (k+1)).any fun s=>s.kind==1||s.kind==2):=by
 have h2:(l.take a)[k]?=some y:=by rw[List.getElem?_take,if_pos hk,h]
 obtain⟨h1,rfl⟩:=I2 h2;rw[List.drop_eq_getElem_cons h1,List.any_cons]
theorem BC{F:Nat→Prop}(l:List St)(la:Option Addr)(lc:Nat)(at_:Nat)(fn bs:Int)(lp rp:Bool)(m:Value)(a:Nat)(w:World)(hlc:l.length≤lc)(hlm:lc≤MX)(ha:a<l.length)(hlt:at_<a)(hat:St.Ats F w l la):Calls Tryz.prog 176 #[.agg #[.slice la l.length lc,.int .i64 at_,.int .i64 fn,.bool lp,.bool rp,.int .i64 bs,m],.int .i64 a] w fun e w'=>e=.returned (.bool (((l.take a).drop (at_+1)).any (fun s=>s.kind==1||s.kind==2)&&!(!rp&&(l.drop a).all fun s=>s.kind==14)))∧Below w.heap.size w w':=by
 have HAT:=hI hat;obtain⟨b,off,h1,h2⟩:=St.ats_iff.1 hat;obtain⟨rfl,hbp,hlb⟩:=h1 (by intro h0;rw[h0]at ha;simp at ha);have H2:=hI h2;obtain⟨B,hB⟩:∃B,B=!(!rp&&(l.drop a).all fun s=>s.kind==14):=⟨_,rfl⟩
 have HC:=hI (fun w' hb=>by rw[hB,Bool.not_not];exact tM l _ lc at_ fn bs lp rp m a w' hlc hlm ha (hat.keep (af hb) (fun _ h=>h)):∀w',Below w.heap.size w w'→Calls Tryz.prog 177 #[.agg #[.slice (some ⟨b,off,none⟩) l.length lc,.int .i64 at_,.int .i64 fn,.bool lp,.bool rp,.int .i64 bs,m],.int .i64 a] w' fun e w''=>e=.returned (.bool (!B))∧Below w'.heap.size w' w'');obtain⟨R,hR⟩:=nM (((l.take a).drop (at_+1)).any (fun s=>s.kind==1||s.kind==2)&&B)
 rw[←hB,←hR];have HR:=hI hR.symm;clear hat h1 h2 hB hR;unfold MX at hlm;obtain⟨w1,hw1⟩:=nM (w.alloc (.cells #[.slice (some ⟨b,off,none⟩) l.length lc,.int .i64 at_,.int .i64 fn,.bool lp,.bool rp,.int .i64 bs,m] 125))
 have HB1:=bA hw1;have HX1:=nA hw1;obtain⟨kx,kxf,kxz⟩:=kK HX1
 go_enter Tryz.func176,Tryz.ntmps176
 go_upto_region 1 with fail
 rw[←hw1];clear hw1
 go_wp2_with fail
 go_loopg [5] (a-(at_+1)) (fun gk i wr=>∃k:Nat,gk+k=a∧at_+1≤k∧i=.int .i64 k∧Hd ((((l.take a).drop k).any (fun s=>s.kind==1||s.kind==2)&&B)=R)∧wr=w1)
 case atStart=>exact⟨at_+1,by omega,I6 _,by go_num,HR,rfl⟩
 case round =>
 clear HR;obtain⟨k,hk,hk1,rfl,HR,rfl⟩:=hrel;have HK:=hI hk;have HK1:=hI hk1;have hb1:=HB1.1;by_cases hlt2:k<a
 ·obtain⟨y,hy⟩:∃y,l[k]?=some y:=⟨_,I1 (by omega)⟩
  obtain⟨cs,hr,dy,rfl,haty⟩:=H2.1 k y hy;have c0:=(HB1.1.cell hlb).trans (hr 0 _ rfl);simp only[Nat.add_zero]at c0;have hgw:b<wr.heap.size:=I4 hlb HB1.1.size;have i1:(k:Int)<(l.length:Int):=by omega
  have HST:=hI (by rw[←HR.1,zM hy hlt2]:(((y.kind==1||y.kind==2)||((l.take a).drop (k+1)).any fun s=>s.kind==1||s.kind==2)&&B)=R);clear hr haty hy hk hk1 HR;by_cases hp:(y.kind==1||y.kind==2)=true
  ·have HE:=hI (by rw[←HST.1,hp];simp:B=R);have HP:=hI hp;clear hp
   go_wp2_with (first
    |(go_at_call 177;(with_reducible refine(HC.1 _ bw).mono ?_);rintro e9 w8 ⟨rfl,hb8⟩))
   all_goals first
    |(go_ret;exact⟨by rw[←HE.1];cases B<;>rfl,bw⟩)
    |(exfalso;have:=HP.1;simp_all)
  ·have hp0:(y.kind==1)=false∧(y.kind==2)=false:=by simpa using hp
   have HE:=hI (by rw[←HST.1,hp0.1,hp0.2];simp:(((l.take a).drop (k+1)).any (fun s=>s.kind==1||s.kind==2)&&B)=R);obtain⟨q1,q2⟩:=hp0;clear hp
   go_wp2_with fail
   go_roundg (gk-1)
   case rel=>exact⟨k+1,by have:=HK.1;omega,by have:=HK1.1;omega,by go_num,HE,rfl⟩
   case measure=>have:=HK.1;omega
 ·have hka:k=a:=by omega
  have HE:=hI (by rw[←HR.1,hka];simp:false=R);clear hka
  go_wp2_with fail
  go_ret;exact⟨by rw[←HE.1];rfl,HB1.1⟩
theorem gP(x:Fr×Rd):(fh x).length=7:=rfl
def dn(fn:Nat)(s:St)(f:Fr):Bool:=f.fn==fn&&(cy f.list s.label f.at_).isSome
theorem vi{fn:Nat}{s:St}{l:List Fr}{k:Nat}{f:Fr}(h:l[k]?=some f):(l.drop k).any (dn fn s)=(dn fn s f||(l.drop (k+1)).any (dn fn s)):=by
 obtain⟨h1,rfl⟩:=I2 h;rw[List.drop_eq_getElem_cons h1,List.any_cons]
theorem uA{G:Nat→Tg}{d:Wk}{σ:Sc}{w:World}(h:am G d w σ){k:Nat}(hk:k<σ.frames.length):∃f y,σ.frames[k]?=some f∧d.rs[k]?=some y∧(σ.frames.zip d.rs)[k]?=some (f,y)∧fJ G d.p k w f y:=by
 have h1:σ.frames[k]?=some σ.frames[k]:=I1 hk;have h2:d.rs[k]?=some (d.rs[k]'(by rw[h.lr];exact hk)):=I1 _;exact⟨_,_,h1,h2,(List.getElem?_zip_eq_some (z:=(_,_))).2 ⟨h1,h2⟩,h.fr k _ _ h1 h2⟩
theorem DJ(s:St)(ds:SA)(fn:Nat){G:Nat→Tg}{d:Wk}{σ:Sc}{N:Nat}(w:World)(hD:Bd N σ)(hN:N+3≤NB)(h:am G d w σ):Calls Tryz.prog 127 #[.pointer (some ⟨d.p,0,none⟩),.int .i64 fn,(sV s ds)] w (aC G d (ee fn s σ) w):=by
 delta sV
 obtain⟨na,nc,la,lc,ra,rc,ba,bc⟩:=ds;dsimp only;obtain⟨G0,hGo,hGf,h⟩:=h.start;have HSC:=hI h;have hpz:=al h.box;have hfN:=hD.frames;unfold NB at hN;have hll:(σ.frames.zip d.rs).length=σ.frames.length:=by rw[List.length_zip,h.lr];omega
 generalize hR:ee fn s σ=R;have HR:=hI (show(if(σ.frames.drop 0).any (dn fn s)=true then .error (s.line,10)else .ok σ)=R from hR);obtain⟨w1,hw1⟩:=nM (w.alloc (.cells #[.int .i64 s.kind,.int .i64 s.line,.slice na s.names.length nc,.slice la s.left.length lc,.slice ra s.right.length rc,.slice ba s.blocks.length bc,.string s.label] 97))
 have HB1:=bA hw1;have HX1:=nA hw1;obtain⟨kx,kxf,kxz⟩:=kK HX1;have HBX:=hI (aA HB1.1 h.box);obtain⟨kp,kpf,kpz⟩:=kK HBX;rcases h.rr.at_ gP with⟨hv,h0⟩|⟨g,c,hv,hD,hg,hc,hcm,hr⟩
 ·have e0:σ.frames.length=0:=by rw[←hll,h0];rfl
  have e1:σ.frames=[]:=List.length_eq_zero_iff.1 e0;have HE:=hI (by rw[←HR.1,e1];rfl:R=.ok σ);rw[hv]at kp;clear h hv h0 hR HR e0 e1 hll
  go_enter Tryz.func127,Tryz.ntmps127
  go_upto_region 1 with fail
  rw[←hw1];clear hw1
  go_wp2_with fail
  go_loopg [13] 0 (fun gk i wr=>gk=0∧i=.int .i64 0∧wr=w1)
  case atStart=>exact⟨rfl,rfl,rfl⟩
  case round =>
  obtain⟨rfl,rfl,rfl⟩:=hrel
  go_wp2_with fail
  go_end0;exact aC.yes HE ((Kt.of_below HB1.1).of_tag hGo) ⟨rfl,rfl,fun i y hy=>⟨y,hy,rfl⟩,fun b hb=>hGo b hb⟩ (HSC.1.below HB1.1)
 ·rw[hv,hll]at kp;have HRW:=hI hr;rw[hll]at hc;unfold maxLen at hcm;clear h hv hr hR hll hD
  go_enter Tryz.func127,Tryz.ntmps127
  go_upto_region 1 with fail
  rw[←hw1];clear hw1
  go_wp2_with fail
  have hg1:g<w1.heap.size:=I4 hg HB1.1.size;clear kp kpf kpz kx kxf kxz
  go_loopg [13] σ.frames.length (fun gk i wr=>∃k:Nat,gk+k=σ.frames.length∧i=.int .i64 k∧Hd ((if(σ.frames.drop k).any (dn fn s)=true then .error (s.line,10)else .ok σ)=R)∧Below w1.heap.size w1 wr)
  case atStart=>exact⟨0,by omega,rfl,HR,Below.refl _ _⟩
  case round =>
  clear HR;obtain⟨k,hk,rfl,HR,hb⟩:=hrel;have HK:=hI hk;have HB:=hI hb;have HX:=hI (aA hb HX1.1);obtain⟨kx,kxf,kxz⟩:=kK HX;by_cases hlt:k<σ.frames.length
  ·obtain⟨f,y,hf,hy,hz,hfr⟩:=uA HSC.1 hlt;have hr:=HRW.1 k (f,y) hz;have hb0:Below w.heap.size w wr:=by have:=HB1.1;exact bw
   have c0:=(hb0.cell hg).trans (hr 0 _ rfl);have c1:=(hb0.cell hg).trans (hr 1 _ rfl);have c2:=(hb0.cell hg).trans (hr 2 _ rfl);have c3:=(hb0.cell hg).trans (hr 3 _ rfl);have c4:=(hb0.cell hg).trans (hr 4 _ rfl);have c5:=(hb0.cell hg).trans (hr 5 _ rfl);have c6:=(hb0.cell hg).trans (hr 6 _ rfl);simp only[Nat.add_zero]at c0;dsimp only at c0 c1 c2 c3 c4 c5 c6;have hsz:=hb0.size;have hgw:g<wr.heap.size:=I4 hg hsz;have hgn:¬wr.heap.size=g:=by omega
   obtain⟨b1,b2,b3,b4⟩:=hfr.row;have HST:=hI (by rw[←HR.1,vi hf]:(if(dn fn s f||(σ.frames.drop (k+1)).any (dn fn s))=true then .error (s.line,10)else .ok σ)=R);obtain⟨P,hP⟩:=nM (cy f.list s.label f.at_)
   have HC:=hI (fun w' hb=>by rw[hP];exact wK f.list y.a y.c s.label f.at_ w' b1 b2 (b4.keep (af hb) (fun _ h=>h)):∀w',Below w.heap.size w w'→Calls Tryz.prog 175 #[.slice y.a f.list.length y.c,.string s.label,.int .i64 f.at_] w' fun e w''=>e=.returned (.int .i64 (eQ P))∧Below w'.heap.size w' w'');have HL:=hI (by rw[hP];rfl:dn fn s f=(f.fn==fn&&P.isSome));clear hr hz hf hy hfr hk HR hP;by_cases hfn:f.fn=fn
   ·have q1:((f.fn:Int)==(fn:Int))=true:=by rw[hfn];simp
    cases P with
    |none =>
     have HE:=hI (by rw[←HST.1,HL.1];simp:(if(σ.frames.drop (k+1)).any (dn fn s)=true then .error (s.line,10)else .ok σ)=R);clear hfn
     go_wp2_with (first
      |(go_at_call 175;(with_reducible refine(HC.1 _ bw).mono ?_);rintro e9 w8 ⟨rfl,hb8⟩;simp only[eQ]))
     go_roundg (gk-1)
     case rel=>exact⟨k+1,by have:=HK.1;omega,by go_num,HE,bw⟩
     case measure=>have:=HK.1;omega
    |some a =>
     have HE:=hI (by rw[←HST.1,HL.1,hfn];simp:R=.error (s.line,10));clear hfn
     go_wp2_with (first
      |(go_at_call 175;(with_reducible refine(HC.1 _ bw).mono ?_);rintro e9 w8 ⟨rfl,hb8⟩;simp only[eQ];have HX8:=hI (aA (show Below wr.heap.size wr w8 from bw) HX.1);clear kx kxf kxz;have kx:=fun j=>aO HX8.1 j;have kxf:=fun j=>dC HX8.1 j;have kxz:=al HX8.1)
      |(go_at_call 77;(with_reducible refine(jg _ _ _).mono ?_);rintro e9 w7 ⟨rfl,rfl⟩))
     exact⟨rfl,aC.no HE ((Kt.of_below bw).of_tag hGo)⟩
   ·have q1:((f.fn:Int)==(fn:Int))=false:=by simp;omega
    have HE:=hI (by rw[←HST.1,HL.1];simp[hfn]:(if(σ.frames.drop (k+1)).any (dn fn s)=true then .error (s.line,10)else .ok σ)=R);clear hfn
    go_wp2_with fail
    go_roundg (gk-1)
    case rel=>exact⟨k+1,by have:=HK.1;omega,by go_num,HE,bw⟩
    case measure=>have:=HK.1;omega
  ·have hke:σ.frames.drop k=[]:=List.drop_eq_nil_of_le (by omega);have HE:=hI (by rw[←HR.1,hke];rfl:R=.ok σ);clear hke;have hb0:Below w.heap.size w wr:=by have:=HB1.1;exact bw
   go_wp2_with fail
   go_end0;exact aC.yes HE ((Kt.of_below hb0).of_tag hGo) ⟨rfl,rfl,fun i y hy=>⟨y,hy,rfl⟩,fun b hb=>hGo b hb⟩ (HSC.1.below hb0)
theorem uz(x:Fr×Rd):∀u∈fh x,u.oneCell'=true:=by intro u hu;simp only[fh,List.mem_cons,List.not_mem_nil,or_false]at hu;rcases hu with rfl|rfl|rfl|rfl|rfl|rfl|rfl<;>rfl
theorem uS:(Tryz.prog.info? 125).map (fun i=>(i.zero,i.size,i.bytes))=some (some (.agg #[.slice none 0 0,.int .i64 0,.int .i64 0,.bool false,.bool false,.int .i64 0,.map none]),7,64):=by kernel_rfl
section
variable{G:Nat→Tg}{d:Wk}{w:World}{σ:Sc}
theorem rV{α β:Type}{l:List α}{m:List β}(h:l.length=m.length)(x:α)(y:β):(l++[x]).zip (m++[y])=l.zip m++[(x,y)]:=by rw[List.zip_append h];rfl
theorem zA{α β:Type}(l:List α)(m:List β)(k:Nat):(l.take k).zip (m.take k)=(l.zip m).take k:=by
 induction l generalizing m k with
 |nil=>simp
 |cons a r ih=>cases m with
  |nil=>simp
  |cons b s=>cases k with
   |zero=>rfl
   |succ k=>simp[ih]
theorem am.pushR{w':World}{o:Obj}{v:Value}{f:Fr}{y:Rd}(h:am G d w σ)(hg:(w.alloc o).grownBy w' d.vr.ownBlock)(hR:Rw fh 125 7 (Dt G d.p (3,0)) w' v (σ.frames.zip d.rs++[(f,y)]))(hf:fJ G d.p σ.frames.length w f y):
  am G {d with vr:=v,rs:=d.rs++[y]} (w'.setCell ⟨d.p,2,none⟩ v) {σ with frames:=σ.frames++[f]}∧Kt G d.p Own w (w'.setCell ⟨d.p,2,none⟩ v):=by
 have hk:Kt G d.p (fun t=>t=(0,0)∨t=(3,0)) w (w'.setCell ⟨d.p,2,none⟩ v):=Kt.push hg (h.rr.row _ (by simp)) ⟨I6 _,by rw[h.tp];simp⟩ v;have hb:=bp (bK hg (aN h.box o) (h.ne h.rr.dom (by decide))) 2 v;refine⟨h.frames' (hk.mono (by rintro t (rfl|rfl)<;>simp)) (by simpa using hb) (by rw[rV h.lr.symm];exact hR.keep ((aj.refl _ _).set (fun hd=>by have:=hd.2;rw[h.tp]at this;cases this) v)) (by simp[h.lr]) (fun k f1 y1 h1 h2=>?_),hk.mono (by rintro t (rfl|rfl)<;>decide)⟩;rcases Nat.lt_or_ge k σ.frames.length with hi|hi
 ·rw[List.getElem?_append_left hi]at h1;rw[List.getElem?_append_left (by rw[h.lr];exact hi)]at h2;exact(h.fr k f1 y1 h1 h2).kt hk (by simp)
 ·have hl:=(I2 h1).1;simp at hl;have:k=σ.frames.length:=by omega
  subst this;rw[←h.lr]at h2;simp at h1 h2;subst h1 h2;exact hf.kt hk (by simp)
theorem am.cutR(h:am G d w σ){a:Option Addr}{c k:Nat}(hv:d.vr=.slice a σ.frames.length c)(hk:k≤σ.frames.length):am G {d with vr:=.slice a k c,rs:=d.rs.take k} (w.setCell ⟨d.p,2,none⟩ (.slice a k c)) {σ with frames:=σ.frames.take k}∧Kt G d.p Own w (w.setCell ⟨d.p,2,none⟩ (.slice a k c)):=by
 have hk0:Kt G d.p (fun t=>t=(0,0)∨t=(3,0)) w (w.setCell ⟨d.p,2,none⟩ (.slice a k c)):=(Kt.refl (G:=G) (S:=fun t=>t=(0,0)∨t=(3,0))).set (a:=⟨d.p,2,none⟩) (.inr ⟨I6 _,by simp[h.tp]⟩) _;have hll:(σ.frames.zip d.rs).length=σ.frames.length:=by rw[List.length_zip,h.lr];omega
 have hr:=h.rr;rw[hv,←hll]at hr;have hb:=bp h.box 2 (.slice a k c);refine⟨h.frames' (hk0.mono (by rintro t (rfl|rfl)<;>simp)) (by simpa using hb) (by rw[zA];exact(hr.cut gP (by omega)).keep ((aj.refl _ _).set (fun hd=>by have:=hd.2;rw[h.tp]at this;cases this) _)) (by simp[h.lr]) (fun j f1 y1 h1 h2=>?_),hk0.mono (by rintro t (rfl|rfl)<;>decide)⟩;rw[List.getElem?_take]at h1 h2;split at h1
 ·rw[if_pos (by assumption)]at h2;exact(h.fr j f1 y1 h1 h2).kt hk0 (by simp)
 ·cases h1
theorem am.frm'{w':World}{k:Nat}{f':Fr}(h:am G d w σ)(hk:Kt G d.p (fun t=>t=(3,0)∨t=(11,k)) w w')(hr:Rw fh 125 7 (Dt G d.p (3,0)) w' d.vr ((σ.frames.set k f').zip d.rs))(hf:∀y,k<σ.frames.length→d.rs[k]?=some y→fJ G d.p k w' f' y):
  am G d w' {σ with frames:=σ.frames.set k f'}∧Kt G d.p Own w w':=by
 refine⟨h.frames' (v:=d.vr) (rs:=d.rs) (hk.mono (by rintro t (rfl|rfl)<;>simp)) (hk.box h.box fun _=>by rw[h.tp];simp) hr (by rw[List.length_set];exact h.lr) (fun j f1 y1 h1 h2=>?_),hk.mono (by rintro t (rfl|rfl)<;>simp[Own])⟩;rw[List.getElem?_set]at h1;rcases Nat.decEq k j with hne|rfl
 ·rw[if_neg hne]at h1;exact(h.fr j f1 y1 h1 h2).kt hk (by simp;omega)
 ·rw[if_pos rfl]at h1;split at h1
  ·cases h1;exact hf y1 (by assumption) h2
  ·cases h1
theorem zz{α β:Type}:∀(l:List α) (m:List β) (k:Nat) (a:α) (b:β),m[k]?=some b→(l.set k a).zip m=(l.zip m).set k (a,b)
 |[],m,k,a,b,h=>by simp
 |x::l,[],k,a,b,h=>by cases h
 |x::l,y::m,0,a,b,h=>by cases h;rfl
 |x::l,y::m,k+1,a,b,h=>by simp[zz l m k a b (by simpa using h)]
theorem am.setAt{k g c i:Nat}{f:Fr}{y:Rd}(h:am G d w σ)(hf:σ.frames[k]?=some f)(hy:d.rs[k]?=some y)(hv:d.vr=.slice (some ⟨g,0,none⟩) σ.frames.length c):
  am G d (w.setCell ⟨g,k*7+1,none⟩ (.int .i64 i)) {σ with frames:=σ.frames.set k {f with at_:=i} }∧Kt G d.p Own w (w.setCell ⟨g,k*7+1,none⟩ (.int .i64 i)):=by
 have hll:(σ.frames.zip d.rs).length=σ.frames.length:=by rw[List.length_zip,h.lr];omega
 have hD:=h.rr.dom g (by rw[hv];rfl);have hk:Kt G d.p (fun t=>t=(3,0)) w (w.setCell ⟨g,k*7+1,none⟩ (.int .i64 i)):=(Kt.refl).set (a:=⟨g,k*7+1,none⟩) (.inr ⟨hD.1,hD.2⟩) _;refine h.frm' (hk.mono fun t ht=>.inl ht) ?_ (fun z hz hz2=>?_)
 ·have hr:=h.rr;rw[hv,←hll]at hr;have h9:=hr.set (i:=k) (j:=1) (u:=.int .i64 i) (x:=(f,y)) (x':=({f with at_:=i},y)) gP ((List.getElem?_zip_eq_some (z:=(_,_))).2 ⟨hf,hy⟩) (by decide) rfl;rw[zz _ _ _ _ y hy,hv,←hll];exact h9
 ·have h9:=(h.fr k f z hf hz2).kt hk (by simp);exact⟨h9.row,h9.mp⟩
theorem am.bef'{w':World}{k m b:Nat}{f:Fr}{y:Rd}(h:am G d w σ)(hf:σ.frames[k]?=some f)(hy:d.rs[k]?=some y)(hm:y.m=some m)(hg:w.grownBy w' (some m))(hM:Mp 3 3 w' m (f.bef.length+1) (eB (f.bef++[b]))):
  am G d w' {σ with frames:=σ.frames.set k {f with bef:=f.bef++[b]} }∧Kt G d.p Own w w':=by
 have hF:=h.fr k f y hf hy;rcases hF.mp with⟨-,-,h1⟩|⟨hl,m',h1,h2,h3,h4⟩
 ·rw[h1]at hm;cases hm
 rw[h1]at hm;cases hm;have hk:Kt G d.p (fun t=>t=(11,k)) w w':=Kt.refl.grown hg fun b hb=>.inr (by cases hb;exact⟨h2,h3⟩);refine h.frm' (hk.mono fun t ht=>.inr ht) ?_ (fun z hz hz2=>?_)
 ·have hr:=h.rr.kt hk (by simp)
  have e1:((σ.frames.set k {f with bef:=f.bef++[b]}).zip d.rs).flatMap fh=(σ.frames.zip d.rs).flatMap fh:=by
   have h9:∀(l:List Fr) (m:List Rd) (k:Nat),l[k]?=some f→((l.set k {f with bef:=f.bef++[b]}).zip m).flatMap fh=(l.zip m).flatMap fh:=by
    intro l
    induction l with
    |nil=>intro m k hk;cases hk
    |cons a r ih =>
     intro m k hk;cases m with
     |nil=>simp
     |cons z m=>cases k with
      |zero=>cases hk;rfl
      |succ k=>simp[ih m k (by simpa using hk)]
   exact h9 _ _ _ hf
  exact⟨by rw[List.length_zip,List.length_set,←List.length_zip,e1];exact hr.own,hr.dom⟩
 ·rw[hy]at hz2;cases hz2;exact⟨⟨hF.row.1,hF.row.2.1,hF.row.2.2.1,hF.row.2.2.2.keep hk.keep_lt fun _ h=>h⟩,.inr ⟨hl,m,h1,h2,h3,by rw[List.length_append];exact hM⟩⟩
end
theorem Bd.pushR{N:Nat}{σ:Sc}(hN:Bd N σ)(f:Fr):Bd (N+1) {σ with frames:=σ.frames++[f]}:=by
 have h9:=hN.mono (by omega:N≤N+1);exact⟨h9.funs,h9.scope,by have:=hN.frames;simp;omega,h9.uses,h9.jumps,h9.fun_⟩
theorem bt.pushR{fn:Nat}{σ:Sc}(h:bt fn σ){f:Fr}(h1:f.base≤σ.scope.length)(h2:∀b∈f.bef,b≤σ.scope.length):bt fn {σ with frames:=σ.frames++[f]}:=by
 refine⟨h.lt,h.up,h.anc,h.num,fun g hg=>?_⟩;rcases List.mem_append.1 hg with hg|hg
 ·exact h.frm g hg
 ·rw[List.mem_singleton.1 hg];exact⟨h1,h2⟩
def Wk.more(d:Wk)(y:Rd):Wk:={d with rs:=d.rs++[y]}
theorem Nx.less{G G':Nat→Tg}{d d':Wk}{y:Rd}{w:World}{v u:Value}{n:Nat}(h:Nx G (d.more y) w G' d')(hn:n=d.rs.length):Nx G d w G' {d' with vr:=v,vs:=u,rs:=d'.rs.take n}:=
 ⟨h.p,by subst hn;show d'.rs.take _=_;rw[h.rs];simp[Wk.more],h.fs,h.tag⟩
