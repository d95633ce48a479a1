import Derived.Test.YtaddbmkkkollpaaGreatDoor0P
set_option linter.all false
namespace Go.Proofs.YtaddbmkkkollpaaGreatDoor
set_option maxHeartbeats 4000000
set_option maxRecDepth 100000
open Go.RowKit
def iV (name:ByteArray) (most:Nat):Nat→List St→Option Nat
  | _,[]=>none
  | k,s::r=>if k<most∧s.kind=14∧s.label=name then some k else iV name most (k+1) r
theorem xw (name:ByteArray) (most:Nat):∀ (l:List St) (k:Nat),iV name most k l=((l.take (most - k)).findIdx? fun s=>s.kind==14 && decide (s.label=name)).map (· + k)
  | [],k=>by simp [iV]
  | s::r,k=>by
    unfold iV;rw [xw name most r (k+1)];rcases Nat.lt_or_ge k most with h|h
    · rw [show most - k=(most - (k+1))+1 by omega,List.take_succ_cons,List.findIdx?_cons];by_cases hp:s.kind=14∧s.label=name
      · rw [if_pos ⟨h,hp⟩,if_pos (by simp [hp])];simp
      · rw [if_neg (fun q=>hp q.2),if_neg (by simpa using hp),Option.map_map];congr 1;funext x;simp;omega
    · rw [show most - k=0 by omega,show most - (k+1)=0 by omega,if_neg (by omega)];simp
theorem Hk (l:List St) (name:ByteArray) (most:Nat):iV name most 0 l=fG l name most:=by
  rw [xw];unfold fG;simp
def posI (o:Option Nat):Int:=match o with|some a=>(a:Int)|none=>-1
theorem AE {a b:ByteArray} (h:(a.toList==b.toList)=true):a=b:=by
  have e:=eq_of_beq h;rw [ByteArray.toList_eq,ByteArray.toList_eq] at e;exact oe e
theorem AD {a b:ByteArray} (h:a=b):(a.toList==b.toList)=true:=by rw [h];simp
theorem xx {F:Nat→Prop} (l:List St) (la:Option Addr) (lc:Nat) (name:ByteArray) (most:Nat) (w:World) (hlc:l.length≤lc) (hlm:lc≤MX) (hat:St.Ats F w l la) :
    Calls Tryz.prog 144 #[.slice la l.length lc,.string name,.int .i64 most] w fun e w'=>e=.returned (.int .i64 (posI (fG l name most)))∧Below w.heap.size w w':=by
  have HAT:=hI hat;generalize hR:fG l name most=R;have HR:=hI (show iV name most 0 (l.drop 0)=R from (Hk l name most).trans hR);unfold MX at hlm;have hlen:l.length≤9223372036854775807:=by omega
  clear hat hR
  go_enter Tryz.func144,Tryz.ntmps144
  go_wp2_with fail
  go_loopg [11] l.length (fun gk i wr=>∃ k:Nat,gk+k=l.length∧i=.int .i64 k∧Hid (iV name most k (l.drop k)=R)∧Below w.heap.size w wr)
  case atStart=>exact ⟨0,by omega,rfl,HR,Below.refl _ _⟩
  case round =>
  clear HR;obtain ⟨k,hk,rfl,HR,hb⟩:=hrel;have HK:=hI hk;have HB:=hI hb;by_cases hlt:k<l.length
  · obtain ⟨y,hy⟩:∃ y,l[k]?=some y:=⟨_,KP hlt⟩
    obtain ⟨b,off,h1,h2⟩:=St.ats_iff.1 HAT.out;obtain ⟨hda,hbp,hlb⟩:=h1 (by intro h0;rw [h0] at hlt;simp at hlt);subst hda;obtain ⟨cs,hr,dy,rfl,haty⟩:=h2 k y hy;have c0:=(hb.cell hlb).trans (hr 0 _ rfl);have c1:=(hb.cell hlb).trans (hr 1 _ rfl);have c2:=(hb.cell hlb).trans (hr 2 _ rfl);have c3:=(hb.cell hlb).trans (hr 3 _ rfl);have c4:=(hb.cell hlb).trans (hr 4 _ rfl);have c5:=(hb.cell hlb).trans (hr 5 _ rfl);have c6:=(hb.cell hlb).trans (hr 6 _ rfl);simp only [Nat.add_zero] at c0;have hsz:=hb.size;have hgw:b<wr.heap.size:=KS hlb hsz;have hgn:¬ wr.heap.size=b:=by omega
    have HST:=hI (show (if k<most∧y.kind=14∧y.label=name then some k else iV name most (k+1) (l.drop (k+1)))=R from by
      rw [←HR.out];obtain ⟨h1,rfl⟩:=KQ hy;rw [List.drop_eq_getElem_cons h1];rfl)
    clear h1 h2 hr haty hy hk HR;by_cases hp:k<most∧y.kind=14∧y.label=name
    · have HE:=hI (show some k=R from by rw [←HST.out,if_pos hp]);have q1:(k:Int)<(most:Int):=by omega
      have q2:(y.kind==14)=true:=by simp [hp.2.1]
      have q3:=AD hp.2.2;clear hp
      go_wp2_with fail
      go_ret;exact ⟨by rw [←HE.out];rfl,bw⟩
    · have HE:=hI (show iV name most (k+1) (l.drop (k+1))=R from by rw [←HST.out,if_neg hp]);have HP:=hI hp;clear hp
      go_wp2_with fail
      all_goals first
        | exact absurd ⟨by assumption,by assumption,AE (by assumption)⟩ HP.out
        | (go_roundg (gk - 1)
           case rel=>exact ⟨k+1,by have:=HK.out;omega,by go_num,HE,bw⟩
           case measure=>have:=HK.out;omega)
  · have hke:l.drop k=[]:=List.drop_eq_nil_of_le (by omega);have HE:=hI (show none=R from by rw [←HR.out,hke];rfl);clear hke
    go_wp2_with fail
    go_ret;exact ⟨by rw [←HE.out];rfl,bw⟩
theorem zZ {l:List St} {k:Nat} {y:St} (h:l[k]?=some y):(l.drop k).all (fun s=>s.kind==14)=((y.kind==14) && (l.drop (k+1)).all fun s=>s.kind==14):=by
  obtain ⟨h1,rfl⟩:=KQ h;rw [List.drop_eq_getElem_cons h1,List.all_cons]
theorem uD {F:Nat→Prop} (l:List St) (la:Option Addr) (lc:Nat) (at_ fn bs:Int) (lp rp:Bool) (m:Value) (a:Nat) (w:World) (hlc:l.length≤lc) (hlm:lc≤MX) (ha:a<l.length) (hat:St.Ats F w l la) :
    Calls Tryz.prog 146 #[.agg #[.slice la l.length lc,.int .i64 at_,.int .i64 fn,.bool lp,.bool rp,.int .i64 bs,m],.int .i64 a] w fun e w'=>e=.returned (.bool (!rp && (l.drop a).all fun s=>s.kind==14))∧Below w.heap.size w w':=by
  have HAT:=hI hat;obtain ⟨b,off,h1,h2⟩:=St.ats_iff.1 hat;obtain ⟨rfl,hbp,hlb⟩:=h1 (by intro h0;rw [h0] at ha;simp at ha);have H2:=hI h2;clear hat h1 h2;unfold MX at hlm;have i1:(a:Int)≤(l.length:Int):=by omega
  have i2:(l.length:Int)≤(lc:Int):=by omega
  have hcf:¬ lc=a:=by omega
  cases rp
  · obtain ⟨R,hR⟩:∃ R,R=(l.drop a).all fun s=>s.kind==14:=⟨_,rfl⟩
    rw [←hR,show (!false && R)=R by simp];have HR:=hI (show ((l.drop (a+0)).all fun s=>s.kind==14)=R from hR.symm);clear hR
    go_enter Tryz.func146,Tryz.ntmps146
    go_wp2_with fail
    go_loopg [14] (l.length - a) (fun gk i wr=>∃ k:Nat,gk+k=l.length - a∧i=.int .i64 k∧Hid (((l.drop (a+k)).all fun s=>s.kind==14)=R)∧Below w.heap.size w wr)
    case atStart=>exact ⟨0,by omega,rfl,HR,bw⟩
    case round =>
    clear HR;obtain ⟨k,hk,rfl,HR,hb⟩:=hrel;have HK:=hI hk;have HB:=hI hb;by_cases hlt:k<l.length - a
    · obtain ⟨y,hy⟩:∃ y,l[a+k]?=some y:=⟨_,KP (by omega)⟩
      obtain ⟨cs,hr,dy,rfl,haty⟩:=H2.out (a+k) y hy;rw [Nat.add_mul,←Nat.add_assoc] at hr;have c0:=(hb.cell hlb).trans (hr 0 _ rfl);have c1:=(hb.cell hlb).trans (hr 1 _ rfl);have c2:=(hb.cell hlb).trans (hr 2 _ rfl);have c3:=(hb.cell hlb).trans (hr 3 _ rfl);have c4:=(hb.cell hlb).trans (hr 4 _ rfl);have c5:=(hb.cell hlb).trans (hr 5 _ rfl);have c6:=(hb.cell hlb).trans (hr 6 _ rfl);simp only [Nat.add_zero] at c0;have hsz:=hb.size;have hgw:b<wr.heap.size:=KS hlb hsz;have hgn:¬ wr.heap.size=b:=by omega
      have HST:=hI (show ((y.kind==14) && (l.drop (a+(k+1))).all fun s=>s.kind==14)=R from by rw [←HR.out,zZ hy];rfl);clear hr haty hy hk HR;cases hq:(y.kind==14)
      · have HE:=hI (show false=R from by rw [←HST.out,hq];rfl);have hq2:(y.kind != 14)=true:=by simp [bne,hq]
        go_wp2_with fail
        go_ret;exact ⟨by rw [←HE.out];rfl,bw⟩
      · have HE:=hI (show ((l.drop (a+(k+1))).all fun s=>s.kind==14)=R from by rw [←HST.out,hq];simp);have hq2:(y.kind != 14)=false:=by simp [bne,hq]
        go_wp2_with fail
        go_roundg (gk - 1)
        case rel=>exact ⟨k+1,by have:=HK.out;omega,by go_num,HE,bw⟩
        case measure=>have:=HK.out;omega
    · have HE:=hI (show true=R from by rw [←HR.out,List.drop_eq_nil_of_le (by omega)];rfl)
      go_wp2_with fail
      go_ret;exact ⟨by rw [←HE.out];rfl,bw⟩
  · go_enter Tryz.func146,Tryz.ntmps146
    go_wp2_with fail
    go_ret;exact ⟨rfl,bw⟩
theorem z6 {l:List St} {a k:Nat} {y:St} (h:l[k]?=some y) (hk:k<a):((l.take a).drop k).any (fun s=>s.kind==1 || s.kind==2)=((y.kind==1 || y.kind==2) || ((l.take a).drop (k+1)).any fun s=>s.kind==1 || s.kind==2):=by
  have h2:(l.take a)[k]?=some y:=by rw [List.getElem?_take,if_pos hk,h]
  obtain ⟨h1,rfl⟩:=KQ h2;rw [List.drop_eq_getElem_cons h1,List.any_cons]
theorem Cn {F:Nat→Prop} (l:List St) (la:Option Addr) (lc:Nat) (at_:Nat) (fn bs:Int) (lp rp:Bool) (m:Value) (a:Nat) (w:World) (hlc:l.length≤lc) (hlm:lc≤MX) (ha:a<l.length) (hlt:at_<a) (hat:St.Ats F w l la) :
    Calls Tryz.prog 145 #[.agg #[.slice la l.length lc,.int .i64 at_,.int .i64 fn,.bool lp,.bool rp,.int .i64 bs,m],.int .i64 a] w fun e w'=>e=.returned (.bool (((l.take a).drop (at_+1)).any (fun s=>s.kind==1 || s.kind==2) && !(!rp && (l.drop a).all fun s=>s.kind==14)))∧Below w.heap.size w w':=by
  have HAT:=hI hat;obtain ⟨b,off,h1,h2⟩:=St.ats_iff.1 hat;obtain ⟨rfl,hbp,hlb⟩:=h1 (by intro h0;rw [h0] at ha;simp at ha);have H2:=hI h2;obtain ⟨B,hB⟩:∃ B,B = !(!rp && (l.drop a).all fun s=>s.kind==14):=⟨_,rfl⟩
  have HC:=hI (fun w' hb=>by rw [hB,Bool.not_not];exact uD l _ lc at_ fn bs lp rp m a w' hlc hlm ha (hat.keep (aq hb) (fun _ h=>h)):∀ w',Below w.heap.size w w'→Calls Tryz.prog 146 #[.agg #[.slice (some ⟨b,off,none⟩) l.length lc,.int .i64 at_,.int .i64 fn,.bool lp,.bool rp,.int .i64 bs,m],.int .i64 a] w' fun e w''=>e=.returned (.bool (!B))∧Below w'.heap.size w' w'');obtain ⟨R,hR⟩:∃ R,R=(((l.take a).drop (at_+1)).any (fun s=>s.kind==1 || s.kind==2) && B):=⟨_,rfl⟩
  rw [←hB,←hR];have HR:=hI hR.symm;clear hat h1 h2 hB hR;unfold MX at hlm;obtain ⟨w1,hw1⟩:∃ w1:World,w1=w.alloc (.cells #[.slice (some ⟨b,off,none⟩) l.length lc,.int .i64 at_,.int .i64 fn,.bool lp,.bool rp,.int .i64 bs,m] 115):=⟨_,rfl⟩
  have HB1:=hI (show Below w.heap.size w w1 from by rw [hw1];exact bw);have HX1:=hI (show w1.heap[w.heap.size]?=some (.cells #[.slice (some ⟨b,off,none⟩) l.length lc,.int .i64 at_,.int .i64 fn,.bool lp,.bool rp,.int .i64 bs,m] 115) from by rw [hw1];exact aA rfl);have kx:=fun i=>ac HX1.out i;have kxf:=fun i=>ag HX1.out i;have kxz:=ae HX1.out
  go_enter Tryz.func145,Tryz.ntmps145
  go_upto_region 1 with fail
  rw [←hw1];clear hw1
  go_wp2_with fail
  go_loopg [5] (a - (at_+1)) (fun gk i wr=>∃ k:Nat,gk+k=a∧at_+1≤k∧i=.int .i64 k∧Hid ((((l.take a).drop k).any (fun s=>s.kind==1 || s.kind==2) && B)=R)∧wr=w1)
  case atStart=>exact ⟨at_+1,by omega,KU _,by go_num,HR,rfl⟩
  case round =>
  clear HR;obtain ⟨k,hk,hk1,rfl,HR,rfl⟩:=hrel;have HK:=hI hk;have HK1:=hI hk1;have hb1:=HB1.out;by_cases hlt2:k<a
  · obtain ⟨y,hy⟩:∃ y,l[k]?=some y:=⟨_,KP (by omega)⟩
    obtain ⟨cs,hr,dy,rfl,haty⟩:=H2.out k y hy;have c0:=(HB1.out.cell hlb).trans (hr 0 _ rfl);simp only [Nat.add_zero] at c0;have hgw:b<wr.heap.size:=KS hlb HB1.out.size;have i1:(k:Int)<(l.length:Int):=by omega
    have HST:=hI (show (((y.kind==1 || y.kind==2) || ((l.take a).drop (k+1)).any fun s=>s.kind==1 || s.kind==2) && B)=R from by rw [←HR.out,z6 hy hlt2]);clear hr haty hy hk hk1 HR;by_cases hp:(y.kind==1 || y.kind==2)=true
    · have HE:=hI (show B=R from by rw [←HST.out,hp];simp);have HP:=hI hp;clear hp
      go_wp2_with (first
        | (go_at_call 146;(with_reducible refine (HC.out _ bw).mono ?_);rintro e9 w8 ⟨rfl,hb8⟩))
      all_goals first
        | (go_ret;exact ⟨by rw [←HE.out];cases B <;> rfl,bw⟩)
        | (exfalso;have:=HP.out;simp_all)
    · have hp0:(y.kind==1)=false∧(y.kind==2)=false:=by simpa using hp
      have HE:=hI (show (((l.take a).drop (k+1)).any (fun s=>s.kind==1 || s.kind==2) && B)=R from by rw [←HST.out,hp0.1,hp0.2];simp);obtain ⟨q1,q2⟩:=hp0;clear hp
      go_wp2_with fail
      go_roundg (gk - 1)
      case rel=>exact ⟨k+1,by have:=HK.out;omega,by have:=HK1.out;omega,by go_num,HE,rfl⟩
      case measure=>have:=HK.out;omega
  · have hka:k=a:=by omega
    have HE:=hI (show false=R from by rw [←HR.out,hka];simp);clear hka
    go_wp2_with fail
    go_ret;exact ⟨by rw [←HE.out];rfl,HB1.out⟩
theorem iQ (x:Fr × Rd):(fy x).length=7:=rfl
def ia (fn:Nat) (s:St) (f:Fr):Bool:=f.fn==fn && (fG f.list s.label f.at_).isSome
theorem EV {fn:Nat} {s:St} {l:List Fr} {k:Nat} {f:Fr} (h:l[k]?=some f):(l.drop k).any (ia fn s)=(ia fn s f || (l.drop (k+1)).any (ia fn s)):=by
  obtain ⟨h1,rfl⟩:=KQ h;rw [List.drop_eq_getElem_cons h1,List.any_cons]
theorem vg {G:Nat→Tg} {d:Wk} {σ:Sc} {w:World} (h:av G d w σ) {k:Nat} (hk:k<σ.frames.length):∃ f y,σ.frames[k]?=some f∧d.rs[k]?=some y∧(σ.frames.zip d.rs)[k]?=some (f,y)∧gt G d.p k w f y:=by
  have h1:σ.frames[k]?=some σ.frames[k]:=KP hk;have h2:d.rs[k]?=some (d.rs[k]'(by rw [h.lr];exact hk)):=KP _;exact ⟨_,_,h1,h2,(List.getElem?_zip_eq_some (z:=(_,_))).2 ⟨h1,h2⟩,h.fr k _ _ h1 h2⟩
theorem EW (s:St) (ds:SA) (fn:Nat) {G:Nat→Tg} {d:Wk} {σ:Sc} {N:Nat} (w:World) (hD:Bd N σ) (hN:N+3≤NB) (h:av G d w σ) :
    Calls Tryz.prog 107 #[.pointer (some ⟨d.p,0,none⟩),.int .i64 fn,(sV s ds)] w (aG G d (gM fn s σ) w):=by
  delta sV
  obtain ⟨na,nc,la,lc,ra,rc,ba,bc⟩:=ds;dsimp only;obtain ⟨G0,hGo,hGf,h⟩:=h.start;have HSC:=hI h;have hpz:=ae h.box;have hfN:=hD.frames;unfold NB at hN;have hll:(σ.frames.zip d.rs).length=σ.frames.length:=by rw [List.length_zip,h.lr];omega
  generalize hR:gM fn s σ=R;have HR:=hI (show (if (σ.frames.drop 0).any (ia fn s)=true then .error (s.line,10) else .ok σ)=R from hR);obtain ⟨w1,hw1⟩:∃ w1:World,w1=w.alloc (.cells #[.int .i64 s.kind,.int .i64 s.line,.slice na s.names.length nc,.slice la s.left.length lc,.slice ra s.right.length rc,.slice ba s.blocks.length bc,.string s.label] 64):=⟨_,rfl⟩
  have HB1:=hI (show Below w.heap.size w w1 from by rw [hw1];exact bw);have HX1:=hI (show w1.heap[w.heap.size]?=some (.cells #[.int .i64 s.kind,.int .i64 s.line,.slice na s.names.length nc,.slice la s.left.length lc,.slice ra s.right.length rc,.slice ba s.blocks.length bc,.string s.label] 64) from by rw [hw1];exact aA rfl);have kx:=fun i=>ac HX1.out i;have kxf:=fun i=>ag HX1.out i;have kxz:=ae HX1.out;have HBX:=hI (aD HB1.out h.box);have kp:=fun i=>ac HBX.out i;have kpf:=fun i=>ag HBX.out i;have kpz:=ae HBX.out;rcases h.rr.at_ iQ with ⟨hv,h0⟩|⟨g,c,hv,hD,hg,hc,hcm,hr⟩
  · have e0:σ.frames.length=0:=by rw [←hll,h0];rfl
    have e1:σ.frames=[]:=List.length_eq_zero_iff.1 e0;have HE:=hI (show R=.ok σ from by rw [←HR.out,e1];rfl);rw [hv] at kp;clear h hv h0 hR HR e0 e1 hll
    go_enter Tryz.func107,Tryz.ntmps107
    go_upto_region 1 with fail
    rw [←hw1];clear hw1
    go_wp2_with fail
    go_loopg [13] 0 (fun gk i wr=>gk=0∧i=.int .i64 0∧wr=w1)
    case atStart=>exact ⟨rfl,rfl,rfl⟩
    case round =>
    obtain ⟨rfl,rfl,rfl⟩:=hrel
    go_wp2_with fail
    go_end0;exact aG.yes HE ((Kt.of_below HB1.out).of_tag hGo) ⟨rfl,rfl,fun i y hy=>⟨y,hy,rfl⟩,fun b hb=>hGo b hb⟩ (HSC.out.below HB1.out)
  · rw [hv,hll] at kp;have HRW:=hI hr;rw [hll] at hc;unfold maxLen at hcm;clear h hv hr hR hll hD
    go_enter Tryz.func107,Tryz.ntmps107
    go_upto_region 1 with fail
    rw [←hw1];clear hw1
    go_wp2_with fail
    have hg1:g<w1.heap.size:=KS hg HB1.out.size;clear kp kpf kpz kx kxf kxz
    go_loopg [13] σ.frames.length (fun gk i wr=>∃ k:Nat,gk+k=σ.frames.length∧i=.int .i64 k∧Hid ((if (σ.frames.drop k).any (ia fn s)=true then .error (s.line,10) else .ok σ)=R)∧Below w1.heap.size w1 wr)
    case atStart=>exact ⟨0,by omega,rfl,HR,Below.refl _ _⟩
    case round =>
    clear HR;obtain ⟨k,hk,rfl,HR,hb⟩:=hrel;have HK:=hI hk;have HB:=hI hb;have HX:=hI (aD hb HX1.out);have kx:=fun i=>ac HX.out i;have kxf:=fun i=>ag HX.out i;have kxz:=ae HX.out;by_cases hlt:k<σ.frames.length
    · obtain ⟨f,y,hf,hy,hz,hfr⟩:=vg HSC.out hlt;have hr:=HRW.out k (f,y) hz;have hb0:Below w.heap.size w wr:=by have:=HB1.out;exact bw
      have c0:=(hb0.cell hg).trans (hr 0 _ rfl);have c1:=(hb0.cell hg).trans (hr 1 _ rfl);have c2:=(hb0.cell hg).trans (hr 2 _ rfl);have c3:=(hb0.cell hg).trans (hr 3 _ rfl);have c4:=(hb0.cell hg).trans (hr 4 _ rfl);have c5:=(hb0.cell hg).trans (hr 5 _ rfl);have c6:=(hb0.cell hg).trans (hr 6 _ rfl);simp only [Nat.add_zero] at c0;dsimp only at c0 c1 c2 c3 c4 c5 c6;have hsz:=hb0.size;have hgw:g<wr.heap.size:=KS hg hsz;have hgn:¬ wr.heap.size=g:=by omega
      obtain ⟨b1,b2,b3,b4⟩:=hfr.row;have HST:=hI (show (if (ia fn s f || (σ.frames.drop (k+1)).any (ia fn s))=true then .error (s.line,10) else .ok σ)=R from by rw [←HR.out,EV hf]);obtain ⟨P,hP⟩:∃ P,P=fG f.list s.label f.at_:=⟨_,rfl⟩
      have HC:=hI (fun w' hb=>by rw [hP];exact xx f.list y.a y.c s.label f.at_ w' b1 b2 (b4.keep (aq hb) (fun _ h=>h)):∀ w',Below w.heap.size w w'→Calls Tryz.prog 144 #[.slice y.a f.list.length y.c,.string s.label,.int .i64 f.at_] w' fun e w''=>e=.returned (.int .i64 (posI P))∧Below w'.heap.size w' w'');have HL:=hI (show ia fn s f=(f.fn==fn && P.isSome) from by rw [hP];rfl);clear hr hz hf hy hfr hk HR hP;by_cases hfn:f.fn=fn
      · have q1:((f.fn:Int)==(fn:Int))=true:=by rw [hfn];simp
        cases P with
        | none =>
          have HE:=hI (show (if (σ.frames.drop (k+1)).any (ia fn s)=true then .error (s.line,10) else .ok σ)=R from by rw [←HST.out,HL.out];simp);clear hfn
          go_wp2_with (first
            | (go_at_call 144;(with_reducible refine (HC.out _ bw).mono ?_);rintro e9 w8 ⟨rfl,hb8⟩;simp only [posI]))
          go_roundg (gk - 1)
          case rel=>exact ⟨k+1,by have:=HK.out;omega,by go_num,HE,bw⟩
          case measure=>have:=HK.out;omega
        | some a =>
          have HE:=hI (show R=.error (s.line,10) from by rw [←HST.out,HL.out,hfn];simp);clear hfn
          go_wp2_with (first
            | (go_at_call 144;(with_reducible refine (HC.out _ bw).mono ?_);rintro e9 w8 ⟨rfl,hb8⟩;simp only [posI];have HX8:=hI (aD (show Below wr.heap.size wr w8 from bw) HX.out);clear kx kxf kxz;have kx:=fun j=>ac HX8.out j;have kxf:=fun j=>ag HX8.out j;have kxz:=ae HX8.out)
            | (go_at_call 71;(with_reducible refine (ko _ _ _).mono ?_);rintro e9 w7 ⟨rfl,rfl⟩))
          exact ⟨rfl,aG.no HE ((Kt.of_below bw).of_tag hGo)⟩
      · have q1:((f.fn:Int)==(fn:Int))=false:=by simp;omega
        have HE:=hI (show (if (σ.frames.drop (k+1)).any (ia fn s)=true then .error (s.line,10) else .ok σ)=R from by rw [←HST.out,HL.out];simp [hfn]);clear hfn
        go_wp2_with fail
        go_roundg (gk - 1)
        case rel=>exact ⟨k+1,by have:=HK.out;omega,by go_num,HE,bw⟩
        case measure=>have:=HK.out;omega
    · have hke:σ.frames.drop k=[]:=List.drop_eq_nil_of_le (by omega);have HE:=hI (show R=.ok σ from by rw [←HR.out,hke];rfl);clear hke;have hb0:Below w.heap.size w wr:=by have:=HB1.out;exact bw
      go_wp2_with fail
      go_end0;exact aG.yes HE ((Kt.of_below hb0).of_tag hGo) ⟨rfl,rfl,fun i y hy=>⟨y,hy,rfl⟩,fun b hb=>hGo b hb⟩ (HSC.out.below hb0)
theorem ve (x:Fr × Rd):∀ u ∈ fy x,u.oneCell'=true:=by intro u hu;simp only [fy,List.mem_cons,List.not_mem_nil,or_false] at hu;rcases hu with rfl|rfl|rfl|rfl|rfl|rfl|rfl <;> rfl
theorem vN:(Tryz.prog.info? 115).map (fun i=>(i.zero,i.size,i.bytes))=some (some (.agg #[.slice none 0 0,.int .i64 0,.int .i64 0,.bool false,.bool false,.int .i64 0,.map none]),7,64):=by kernel_rfl
section
variable {G:Nat→Tg} {d:Wk} {w:World} {σ:Sc}
theorem KJ {α β:Type} {l:List α} {m:List β} (h:l.length=m.length) (x:α) (y:β):(l++[x]).zip (m++[y])=l.zip m++[(x,y)]:=by rw [List.zip_append h];rfl
theorem KK {α β:Type} (l:List α) (m:List β) (k:Nat):(l.take k).zip (m.take k)=(l.zip m).take k:=by
  induction l generalizing m k with
  | nil=>simp
  | cons a r ih=>cases m with
    | nil=>simp
    | cons b s=>cases k with
      | zero=>rfl
      | succ k=>simp [ih]
theorem av.pushR {w':World} {o:Obj} {v:Value} {f:Fr} {y:Rd} (h:av G d w σ) (hg:(w.alloc o).grownBy w' d.vr.ownBlock) (hR:Rw fy 115 7 (Dt G d.p (3,0)) w' v (σ.frames.zip d.rs++[(f,y)])) (hf:gt G d.p σ.frames.length w f y) :
    av G { d with vr:=v,rs:=d.rs++[y] } (w'.setCell ⟨d.p,2,none⟩ v) { σ with frames:=σ.frames++[f] }∧Kt G d.p Own w (w'.setCell ⟨d.p,2,none⟩ v):=by
  have hk:Kt G d.p (fun t=>t=(0,0)∨t=(3,0)) w (w'.setCell ⟨d.p,2,none⟩ v):=Kt.push hg (h.rr.row _ (by simp)) ⟨KU _,by rw [h.tp];simp⟩ v;have hb:=aR (bR hg (ax h.box o) (h.ne h.rr.dom (by decide))) 2 v;refine ⟨h.frames' (hk.mono (by rintro t (rfl|rfl) <;> simp)) (by simpa using hb) (by rw [KJ h.lr.symm];exact hR.keep ((af.refl _ _).set (fun hd=>by have:=hd.2;rw [h.tp] at this;cases this) v)) (by simp [h.lr]) (fun k f1 y1 h1 h2=>?_),hk.mono (by rintro t (rfl|rfl) <;> decide)⟩;rcases Nat.lt_or_ge k σ.frames.length with hi|hi
  · rw [List.getElem?_append_left hi] at h1;rw [List.getElem?_append_left (by rw [h.lr];exact hi)] at h2;exact (h.fr k f1 y1 h1 h2).kt hk (by simp)
  · have hl:=(KQ h1).1;simp at hl;have:k=σ.frames.length:=by omega
    subst this;rw [←h.lr] at h2;simp at h1 h2;subst h1 h2;exact hf.kt hk (by simp)
theorem av.cutR (h:av G d w σ) {a:Option Addr} {c k:Nat} (hv:d.vr=.slice a σ.frames.length c) (hk:k≤σ.frames.length):av G { d with vr:=.slice a k c,rs:=d.rs.take k } (w.setCell ⟨d.p,2,none⟩ (.slice a k c)) { σ with frames:=σ.frames.take k }∧Kt G d.p Own w (w.setCell ⟨d.p,2,none⟩ (.slice a k c)):=by
  have hk0:Kt G d.p (fun t=>t=(0,0)∨t=(3,0)) w (w.setCell ⟨d.p,2,none⟩ (.slice a k c)):=(Kt.refl (G:=G) (S:=fun t=>t=(0,0)∨t=(3,0))).set (a:=⟨d.p,2,none⟩) (.inr ⟨KU _,by simp [h.tp]⟩) _;have hll:(σ.frames.zip d.rs).length=σ.frames.length:=by rw [List.length_zip,h.lr];omega
  have hr:=h.rr;rw [hv,←hll] at hr;have hb:=aR h.box 2 (.slice a k c);refine ⟨h.frames' (hk0.mono (by rintro t (rfl|rfl) <;> simp)) (by simpa using hb) (by rw [KK];exact (hr.cut iQ (by omega)).keep ((af.refl _ _).set (fun hd=>by have:=hd.2;rw [h.tp] at this;cases this) _)) (by simp [h.lr]) (fun j f1 y1 h1 h2=>?_),hk0.mono (by rintro t (rfl|rfl) <;> decide)⟩;rw [List.getElem?_take] at h1 h2;split at h1
  · rw [if_pos (by assumption)] at h2;exact (h.fr j f1 y1 h1 h2).kt hk0 (by simp)
  · cases h1
theorem av.frm' {w':World} {k:Nat} {f':Fr} (h:av G d w σ) (hk:Kt G d.p (fun t=>t=(3,0)∨t=(11,k)) w w') (hr:Rw fy 115 7 (Dt G d.p (3,0)) w' d.vr ((σ.frames.set k f').zip d.rs)) (hf:∀ y,k<σ.frames.length→d.rs[k]?=some y→gt G d.p k w' f' y) :
    av G d w' { σ with frames:=σ.frames.set k f' }∧Kt G d.p Own w w':=by
  refine ⟨h.frames' (v:=d.vr) (rs:=d.rs) (hk.mono (by rintro t (rfl|rfl) <;> simp)) (hk.box h.box fun _=>by rw [h.tp];simp) hr (by rw [List.length_set];exact h.lr) (fun j f1 y1 h1 h2=>?_),hk.mono (by rintro t (rfl|rfl) <;> simp [Own])⟩;rw [List.getElem?_set] at h1;rcases Nat.decEq k j with hne|rfl
  · rw [if_neg hne] at h1;exact (h.fr j f1 y1 h1 h2).kt hk (by simp;omega)
  · rw [if_pos rfl] at h1;split at h1
    · cases h1;exact hf y1 (by assumption) h2
    · cases h1
theorem zM {α β:Type}:∀ (l:List α) (m:List β) (k:Nat) (a:α) (b:β),m[k]?=some b→(l.set k a).zip m=(l.zip m).set k (a,b)
  | [],m,k,a,b,h=>by simp
  | x::l,[],k,a,b,h=>by cases h
  | x::l,y::m,0,a,b,h=>by cases h;rfl
  | x::l,y::m,k+1,a,b,h=>by simp [zM l m k a b (by simpa using h)]
theorem av.setAt {k g c i:Nat} {f:Fr} {y:Rd} (h:av G d w σ) (hf:σ.frames[k]?=some f) (hy:d.rs[k]?=some y) (hv:d.vr=.slice (some ⟨g,0,none⟩) σ.frames.length c) :
    av G d (w.setCell ⟨g,k*7+1,none⟩ (.int .i64 i)) { σ with frames:=σ.frames.set k { f with at_:=i } }∧Kt G d.p Own w (w.setCell ⟨g,k*7+1,none⟩ (.int .i64 i)):=by
  have hll:(σ.frames.zip d.rs).length=σ.frames.length:=by rw [List.length_zip,h.lr];omega
  have hD:=h.rr.dom g (by rw [hv];rfl);have hk:Kt G d.p (fun t=>t=(3,0)) w (w.setCell ⟨g,k*7+1,none⟩ (.int .i64 i)):=(Kt.refl).set (a:=⟨g,k*7+1,none⟩) (.inr ⟨hD.1,hD.2⟩) _;refine h.frm' (hk.mono fun t ht=>.inl ht) ?_ (fun z hz hz2=>?_)
  · have hr:=h.rr;rw [hv,←hll] at hr;have h9:=hr.set (i:=k) (j:=1) (u:=.int .i64 i) (x:=(f,y)) (x':=({ f with at_:=i },y)) iQ ((List.getElem?_zip_eq_some (z:=(_,_))).2 ⟨hf,hy⟩) (by decide) rfl;rw [zM _ _ _ _ y hy,hv,←hll];exact h9
  · have h9:=(h.fr k f z hf hz2).kt hk (by simp);exact ⟨h9.row,h9.mp⟩
theorem av.bef' {w':World} {k m b:Nat} {f:Fr} {y:Rd} (h:av G d w σ) (hf:σ.frames[k]?=some f) (hy:d.rs[k]?=some y) (hm:y.m=some m) (hg:w.grownBy w' (some m)) (hM:Mp 3 3 w' m (f.bef.length+1) (eW (f.bef++[b]))) :
    av G d w' { σ with frames:=σ.frames.set k { f with bef:=f.bef++[b] } }∧Kt G d.p Own w w':=by
  have hF:=h.fr k f y hf hy;rcases hF.mp with ⟨-,-,h1⟩|⟨hl,m',h1,h2,h3,h4⟩
  · rw [h1] at hm;cases hm
  rw [h1] at hm;cases hm;have hk:Kt G d.p (fun t=>t=(11,k)) w w':=Kt.refl.grown hg fun b hb=>.inr (by cases hb;exact ⟨h2,h3⟩);refine h.frm' (hk.mono fun t ht=>.inr ht) ?_ (fun z hz hz2=>?_)
  · have hr:=h.rr.kt hk (by simp)
    have e1:((σ.frames.set k { f with bef:=f.bef++[b] }).zip d.rs).flatMap fy=(σ.frames.zip d.rs).flatMap fy:=by
      have h9:∀ (l:List Fr) (m:List Rd) (k:Nat),l[k]?=some f→((l.set k { f with bef:=f.bef++[b] }).zip m).flatMap fy=(l.zip m).flatMap fy:=by
        intro l
        induction l with
        | nil=>intro m k hk;cases hk
        | cons a r ih =>
          intro m k hk;cases m with
          | nil=>simp
          | cons z m=>cases k with
            | zero=>cases hk;rfl
            | succ k=>simp [ih m k (by simpa using hk)]
      exact h9 _ _ _ hf
    exact ⟨by rw [List.length_zip,List.length_set,←List.length_zip,e1];exact hr.own,hr.dom⟩
  · rw [hy] at hz2;cases hz2;exact ⟨⟨hF.row.1,hF.row.2.1,hF.row.2.2.1,hF.row.2.2.2.keep hk.keep_lt fun _ h=>h⟩,.inr ⟨hl,m,h1,h2,h3,by rw [List.length_append];exact hM⟩⟩
end
theorem Bd.pushR {N:Nat} {σ:Sc} (hN:Bd N σ) (f:Fr):Bd (N+1) { σ with frames:=σ.frames++[f] }:=by
  have h9:=hN.mono (show N≤N+1 by omega);exact ⟨h9.funs,h9.scope,by have:=hN.frames;simp;omega,h9.uses,h9.jumps,h9.fun_⟩
theorem bm.pushR {fn:Nat} {σ:Sc} (h:bm fn σ) {f:Fr} (h1:f.base≤σ.scope.length) (h2:∀ b ∈ f.bef,b≤σ.scope.length):bm fn { σ with frames:=σ.frames++[f] }:=by
  refine ⟨h.lt,h.up,h.anc,h.num,fun g hg=>?_⟩;rcases List.mem_append.1 hg with hg|hg
  · exact h.frm g hg
  · rw [List.mem_singleton.1 hg];exact ⟨h1,h2⟩
def Wk.more (d:Wk) (y:Rd):Wk:={ d with rs:=d.rs++[y] }
theorem Nx.less {G G':Nat→Tg} {d d':Wk} {y:Rd} {w:World} {v u:Value} {n:Nat} (h:Nx G (d.more y) w G' d') (hn:n=d.rs.length):Nx G d w G' { d' with vr:=v,vs:=u,rs:=d'.rs.take n } :=
  ⟨h.p,by subst hn;show d'.rs.take _=_;rw [h.rs];simp [Wk.more],h.fs,h.tag⟩
