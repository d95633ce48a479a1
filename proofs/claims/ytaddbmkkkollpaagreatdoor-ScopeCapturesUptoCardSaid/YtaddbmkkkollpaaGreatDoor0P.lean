import Derived.Test.YtaddbmkkkollpaaGreatDoor0K
set_option linter.all false
namespace Go.Proofs.YtaddbmkkkollpaaGreatDoor
set_option maxHeartbeats 4000000
set_option maxRecDepth 100000
open Go.RowKit
mutual
def Ex.wf:Ex→Prop | .mk _ _ _ _ _ _ a f=>Ex.wfs a∧Fn.wfs f
def Ex.wfs:List Ex→Prop|[]=>True|x::r=>x.wf∧Ex.wfs r
def Fn.wf:Fn→Prop | .mk _ _ _ b _=>St.wfs b
def Fn.wfs:List Fn→Prop|[]=>True|x::r=>x.wf∧Fn.wfs r
def St.wf:St→Prop | .mk k _ ns l r b _=>((k=5∨k=6∨k=7∨k=9∨k=10)→b≠[])∧(k=2→ns≠[])∧Ex.wfs l∧Ex.wfs r∧St.wfss b
def St.wfs:List St→Prop|[]=>True|x::r=>x.wf∧St.wfs r
def St.wfss:List (List St)→Prop|[]=>True|x::r=>St.wfs x∧St.wfss r
end
theorem pS {P:Prop} (h:P:=by
  induction l with
  | nil=>intro x hx;cases hx
  | cons y r ih=>intro x hx;rcases List.mem_cons.1 hx with rfl|hx;exact h.1;exact ih h.2 x hx):P:=h
theorem Ex.wfs_mem {l:List Ex} (h:Ex.wfs l):∀ x ∈ l,x.wf:=by
  exact pS
theorem Fn.wfs_mem {l:List Fn} (h:Fn.wfs l):∀ x ∈ l,x.wf:=by
  exact pS
theorem St.wfs_mem {l:List St} (h:St.wfs l):∀ x ∈ l,x.wf:=by
  exact pS
theorem St.wfss_mem {l:List (List St)} (h:St.wfss l):∀ x ∈ l,St.wfs x:=by
  exact pS
theorem Ex.wf_eq (x:Ex):x.wf=(Ex.wfs x.args∧Fn.wfs x.funcs):=by cases x;rfl
theorem Fn.wf_eq (x:Fn):x.wf=St.wfs x.body:=by cases x;rfl
theorem St.wf_eq (x:St):x.wf=(((x.kind=5∨x.kind=6∨x.kind=7∨x.kind=9∨x.kind=10)→x.blocks≠[])∧(x.kind=2→x.names≠[])∧Ex.wfs x.left∧Ex.wfs x.right∧St.wfss x.blocks):=by cases x;rfl
theorem hJ {G0 G1:Nat→Tg} {d d1:Wk} {w wb wc:World} (hp:d1.p=d.p) (hn:Nx G0 d w G1 d1) (k:Kt G1 d1.p Own wb wc) (h:Kt G0 d.p Own w wb):Kt G0 d.p Own w wc:=(show Kt G1 d.p Own wb wc from hp ▸ k).thru h hn.tag
theorem ka {G:Nat→Tg} {p:Nat} {w wb:World} (h:Kt G p Own w wb:=by repeat with_reducible first|assumption|refine Kt.alloc ?_ _|refine Kt.drewN ?_ _|refine Kt.drew ?_|refine Kt.set ?_ (.inl (by first|(simp;done)|(simp;omega))) _):Kt G p Own w wb:=h
def jf (E:WE) (n:Nat):Prop:=∀ (e:Ex) (de:EA) (set:Bool) (fn:Nat) (G:Nat→Tg) (d:Wk) (σ:Sc) (N:Nat) (w:World),e.sz≤n→e.wf→Bd N σ→N+3*e.wy+3≤NB→bm fn σ→e.At (Lt d.p) w de→av G d w σ →
  Calls Tryz.prog 105 #[.pointer (some ⟨d.p,0,none⟩),.int .i64 fn,.agg #[.int .i64 e.kind,.int .i64 e.op,.int .i64 e.line,.int .i64 e.p,.int .i64 e.q,.string e.str,.slice de.a e.args.length de.c,.slice de.fa e.funcs.length de.fc],.bool set] w (aG G d (E fn set e σ) w)
theorem Kz (l:List Ex) (k:Nat) {y:Ex} (h:l[k]?=some y):Ex.wys (l.take (k+1))=Ex.wys (l.take k)+y.wy:=by
  rw [List.take_add_one,h,nN,nN];simp
theorem KA (l:List Ex) (k:Nat):Ex.wys (l.take k)≤Ex.wys l:=by
  conv=>rhs;rw [←List.take_append_drop k l,nN,List.map_append,List.sum_append,←nN]
  omega
theorem mR {α:Type} {f:α→Sc→SR Sc} {l:List α} {k:Nat} {x:α} (h:l[k]?=some x) (σ:Sc):aO f (l.drop k) σ=(f x σ).bind (aO f (l.drop (k+1))):=by
  obtain ⟨h1,rfl⟩:=KQ h;rw [List.drop_eq_getElem_cons h1];rfl
theorem jy {E:WE} {n:Nat} (hE:jf E n) (hEs:eO E) (hEb:ft E) (l:List Ex) (la:Option Addr) (lc:Nat) (set:Bool) (fn:Nat) {G:Nat→Tg} {d:Wk} {σ:Sc} {N:Nat} (w:World) (hn:∀ x ∈ l,x.sz≤n) (hw:Ex.wfs l) (hB:Bd N σ) (hN:N+3*Ex.wys l+3≤NB) (hO:bm fn σ) (hlc:l.length≤lc) (hlm:lc≤MX) (hat:Ex.Ats (Lt d.p) w l la) (h:av G d w σ) :
    Calls Tryz.prog 73 #[.pointer (some ⟨d.p,0,none⟩),.int .i64 fn,.slice la l.length lc,.bool set] w (aG G d (aO (E fn set) l σ) w):=by
  obtain ⟨G0,hGo,hGf,h⟩:=h.start;have HSC:=hI h;have HAT:=hI hat;have HE:=hI hE;have HES:=hI hEs;have HEB:=hI hEb;have HWF:=hI hw;have HSZ:=hI hn;have HBD:=hI hB;have HOK:=hI hO;have hpz:=ae h.box;unfold MX at hlm;have hlen:l.length≤9223372036854775807:=by omega
  generalize hR:aO (E fn set) l σ=R;have HR:=hI (show R=aO (E fn set) (l.drop 0) σ from hR.symm);clear h hat hE hEs hEb hw hn hB hO hR
  go_enter Tryz.func73,Tryz.ntmps73
  go_wp2_with fail
  go_loopg [12] l.length (fun gk i wr=>∃ (k:Nat) (G1:Nat→Tg) (d1:Wk) (σ1:Sc),gk+k=l.length∧i=.int .i64 k∧Hid (R=aO (E fn set) (l.drop k) σ1)∧Hid (Nx G0 d w G1 d1)∧Hid (av G1 d1 wr σ1)∧Hid (Kt G0 d.p Own w wr)∧Hid (bm fn σ1)∧Hid (Bd (N+3*Ex.wys (l.take k)) σ1))
  case atStart=>exact ⟨0,G0,d,σ,by omega,rfl,HR,hI Nx.refl,HSC,hI Kt.refl,HOK,hI (HBD.out.mono (by omega))⟩
  case round =>
  clear HSC HR HBD HOK;obtain ⟨k,G1,d1,σ1,hk,rfl,HR,HN1,HS1,HK1,HO1,HB1⟩:=hrel;have HK:=hI hk;clear hk;by_cases hlt:k<l.length
  · obtain ⟨y,hy⟩:∃ y,l[k]?=some y:=⟨_,KP hlt⟩
    have hm:=KR hy;obtain ⟨b,off,h1,h2⟩:=Ex.ats_iff.1 (HAT.out.keep HK1.out.keep_lt (fun _ h=>h));obtain ⟨hda,hbp,hlb⟩:=h1 (by intro h0;rw [h0] at hlt;simp at hlt);subst hda;obtain ⟨cs,hr,dy,rfl,haty⟩:=h2 k y hy;have c0:=hr 0 _ rfl;have c1:=hr 1 _ rfl;have c2:=hr 2 _ rfl;have c3:=hr 3 _ rfl;have c4:=hr 4 _ rfl;have c5:=hr 5 _ rfl;have c6:=hr 6 _ rfl;have c7:=hr 7 _ rfl;simp only [Nat.add_zero] at c0;have hp1:=HN1.out.p;have hwt:=Kz l k hy;have hwl:=KA l (k+1);have HWT:=hI hwt;have HC:=hI (fun w' hb=>(by rw [←hp1];exact HE.out y dy set fn G1 d1 σ1 _ w' (HSZ.out y hm) (Ex.wfs_mem HWF.out y hm) HB1.out (by omega) HO1.out (by rw [hp1];exact haty.keep (aq hb) (fun _ h=>h)) (HS1.out.below hb)):∀ w',Below wr.heap.size wr w'→Calls Tryz.prog 105 #[.pointer (some ⟨d.p,0,none⟩),.int .i64 fn,.agg #[.int .i64 y.kind,.int .i64 y.op,.int .i64 y.line,.int .i64 y.p,.int .i64 y.q,.string y.str,.slice dy.a y.args.length dy.c,.slice dy.fa y.funcs.length dy.fc],.bool set] w' (aG G1 d1 (E fn set y σ1) w'));have HST:=hI (mR hy σ1:aO (E fn set) (l.drop k) σ1=_);have HY:=hI hy;clear h1 h2 hr haty hy hwt hm
    go_wp2_with (first
      | (go_at_call 105;(with_reducible refine (HC.out _ bw).mono ?_);intro e9 w8 hD;rcases hD.alt with ⟨q0,rfl,HUU,HK8⟩|⟨σ8,G8,d8,rfl,HUU,HN8,HS8,HK8⟩ <;> clear hD;rotate_left))
    · have hk1:=HK1.out
      go_roundg (gk - 1)
      case rel=>exact ⟨k+1,G8,d8,σ8,by have:=HK.out;omega,by go_num,hI (by rw [HR.out,HST.out,HUU.out];rfl),hI (HN1.out.trans HN8.out (by have:=HK1.out.size;simp;omega)),HS8,hI (hJ hp1 HN1.out HK8.out ka),hI (HO1.out.stay (HES.out _ _ _ _ _ HO1.out.lt HUU.out)),hI ((HEB.out _ _ _ _ _ HUU.out _ HB1.out).mono (by have:=HWT.out;omega))⟩
      case measure=>have:=HK.out;omega
    · have hk1:=HK1.out;exact ⟨rfl,aG.no (hI (by rw [HR.out,HST.out,HUU.out];rfl)) ((hJ hp1 HN1.out HK8.out ka).of_tag hGo)⟩
  · have hke:l.drop k=[]:=List.drop_eq_nil_of_le (by omega);have HRR:=hI (show R=.ok σ1 from by rw [HR.out,hke];rfl);clear hke
    go_wp2_with fail
    go_end0;exact aG.yes HRR (HK1.out.of_tag hGo) ⟨HN1.out.p,HN1.out.rs,HN1.out.fs,fun b hb=>(HN1.out.tag b hb).trans (hGo b hb)⟩ HS1.out
def iw (B:WB) (n:Nat):Prop:=∀ (l:List St) (la:Option Addr) (lc:Nat) (fn:Nat) (rep:Bool) (cond:List Ex) (ca:Option Addr) (cc:Nat) (G:Nat→Tg) (d:Wk) (σ:Sc) (N:Nat) (w:World),St.szs l+Ex.szs cond+1≤n→St.wfs l→Ex.wfs cond→Bd N σ→N+3*(St.wys l+Ex.wys cond)+4≤NB→bm fn σ →
  l.length≤lc∧lc≤MX∧l.length*128≤LM→St.Ats (Lt d.p) w l la→cond.length≤cc∧cc≤MX→Ex.Ats (Lt d.p) w cond ca→av G d w σ →
  Calls Tryz.prog 47 #[.pointer (some ⟨d.p,0,none⟩),.agg #[.slice la l.length lc,.int .i64 0,.int .i64 fn,.bool false,.bool rep,.int .i64 0,.map none],.slice ca cond.length cc] w (aG G d (B (frame l fn rep) cond σ) w)
theorem Em:(Tryz.prog.info? 82).map (fun i=>(i.zero,i.size,i.bytes))=some (some (.pointer none),1,8):=by kernel_rfl
section
variable {G:Nat→Tg} {d:Wk} {w:World} {σ:Sc}
theorem av.cutS (h:av G d w σ) {a:Option Addr} {c k:Nat} (hv:d.vs=.slice a σ.scope.length c) (hk:k≤σ.scope.length):av G { d with vs:=.slice a k c } (w.setCell ⟨d.p,1,none⟩ (.slice a k c)) { σ with scope:=σ.scope.take k }∧Kt G d.p Own w (w.setCell ⟨d.p,1,none⟩ (.slice a k c)):=by
  have hk0:Kt G d.p (fun t=>t=(0,0)∨t=(2,0)) w (w.setCell ⟨d.p,1,none⟩ (.slice a k c)):=(Kt.refl (G:=G) (S:=fun t=>t=(0,0)∨t=(2,0))).set (a:=⟨d.p,1,none⟩) (.inr ⟨KU _,by simp [h.tp]⟩) _;have hr:=h.rs;rw [hv] at hr;have hb:=aR h.box 1 (.slice a k c);exact ⟨h.scope' hk0 (by simpa using hb) ((hr.cut mn hk).keep ((af.refl _ _).set (fun hd=>by have:=hd.2;rw [h.tp] at this;cases this) _)),hk0.mono (by rintro t (rfl|rfl) <;> decide)⟩
theorem av.pushF {w':World} {o:Obj} {v:Value} {x':Fu} {y':Fd} (h:av G d w σ) (hg:(w.alloc o).grownBy w' d.vf.ownBlock) (hR:Rw gK 82 1 (Dt G d.p (1,0)) w' v (d.fs++[y'])) (hf:dN G d.p σ.funs.length w x' y') :
    av G { d with vf:=v,fs:=d.fs++[y'] } (w'.setCell ⟨d.p,0,none⟩ v) { σ with funs:=σ.funs++[x'] }∧Kt G d.p Own w (w'.setCell ⟨d.p,0,none⟩ v):=by
  have hk:Kt G d.p (fun t=>t=(0,0)∨t=(1,0)) w (w'.setCell ⟨d.p,0,none⟩ v):=Kt.push hg (h.rf.row _ (by simp)) ⟨KU _,by rw [h.tp];simp⟩ v;have hb:=aR (bR hg (ax h.box o) (h.ne h.rf.dom (by decide))) 0 v;exact ⟨h.push' hk (by simpa using hb) (hR.keep ((af.refl _ _).set (fun hd=>by have:=hd.2;rw [h.tp] at this;cases this) v)) (hf.kt hk (fun m h1 h2=>by simp;omega)),hk.mono (by rintro t (rfl|rfl) <;> decide)⟩
end
theorem DS (s:Fd):∀ u ∈ gK s,u.oneCell'=true:=by intro u hu;simp only [gK,List.mem_cons,List.not_mem_nil,or_false] at hu;rcases hu with rfl;rfl
def Gf (G:Nat→Tg) (n L bx mi mc:Nat):Nat→Tg:=fun b=>if b=bx then (6,L) else if b=mi then (9,L) else if b=mc then (10,L) else Gn G n (1,0) b
theorem bm.push {fn:Nat} {σ:Sc} {va:Bool} (h:bm fn σ):bm σ.funs.length { σ with funs:=σ.funs++[⟨(fn:Int),va,[],[],[],[]⟩] }:=by
  have hx:=xF (va:=va) h.lt;have hl:(σ.funs++[(⟨(fn:Int),va,[],[],[],[]⟩:Fu)])[σ.funs.length]?=some ⟨(fn:Int),va,[],[],[],[]⟩:=by simp
  refine ⟨by simp,h.up.ext hx,fun v hv=>.up hl rfl ((h.anc v hv).ext hx),fun v hv=>xA (hx.fu (h.anc v hv).ltb).locals (h.num v hv),h.frm⟩
theorem bm.decls {fn:Nat} {line:Int}:∀ {l:List (ByteArray × Int)} {σ σ':Sc},bm fn σ→aO (bv fn line) l σ=.ok σ'→bm fn σ'
  | [],_,_,h,k=>by cases k;exact h
  | x::r,σ,σ',h,k=>by
    obtain ⟨σ1,h1,h2⟩:=aI k;exact (h.decl h1).decls h2
theorem Bd.push {N:Nat} {σ:Sc} (hN:Bd N σ) (up:Int) (va:Bool):Bd (N+1) { σ with funs:=σ.funs++[⟨up,va,[],[],[],[]⟩] }:=by
  have h9:=hN.mono (show N≤N+1 by omega);refine ⟨by have:=hN.funs;simp;omega,h9.scope,h9.frames,h9.uses,h9.jumps,fun x hx=>?_⟩;rcases List.mem_append.1 hx with hx|hx
  · exact h9.fun_ x hx
  · rw [List.mem_singleton.1 hx];simp
theorem yW {P:Prop} (h:P:=by
  go_wp2_with fail
  go_end0;refine aG.yes HR4 ((show Kt G8 d.p Own w8 _ from HK9.out).thru HKC.out HNC.out.tag |>.of_tag hGo) ?_ HS9.out;exact ⟨rfl,HNC.out.rs,HNC.out.fs,fun b hb=>(HNC.out.tag b hb).trans (hGo b hb)⟩):P:=h
theorem vw {B:WB} {n:Nat} (hB:iw B n) (hBs:dM B) (f:Fn) (df:FA) (up:Int) {G:Nat→Tg} {d:Wk} {σ:Sc} {N:Nat} (w:World) (hn:St.szs f.body+1≤n) (hw:f.wf) (hD:Bd N σ) (hN:N+3*f.wy+3≤NB) (hO:bm σ.funs.length { σ with funs:=σ.funs++[⟨up,f.vararg,[],[],[],[]⟩] }) (hat:f.At (Lt d.p) w df) (h:av G d w σ) :
    Calls Tryz.prog 32 #[.pointer (some ⟨d.p,0,none⟩),.int .i64 up,(fV f df)] w (aG G d (dU B up f σ) w):=by
  delta fV
  obtain ⟨pa,pc,ba,bc⟩:=df;dsimp only;obtain ⟨G0,hGo,hGf,h⟩:=h.start;have hmm:=@run_makeMap Tryz.prog;have hfw:=f.wy_eq;have hpw:=xC f.params;obtain ⟨fa,fc,hvf⟩:=h.rf.shape;have hfl:=h.lf;have hfb:=hD.funs;have HSC:=hI h;have HAT:=hI hat;have hpz:=ae h.box;have kp:=ac h.box;rw [hvf,hfl] at kp;unfold NB at hN;have l1:σ.funs.length≤9223372036854775807:=by omega
  generalize hR:dU B up f σ=R;have HR:=hI hR;have HVF:=hI hvf;have HBX:=hI (show ∀ w',Below w.heap.size w w'→w'.heap[d.p]?=some (.cells #[.slice fa σ.funs.length fc,d.vs,d.vr,d.vu,d.vj] 78) from fun w' hb=>by rw [←hfl,←hvf];exact aD hb h.box);clear h hat hR hvf
  go_enter Tryz.func32,Tryz.ntmps32
  go_upto_region 2 with fail
  obtain ⟨w1,hw1⟩:∃ w1:World,w1=w.alloc (.cells #[.string f.name,.slice pa f.params.length pc,.bool f.vararg,.slice ba f.body.length bc,.int .i64 f.line] 81):=⟨_,rfl⟩
  have HB1:=hI (show Below w.heap.size w w1 from by rw [hw1];exact bw);have HF1:=hI (show w1.heap[w.heap.size]?=some (.cells #[.string f.name,.slice pa f.params.length pc,.bool f.vararg,.slice ba f.body.length bc,.int .i64 f.line] 81) from by rw [hw1];exact aA rfl);have hz1:w1.heap.size=w.heap.size+1:=by rw [hw1];simp
  rw [←hw1];clear hw1 kp;have hpw1:=KS hpz HB1.out.size;have hfw1:=ae HF1.out;have HZ1:=hI hz1;clear hz1;have HT:=hI (show ∀ w',Below w1.heap.size w1 w'→(∀ j,w'.cell? ⟨d.p,j,none⟩=#[.slice fa σ.funs.length fc,d.vs,d.vr,d.vu,d.vj][j]?)∧(∀ j,w'.cell? ⟨w.heap.size,j,none⟩=#[.string f.name,.slice pa f.params.length pc,.bool f.vararg,.slice ba f.body.length bc,.int .i64 f.line][j]?) from fun w' hb=>⟨fun j=>(hb.cell hpw1).trans (ac (HBX.out _ HB1.out) j),fun j=>(hb.cell hfw1).trans (ac HF1.out j)⟩)
  go_cut [] (fun wx=>∃ (G1:Nat→Tg) (d1:Wk),Hid (Nx G0 d w G1 d1)∧Hid (av G1 d1 wx { σ with funs:=σ.funs++[⟨up,f.vararg,[],[],[],[]⟩] })∧Hid (Kt G0 d.p Own w wx)∧Hid (¬ Own (G1 w.heap.size))∧Hid (wx.heap[w.heap.size]?=some (.cells #[.string f.name,.slice pa f.params.length pc,.bool f.vararg,.slice ba f.body.length bc,.int .i64 f.line] 81)))
  case first =>
    refine cX (c:=13) (T:=(fun w'=>(∀ j,w'.cell? ⟨d.p,j,none⟩=#[.slice fa σ.funs.length fc,d.vs,d.vr,d.vu,d.vj][j]?)∧(∀ j,w'.cell? ⟨w.heap.size,j,none⟩=#[.string f.name,.slice pa f.params.length pc,.bool f.vararg,.slice ba f.body.length bc,.int .i64 f.line][j]?))) (by kernel_rfl) ?s101 ?r101
    case s101=>exact HT.out _ bw
    intro hHeld;refine tG 0 ?_;refine tG 1 ?_;refine tG 2 ?_;refine tG 3 ?_;refine lG 4 [13] ?_;refine tG 5 ?_;refine tG 6 ?_;refine lG 7 [10,11,12,13] ?_;refine aC (rs:=[8,9]) (by kernel_rfl) (by simp) ?_;refine ah.cons rfl (fun K hK=>?_) (ah.cons rfl (fun K hK=>?_) ah.nil)
    focus
      go_simp
      refine hK.out _ _ ?s110 ?r110
      case s110=>exact HT.out _ bw
      intro hHeld;clear hK K
      try simp only [Act.put,al,am,ap]
      refine aC (rs:=[9]) (by kernel_rfl) (by simp) ?_;refine ah.cons rfl (fun K hK=>?_) ah.nil
      go_simp
      refine hK.out _ _ ?s111 ?r111
      case s111=>exact HT.out _ bw
      intro hHeld;clear hK K
      try simp only [Act.put,al,am,ap]
      obtain ⟨mi,hmi⟩:∃ m,m=w1.heap.size:=⟨_,rfl⟩
      obtain ⟨mc,hmc⟩:∃ m,m=w1.heap.size+1:=⟨_,rfl⟩
      rw [←hmc,←hmi];obtain ⟨wz,hwz⟩:∃ wz:World,wz=((w1.alloc (.map #[] 0)).alloc (.map #[] 0)).drew:=⟨_,rfl⟩
      have HMI:=hI (show wz.heap[mi]?=some (.map #[] 0) from by rw [hwz,hmi];exact ax (aA rfl) _);have HMC:=hI (show wz.heap[mc]?=some (.map #[] 0) from by rw [hwz,hmc];exact aA (by simp))
    rotate_left
    focus
      go_simp
      refine hK.out _ _ ?s112 ?r112
      case s112=>exact HT.out _ bw
      intro hHeld;clear hK K
      try simp only [Act.put,al,am,ap]
      refine aC (rs:=[8]) (by kernel_rfl) (by simp) ?_;refine ah.cons rfl (fun K hK=>?_) ah.nil
      go_simp
      refine hK.out _ _ ?s113 ?r113
      case s113=>exact HT.out _ bw
      intro hHeld;clear hK K
      try simp only [Act.put,al,am,ap]
      obtain ⟨mc,hmc⟩:∃ m,m=w1.heap.size:=⟨_,rfl⟩
      obtain ⟨mi,hmi⟩:∃ m,m=w1.heap.size+1:=⟨_,rfl⟩
      rw [←hmi,←hmc];obtain ⟨wz,hwz⟩:∃ wz:World,wz=((w1.alloc (.map #[] 0)).alloc (.map #[] 0)).drew:=⟨_,rfl⟩
      have HMC:=hI (show wz.heap[mc]?=some (.map #[] 0) from by rw [hwz,hmc];exact ax (aA rfl) _);have HMI:=hI (show wz.heap[mi]?=some (.map #[] 0) from by rw [hwz,hmi];exact aA (by simp))
    all_goals
      have HBZ:=hI (show Below w1.heap.size w1 wz from by rw [hwz];exact bw);have hzz:wz.heap.size=w1.heap.size+2:=by rw [hwz];simp
      rw [←hwz];have hmne:¬ mi=mc:=by omega
      have hmi0:w1.heap.size≤mi:=by omega
      have hmc0:w1.heap.size≤mc:=by omega
      have hmi1:mi<wz.heap.size:=by omega
      have hmc1:mc<wz.heap.size:=by omega
      have HZZ:=hI hzz;have hHeld:=HT.out wz (by have:=HBZ.out;exact bw);clear hmi hmc hwz hzz;refine tG 10 ?_;refine aC (rs:=[11]) (by kernel_rfl) (by simp) ?_;refine ah.cons rfl (fun K hK=>?_) ah.nil
      go_simp
      refine hK.out _ _ (HT.out _ (by have:=HBZ.out;exact bw)) ?_;intro hHeld;clear hK K
      try simp only [Act.put,al,am,ap]
      refine aC (rs:=[12]) (by kernel_rfl) (by simp) ?_;refine ah.cons rfl (fun K hK=>?_) ah.nil
      go_simp
      refine hK.out _ _ (HT.out _ (by have:=HBZ.out;exact bw)) ?_;intro hHeld;clear hK K
      try simp only [Act.put,al,am,ap]
      refine aC (rs:=[13]) (by kernel_rfl) (by simp) ?_;refine ah.late rfl (by kernel_rfl) (fun K hK=>?_) ah.nil;have hbg:∀ b,b<w1.heap.size→Gf G0 w1.heap.size σ.funs.length wz.heap.size mi mc b=G0 b:=fun b hb=>by unfold Gf;rw [if_neg (by omega),if_neg (by omega),if_neg (by omega)];exact Gn.old hb
      have HS2:=hI ((HSC.out.tag fun b hb=>hbg b (by have:=HZ1.out;omega)).below (show Below w.heap.size w (wz.alloc (.cells #[.int .i64 up,.bool f.vararg,.slice none 0 0,.slice none 0 0,.map (some mi),.map (some mc)] 92)) from by have:=HB1.out;have:=HBZ.out;exact bw));refine jU (y:=(⟨wz.heap.size,.slice none 0 0,.slice none 0 0,mi,mc⟩:Fd)) HS2.out.rf Tryz.underlying73 Em rfl (by decide) (by decide) (fun _=>rfl) (DS _) rfl (by have:=HSC.out.lf;omega) (fun k hk=>⟨by simp at hk;omega,by unfold Gf;simp at hk;rw [if_neg (by omega),if_neg (by omega),if_neg (by omega)];exact Gn.new (by omega)⟩) rfl _ _ rfl (by rw [HVF.out,HSC.out.lf];rfl) rfl (by simp) ?_;intro g3 c3 w3 hR3 hgr3 hlt3;have hne3:some d.p≠d.vf.ownBlock:=HS2.out.ne HS2.out.rf.dom (by decide);have HP3:=hI (bR hgr3 (ax HS2.out.box _) hne3);have HR3:=hI hR3;have HG3:=hI hgr3;rw [HVF.out,HSC.out.lf] at HP3;clear hR3 hgr3 hne3;have k3:=fun i=>ac HP3.out i;have k3f:=fun i=>ag HP3.out i;have k3z:=ae HP3.out;refine hK.out _ _ ?_;clear hK K
      try simp only [Act.put,al,am,ap]
      refine aC (rs:=[14]) (by kernel_rfl) (by simp) ?_;refine ah.late rfl (by kernel_rfl) (fun K hK=>?_) ah.nil
      go_simp
      refine hK.out _ _ ?_;clear hK K
      try simp only [Act.put,al,am,ap]
      refine aC (rs:=[15]) (by kernel_rfl) (by simp) ?_;refine ah.late rfl (by kernel_rfl) (fun K hK=>?_) ah.nil
      go_simp
      refine hK.out _ _ ?_;clear hK K
      try simp only [Act.put,al,am,ap]
      refine aC (rs:=[16]) (by kernel_rfl) (by simp) ?_;refine ah.late rfl (by kernel_rfl) (fun K hK=>?_) ah.nil
      go_simp
      refine hK.out _ _ ?_;clear hK K
      try simp only [Act.put,al,am,ap]
      refine cJ (by kernel_rfl) ?_ _
      have hfn:dN (Gf G0 w1.heap.size σ.funs.length wz.heap.size mi mc) d.p σ.funs.length (wz.alloc (.cells #[.int .i64 up,.bool f.vararg,.slice none 0 0,.slice none 0 0,.map (some mi),.map (some mc)] 92)) ⟨up,f.vararg,[],[],[],[]⟩ ⟨wz.heap.size,.slice none 0 0,.slice none 0 0,mi,mc⟩:=by
        have e1:mi≠wz.heap.size:=by omega
        have e2:mc≠wz.heap.size:=by omega
        have e3:mc≠mi:=fun e=>hmne e.symm;exact ⟨aA rfl,⟨by show d.p≤wz.heap.size;omega,by unfold Gf;rw [if_pos rfl]⟩,Rw.nil,Rw.nil,⟨by show d.p≤mi;omega,by unfold Gf;rw [if_neg e1,if_pos rfl]⟩,Mp.made (ax HMI.out _),⟨by show d.p≤mc;omega,by unfold Gf;rw [if_neg e2,if_neg e3,if_pos rfl]⟩,Mp.made (ax HMC.out _),List.nodup_nil,fun q hq=>by cases hq⟩
      obtain ⟨hsa,hka⟩:=HS2.out.pushF HG3.out HR3.out hfn;have hka':Kt G0 d.p Own w _:=hka.thru (show Kt G0 d.p Own w _ from Kt.of_below (show Below w.heap.size w (wz.alloc (.cells #[.int .i64 up,.bool f.vararg,.slice none 0 0,.slice none 0 0,.map (some mi),.map (some mc)] 92)) from by have:=HB1.out;have:=HBZ.out;exact bw)) (fun b hb=>hbg b (by have:=HZ1.out;omega));obtain ⟨wA,hwA⟩:∃ wA:World,wA=w3.setCell ⟨d.p,0,none⟩ (.slice (some ⟨g3,0,none⟩) (d.fs.length+1) c3):=⟨_,rfl⟩
      rw [←hwA] at hsa hka hka';have HWA:=hI (show wA=w3.setCell ⟨d.p,0,none⟩ (.slice (some ⟨g3,0,none⟩) (σ.funs.length+1) c3) from by rw [hwA,HSC.out.lf]);rw [←HWA.out];have hgw:¬ Own (Gf G0 w1.heap.size σ.funs.length wz.heap.size mi mc w.heap.size):=by rw [hbg _ (by have:=HZ1.out;omega)];exact hGf _ (KU _)
      have hnx:Nx G0 d w (Gf G0 w1.heap.size σ.funs.length wz.heap.size mi mc) { d with vf:=.slice (some ⟨g3,0,none⟩) (d.fs.length+1) c3,fs:=d.fs++[⟨wz.heap.size,.slice none 0 0,.slice none 0 0,mi,mc⟩] } :=
        ⟨rfl,rfl,fun i y hy=>⟨y,by rw [List.getElem?_append_left (KQ hy).1];exact hy,rfl⟩,fun b hb=>hbg b (by have:=HZ1.out;omega)⟩
      have HSA:=hI hsa;have HKA:=hI hka';have HGW:=hI hgw;have HNA:=hI hnx;have HFA:=hI (hka.mine (by exact ax (aD HBZ.out HF1.out) _) hgw)
      go_wp2_with fail
      go_meet
      case rel=>exact ⟨_,_,HNA,HSA,HKA,HGW,HFA⟩
  case rest =>
    obtain ⟨G1,d1,HN1,HS1,HK1,HG1,HF1'⟩:=hcut;clear HT HF1 HBX HVF HB1 HZ1 hpw1 hfw1;have HB:=hI hB;have HBS:=hI hBs;have HO:=hI hO;have HD:=hI (hD.push up f.vararg);have HRR:=hI (show R=(aO (fun p=>bv σ.funs.length f.line (p,0)) (f.params.drop 0) { σ with funs:=σ.funs++[⟨up,f.vararg,[],[],[],[]⟩] }).bind fun σ2=>(B (frame f.body σ.funs.length false) [] σ2).bind fun σ3=>.ok { σ3 with scope:=σ3.scope.take σ.scope.length } from HR.out.symm);have hp1:=HN1.out.p;obtain ⟨sa,sc,hvs⟩:=HS1.out.rs.shape;have hsl:σ.scope.length≤9223372036854775807:=by have:=hD.scope;omega
    have HBX:=hI (show wc.heap[d.p]?=some (.cells #[d1.vf,.slice sa σ.scope.length sc,d1.vr,d1.vu,d1.vj] 78) from by rw [←hp1,←hvs];exact HS1.out.box);have kp:=fun i=>ac HBX.out i;have kpf:=fun i=>ag HBX.out i;have kpz:=ae HBX.out;have kf:=fun i=>ac HF1'.out i;have kff:=fun i=>ag HF1'.out i;have kfz:=ae HF1'.out;obtain ⟨hfb1,⟨hpl,⟨hpm,-⟩,hbl,hbm,hbx⟩,hpr,hbr⟩:=Fn.at_iff.1 HAT.out;have HPR:=hI hpr;have HBR:=hI (St.ats_iff.2 hbr);have HBL:=hI (show f.body.length≤bc∧bc≤MX∧f.body.length*128≤LM from ⟨hbl,hbm,hbx⟩);have hplen:f.params.length≤9223372036854775807:=by unfold MX at hpm;omega
    clear hB hBs hO hD hvs hmm hfb1 hpr hbr hbl hbm hbx
    go_wp2_with fail
    go_loopg [39] f.params.length (fun gk i wr=>∃ (k:Nat) (G2:Nat→Tg) (d2:Wk) (σ2:Sc),gk+k=f.params.length∧i=.int .i64 k∧Hid (R=(aO (fun p=>bv σ.funs.length f.line (p,0)) (f.params.drop k) σ2).bind fun σ2=>(B (frame f.body σ.funs.length false) [] σ2).bind fun σ3=>.ok { σ3 with scope:=σ3.scope.take σ.scope.length })∧Hid (Nx G0 d w G2 d2)∧Hid (av G2 d2 wr σ2)∧Hid (Kt G0 d.p Own w wr)∧Hid (¬ Own (G2 w.heap.size))∧Hid (wr.heap[w.heap.size]?=some (.cells #[.string f.name,.slice pa f.params.length pc,.bool f.vararg,.slice ba f.body.length bc,.int .i64 f.line] 81))∧Hid (bm σ.funs.length σ2)∧Hid (Bd (N+1+k) σ2)∧Hid (∃ t,σ2.scope=σ.scope++t))
    case atStart=>exact ⟨0,G1,d1,_,by omega,rfl,HRR,HN1,HS1,HK1,HG1,HF1',HO,HD,hI ⟨[],by simp⟩⟩
    case round =>
    clear HRR HN1 HS1 HK1 HG1 HF1' HO HD HBX kp kpf kpz kf kff kfz hp1;obtain ⟨k,G2,d2,σ2,hk,rfl,HR2,HN2,HS2,HK2,HG2,HF2,HO2,HD2,HT2⟩:=hrel;have HK:=hI hk;clear hk;have hp2:=HN2.out.p;have kf:=fun i=>ac HF2.out i;have kff:=fun i=>ag HF2.out i;have kfz:=ae HF2.out;by_cases hlt:k<f.params.length
    · obtain ⟨y,hy⟩:∃ y,f.params[k]?=some y:=⟨_,KP hlt⟩
      obtain ⟨b,off,h1,h2⟩:=HPR.out.keep HK2.out.keep_lt (fun _ h=>h) (fun _ _ _ h=>h);obtain ⟨hda,hbp,hlb⟩:=h1 (by intro h0;rw [h0] at hlt;simp at hlt);obtain ⟨cs,hr,rfl,hys⟩:=h2 k y hy;have c0:=hr 0 _ rfl;simp only [Nat.mul_one,Nat.add_zero] at c0;subst hda;have HST:=hI (mR (f:=fun p=>bv σ.funs.length f.line (p,0)) hy σ2);have HDC:=hI (fun w' hb=>(by rw [←hp2];exact ou σ.funs.length f.line (y,0) w' HD2.out (by unfold NB;omega) HO2.out.lt (HS2.out.below hb)):∀ w',Below wr.heap.size wr w'→Calls Tryz.prog 46 #[.pointer (some ⟨d.p,0,none⟩),.int .i64 σ.funs.length,.int .i64 f.line,.agg #[.string y,.int .i64 0]] w' (aG G2 d2 (bv σ.funs.length f.line (y,0) σ2) w'));clear h1 h2 hr hy
      go_wp2_with (first
        | (go_at_call 46;(with_reducible refine (HDC.out _ bw).mono ?_);intro e9 w8 hD;rcases hD.alt with ⟨q0,rfl,HUU,HK8⟩|⟨σ8,G8,d8,rfl,HUU,HN8,HS8,HK8⟩ <;> clear hD;rotate_left))
      · have hk2:=HK2.out
        go_roundg (gk - 1)
        case rel =>
          obtain ⟨t,ht⟩:=HT2.out;obtain ⟨l,hl⟩:=(ju HUU.out).scope;exact ⟨k+1,G8,d8,σ8,by have:=HK.out;omega,by go_num,hI (by rw [HR2.out,HST.out,HUU.out];rfl),hI (HN2.out.trans HN8.out hk2.size),HS8,hI (hJ hp2 HN2.out HK8.out ka),hI (by rw [HN8.out.tag _ (ae HF2.out)];exact HG2.out),hI (HK8.out.mine HF2.out HG2.out),hI (HO2.out.decl HUU.out),hI ((km HUU.out _ HD2.out).mono (by omega)),hI ⟨t++l,by rw [hl,ht,List.append_assoc]⟩⟩
        case measure=>have:=HK.out;omega
      · have hk2:=HK2.out;exact ⟨rfl,aG.no (hI (by rw [HR2.out,HST.out,HUU.out];rfl)) ((hJ hp2 HN2.out HK8.out ka).of_tag hGo)⟩
    · have hke:f.params.drop k=[]:=List.drop_eq_nil_of_le (by omega);have HR3:=hI (show R=(B (frame f.body σ.funs.length false) [] σ2).bind fun σ3=>.ok { σ3 with scope:=σ3.scope.take σ.scope.length } from by rw [HR2.out,hke];rfl);have hkp:k≤f.params.length:=by have:=HK.out;omega
      have HBC:=hI (fun w' hb=>(by rw [←hp2];exact HB.out f.body ba bc σ.funs.length false [] none 0 G2 d2 σ2 _ w' (by simp [Ex.szs];omega) (f.wf_eq ▸ hw) trivial HD2.out (by unfold NB;simp [Ex.wys];omega) HO2.out HBL.out (by rw [hp2];exact (HBR.out.keep HK2.out.keep_lt (fun _ h=>h)).keep (aq hb) (fun _ h=>h)) ⟨KU _,by unfold MX;omega⟩ (Ex.ats_iff.2 (aj.nil _)) (HS2.out.below hb)):∀ w',Below wr.heap.size wr w'→Calls Tryz.prog 47 #[.pointer (some ⟨d.p,0,none⟩),.agg #[.slice ba f.body.length bc,.int .i64 0,.int .i64 σ.funs.length,.bool false,.bool false,.int .i64 0,.map none],.slice none 0 0] w' (aG G2 d2 (B (frame f.body σ.funs.length false) [] σ2) w'));clear hke
      go_upto_region 10 with (first
        | (go_at_call 47;(with_reducible refine (HBC.out _ bw).mono ?_);intro e9 w8 hD;rcases hD.alt with ⟨q0,rfl,HUU,HK8⟩|⟨σ8,G8,d8,rfl,HUU,HN8,HS8,HK8⟩ <;> clear hD;rotate_left))
      · have hst:=HBS.out _ _ _ _ (show (frame f.body σ.funs.length false).fn<σ2.funs.length from HO2.out.lt) HUU.out;obtain ⟨t,ht⟩:=HT2.out;have hsc:σ8.scope=σ.scope++t:=hst.scope.trans ht;have hle:σ.scope.length≤σ8.scope.length:=by rw [hsc];simp
        have HR4:=hI (show R=.ok { σ8 with scope:=σ8.scope.take σ.scope.length } from by rw [HR3.out,HUU.out];rfl);have hp8:d8.p=d.p:=HN8.out.p.trans hp2;have hk2:=HK2.out;have HKC:=hI (hJ hp2 HN2.out HK8.out ka);have HNC:=hI (HN2.out.trans HN8.out hk2.size);have hbx:=HS8.out.box;rw [hp8] at hbx;clear hst ht hsc hk2 HK8;have HLE:=hI hle;rcases HS8.out.rs.at_ mn with ⟨hv,h0⟩|⟨g8,c8,hv,-,-,hc8,hcm8,-⟩
        · have hz:σ.scope.length=0:=by rw [h0] at hle;simpa using hle
          rw [hv] at hbx;have HBX:=hI hbx;have k8:=fun i=>ac HBX.out i;have k8f:=fun i=>ag HBX.out i;have k8z:=ae HBX.out;obtain ⟨hs9,hk9⟩:=HS8.out.cutS (a:=none) (c:=0) (k:=0) (by rw [hv,h0];rfl) (Nat.zero_le _);rw [hp8] at hs9 hk9;have HS9:=hI hs9;have HK9:=hI hk9;rw [hz];rw [hz] at HR4;clear hbx hv h0 hz hle hs9 hk9;exact yW
        · rw [hv] at hbx;have HBX:=hI hbx;have k8:=fun i=>ac HBX.out i;have k8f:=fun i=>ag HBX.out i;have k8z:=ae HBX.out;obtain ⟨hs9,hk9⟩:=HS8.out.cutS (k:=σ.scope.length) hv hle;rw [hp8] at hs9 hk9;have HS9:=hI hs9;have HK9:=hI hk9;have i1:(σ.scope.length:Int)≤(c8:Int):=by omega
          have i2:(0:Int)≤(σ.scope.length:Int):=by omega
          unfold maxLen at hcm8;clear hbx hv hs9 hk9;exact yW
      · have hk2:=HK2.out;exact ⟨rfl,aG.no (hI (by rw [HR3.out,HUU.out];rfl)) ((hJ hp2 HN2.out HK8.out ka).of_tag hGo)⟩
theorem DV {B:WB} {n:Nat} (hB:iw B n) (hBs:dM B) (f:Fn) (df:FA) (fn:Nat) {G:Nat→Tg} {d:Wk} {σ:Sc} {N:Nat} (w:World) (hn:St.szs f.body+1≤n) (hw:f.wf) (hD:Bd N σ) (hN:N+3*f.wy+3≤NB) (hO:bm fn σ) (hat:f.At (Lt d.p) w df) (h:av G d w σ) :
    Calls Tryz.prog 32 #[.pointer (some ⟨d.p,0,none⟩),.int .i64 fn,.agg #[.string f.name,.slice df.a f.params.length df.c,.bool f.vararg,.slice df.ba f.body.length df.bc,.int .i64 f.line]] w (aG G d (dU B fn f σ) w) :=
  vw hB hBs f df fn w hn hw hD hN hO.push hat h
theorem D3 (l:List Fn) (k:Nat) {y:Fn} (h:l[k]?=some y):Fn.wys (l.take (k+1))=Fn.wys (l.take k)+y.wy:=by
  rw [List.take_add_one,h,m8,m8];simp
theorem D4 (l:List Fn) (k:Nat):Fn.wys (l.take k)≤Fn.wys l:=by
  conv=>rhs;rw [←List.take_append_drop k l,m8,List.map_append,List.sum_append,←m8]
  omega
theorem yX {P:Prop} (h:P:=by
  clear h7 h6
  go_wp2_with fail
  go_meet
  case rel=>exact ⟨G0,d,σ,HH,hI Nx.refl,HS1,hI (Kt.of_below HB1.out),hI (hGf _ (KU _)),HX1⟩):P:=h
theorem CM {E:WE} {B:WB} {n:Nat} (hE:jf E n) (hEs:eO E) (hEb:ft E) (hB:iw B n) (hBs:dM B) (hBb:fq B):jf (jx E B) (n+1):=by
  intro e de set fn G d σ N w hn hw hD hN hO hat h;obtain ⟨ea,ec,fa,fc⟩:=de;dsimp only;obtain ⟨G0,hGo,hGf,h⟩:=h.start;have hew:=e.wy_eq;obtain ⟨-,hal,har,hfr⟩:=Ex.at_iff.1 hat;dsimp only at hal har hfr;obtain ⟨hal,⟨ham,hax⟩,hfl,hfm,-⟩:=hal;rw [Ex.wf_eq] at hw;have HSC:=hI h;have HAR:=hI (Ex.ats_iff.2 har);have HFR:=hI hfr;have HW:=hI hw;have HAT:=hI hat;have HE:=hI hE;have HES:=hI hEs;have HEB:=hI hEb;have HB:=hI hB;have HBS:=hI hBs;have HBB:=hI hBb;have HD:=hI hD;have HO:=hI hO;have hpz:=ae h.box;obtain ⟨y,g,c,hy,hvf,hc,hcm,hg,hcell,hF,-⟩:=h.at_fn hO.lt;have hfl2:=h.lf;have hol:=hO.lt;have i1:fn<d.fs.length:=by omega
  have i2:(fn:Int)<(d.fs.length:Int):=by omega
  have l1:e.funcs.length≤9223372036854775807:=by unfold MX at hfm;omega
  have kp:=fun j=>ac h.box j;rw [hvf] at kp;have ky:=fun j=>ac hF.box j;have kyz:=ae hF.box;unfold maxLen at hcm;obtain ⟨w1,hw1⟩:∃ w1:World,w1=w.alloc (.cells #[.int .i64 e.kind,.int .i64 e.op,.int .i64 e.line,.int .i64 e.p,.int .i64 e.q,.string e.str,.slice ea e.args.length ec,.slice fa e.funcs.length fc] 37):=⟨_,rfl⟩
  have HB1:=hI (show Below w.heap.size w w1 from by rw [hw1];exact bw);have HX1:=hI (show w1.heap[w.heap.size]?=some (.cells #[.int .i64 e.kind,.int .i64 e.op,.int .i64 e.line,.int .i64 e.p,.int .i64 e.q,.string e.str,.slice ea e.args.length ec,.slice fa e.funcs.length fc] 37) from by rw [hw1];exact aA rfl);have kp1:=fun j=>(HB1.out.cell (p:=⟨d.p,j,none⟩) hpz).trans (kp j);have ky1:=fun j=>(HB1.out.cell (p:=⟨y.b,j,none⟩) kyz).trans (ky j);have kg1:=(HB1.out.cell (p:=⟨g,fn,none⟩) hg).trans hcell;have kpz1:=KS hpz HB1.out.size;have kyz1:=KS kyz HB1.out.size;have kgz1:=KS hg HB1.out.size;have kx:=fun i=>ac HX1.out i;have kxf:=fun i=>ag HX1.out i;have kxz:=ae HX1.out;generalize hR:jx E B fn set e σ=R;have HR:=hI (show R=(dt fn set e σ).bind fun σ1=>(aO (E fn false) e.args σ1).bind fun σ2=>aO (dU B fn) e.funcs σ2 from hR.symm);clear h hat har hfr hw hE hEs hEb hB hBs hBb hD hO hR hF hcell hvf kp ky
  go_enter Tryz.func105,Tryz.ntmps105
  go_upto_region 1 with fail
  rw [←hw1];clear hw1
  go_upto_block 0 with fail
  go_cut [] (fun wx=>∃ (G1:Nat→Tg) (d1:Wk) (σ1:Sc),Hid (dt fn set e σ=.ok σ1)∧Hid (Nx G0 d w G1 d1)∧Hid (av G1 d1 wx σ1)∧Hid (Kt G0 d.p Own w wx)∧Hid (¬ Own (G1 w.heap.size))∧Hid (wx.heap[w.heap.size]?=some (.cells #[.int .i64 e.kind,.int .i64 e.op,.int .i64 e.line,.int .i64 e.p,.int .i64 e.q,.string e.str,.slice ea e.args.length ec,.slice fa e.funcs.length fc] 37)))
  case first =>
    have HS1:=hI (HSC.out.below HB1.out);by_cases h7:e.kind=7
    · have q7:=kT 7 h7;have HH:=hI (show dt fn set e σ=gO fn e set σ from if_pos h7);have HNC:=hI (fun w' hb=>FZ e ⟨ea,ec,fa,fc⟩ set fn w' HD.out (by omega) HO.out (HSC.out.below hb):∀ w',Below w.heap.size w w'→Calls Tryz.prog 143 #[.pointer (some ⟨d.p,0,none⟩),.int .i64 fn,.agg #[.int .i64 e.kind,.int .i64 e.op,.int .i64 e.line,.int .i64 e.p,.int .i64 e.q,.string e.str,.slice ea e.args.length ec,.slice fa e.funcs.length fc],.bool set] w' (aG G0 d (gO fn e set σ) w'));clear h7
      go_wp2_with (first
        | (go_at_call 143;(with_reducible refine (HNC.out _ HB1.out).mono ?_);intro e9 w8 hD;rcases hD.alt with ⟨q0,rfl,HUU,HK8⟩|⟨σ8,G8,d8,rfl,HUU,HN8,HS8,HK8⟩ <;> clear hD;rotate_left))
      · go_meet
        case rel=>exact ⟨G8,d8,σ8,hI (HH.out.trans HUU.out),hI (Nx.refl.trans HN8.out HB1.out.size),HS8,hI ((Kt.of_below HB1.out).trans HK8.out),hI (by rw [HN8.out.tag _ (ae HX1.out)];exact hGf _ (KU _)),hI (HK8.out.mine HX1.out (hGf _ (KU _)))⟩
      · exact ⟨rfl,aG.no (hI (by rw [HR.out,HH.out,HUU.out];rfl)) (((Kt.of_below HB1.out).trans HK8.out).of_tag hGo)⟩
    · have q7:(e.kind==7)=false:=by simpa using h7
      by_cases h6:e.kind=6
      · have q6:=kT 6 h6;cases hv:(σ.fu fn).vararg
        · have HH:=hI (show dt fn set e σ=.error (e.line,4) from by unfold dt;rw [if_neg h7,if_pos ⟨h6,hv⟩]);clear h7 h6
          go_wp2_with (first
            | (go_at_call 71;(with_reducible refine (ko _ _ _).mono ?_);rintro e9 w7 ⟨rfl,rfl⟩))
          exact ⟨rfl,aG.no (hI (by rw [HR.out,HH.out];rfl)) ((Kt.of_below HB1.out).of_tag hGo)⟩
        · have HH:=hI (show dt fn set e σ=.ok σ from by unfold dt;rw [if_neg h7,if_neg (by rw [hv];simp)]);exact yX
      · have q6:(e.kind==6)=false:=by simpa using h6
        have HH:=hI (show dt fn set e σ=.ok σ from by unfold dt;rw [if_neg h7,if_neg (fun h=>h6 h.1)]);exact yX
  case rest =>
    obtain ⟨G1,d1,σ1,HH,HN1,HS1,HK1,HG1,HX2⟩:=hcut;clear kp1 ky1 kg1 kpz1 kyz1 kgz1 kx kxf kxz HX1 HB1;have HO1:=hI (HO.out.stay (vC HH.out));have HD1:=hI (vB HH.out _ HD.out);have HR1:=hI (show R=(aO (E fn false) e.args σ1).bind fun σ2=>aO (dU B fn) e.funcs σ2 from by rw [HR.out,HH.out];rfl);have hp1:=HN1.out.p;have hk1:=HK1.out;have kx:=fun i=>ac HX2.out i;have kxf:=fun i=>ag HX2.out i;have kxz:=ae HX2.out;have HC:=hI (fun w' hb=>(by rw [←hp1];exact jy HE.out HES.out HEB.out e.args ea ec false fn w' (fun x hx=>by have:=Ex.args_lt hx;omega) HW.out.1 HD1.out (by omega) HO1.out hal ham (by rw [hp1];exact (HAR.out.keep HK1.out.keep_lt (fun _ h=>h)).keep (aq hb) (fun _ h=>h)) (HS1.out.below hb)):∀ w',Below wc.heap.size wc w'→Calls Tryz.prog 73 #[.pointer (some ⟨d.p,0,none⟩),.int .i64 fn,.slice ea e.args.length ec,.bool false] w' (aG G1 d1 (aO (E fn false) e.args σ1) w'))
    go_upto_region 8 with (first
      | (go_at_call 73;(with_reducible refine (HC.out _ bw).mono ?_);intro e9 w8 hD;rcases hD.alt with ⟨q0,rfl,HUU,HK8⟩|⟨σ2,G2,d2,rfl,HUU,HN8,HS8,HK8⟩ <;> clear hD;rotate_left))
    rotate_left
    · exact ⟨rfl,aG.no (hI (by rw [HR1.out,HUU.out];rfl)) ((hJ hp1 HN1.out HK8.out ka).of_tag hGo)⟩
    have HO2:=hI (HO1.out.stay (dG HES.out HO1.out.lt HUU.out));have HD2:=hI (fW HEB.out HUU.out _ HD1.out);have HR2:=hI (show R=aO (dU B fn) (e.funcs.drop 0) σ2 from by rw [HR1.out,HUU.out];rfl);have HN2:=hI (HN1.out.trans HN8.out HK1.out.size);have HK2:=hI (hJ hp1 HN1.out HK8.out ka:Kt G0 d.p Own w w8);have HG2:=hI (show ¬ Own (G2 w.heap.size) from by rw [HN8.out.tag _ (ae HX2.out)];exact HG1.out);have HX3:=hI (HK8.out.mine HX2.out HG1.out);clear hk1 kx kxf kxz HX2 HC HN1 HS1 HK1 HG1 HH HN8 HK8 HR1 HUU HO1 HD1 hp1;have kx:=fun i=>ac HX3.out i;have kxf:=fun i=>ag HX3.out i;have kxz:=ae HX3.out
    go_wp2_with fail
    go_loopg [43] e.funcs.length (fun gk i wr=>∃ (k:Nat) (G1:Nat→Tg) (d1:Wk) (σ1:Sc),gk+k=e.funcs.length∧i=.int .i64 k∧Hid (R=aO (dU B fn) (e.funcs.drop k) σ1)∧Hid (Nx G0 d w G1 d1)∧Hid (av G1 d1 wr σ1)∧Hid (Kt G0 d.p Own w wr)∧Hid (bm fn σ1)∧Hid (Bd (N+2+3*Ex.wys e.args+3*Fn.wys (e.funcs.take k)) σ1))
    case atStart=>exact ⟨0,G2,d2,σ2,by omega,rfl,HR2,HN2,HS8,HK2,HO2,hI (HD2.out.mono (by omega))⟩
    case round =>
    clear HR2 HN2 HS8 HK2 HO2 HD2 HG2 HX3 kx kxf kxz;obtain ⟨k,G1,d1,σ1,hk,rfl,HR,HN1,HS1,HK1,HO1,HB1⟩:=hrel;have HK:=hI hk;clear hk;by_cases hlt:k<e.funcs.length
    · obtain ⟨y,hy⟩:∃ y,e.funcs[k]?=some y:=⟨_,KP hlt⟩
      have hm:=KR hy;obtain ⟨b,off,h1,h2⟩:=Fn.ats_iff.1 ((Fn.ats_iff.2 HFR.out).keep HK1.out.keep_lt (fun _ h=>h));obtain ⟨hda,hbp,hlb⟩:=h1 (by intro h0;rw [h0] at hlt;simp at hlt);subst hda;obtain ⟨cs,hr,dy,rfl,haty⟩:=h2 k y hy;have c0:=hr 0 _ rfl;have c1:=hr 1 _ rfl;have c2:=hr 2 _ rfl;have c3:=hr 3 _ rfl;have c4:=hr 4 _ rfl;simp only [Nat.add_zero] at c0;have hp1:=HN1.out.p;have hwt:=D3 e.funcs k hy;have hwl:=D4 e.funcs (k+1);have HWT:=hI hwt;have HC:=hI (fun w' hb=>(by rw [←hp1];exact DV HB.out HBS.out y dy fn w' (by have:=Ex.body_lt hm;omega) (Fn.wfs_mem HW.out.2 y hm) HB1.out (by omega) HO1.out (by rw [hp1];exact haty.keep (aq hb) (fun _ h=>h)) (HS1.out.below hb)):∀ w',Below wr.heap.size wr w'→Calls Tryz.prog 32 #[.pointer (some ⟨d.p,0,none⟩),.int .i64 fn,.agg #[.string y.name,.slice dy.a y.params.length dy.c,.bool y.vararg,.slice dy.ba y.body.length dy.bc,.int .i64 y.line]] w' (aG G1 d1 (dU B fn y σ1) w'));have HST:=hI (mR hy σ1:aO (dU B fn) (e.funcs.drop k) σ1=_);clear h1 h2 hr haty hy hwt hm
      go_wp2_with (first
        | (go_at_call 32;(with_reducible refine (HC.out _ bw).mono ?_);intro e9 w8 hD;rcases hD.alt with ⟨q0,rfl,HUU,HK8⟩|⟨σ8,G8,d8,rfl,HUU,HN8,HS8,HK8⟩ <;> clear hD;rotate_left))
      · have hk1:=HK1.out
        go_roundg (gk - 1)
        case rel=>exact ⟨k+1,G8,d8,σ8,by have:=HK.out;omega,by go_num,hI (by rw [HR.out,HST.out,HUU.out];rfl),hI (HN1.out.trans HN8.out (by have:=HK1.out.size;simp;omega)),HS8,hI (hJ hp1 HN1.out HK8.out ka),hI (HO1.out.stay (vv HBS.out HO1.out.lt HUU.out)),hI ((qR HBB.out HUU.out _ HB1.out).mono (by have:=HWT.out;omega))⟩
        case measure=>have:=HK.out;omega
      · have hk1:=HK1.out;exact ⟨rfl,aG.no (hI (by rw [HR.out,HST.out,HUU.out];rfl)) ((hJ hp1 HN1.out HK8.out ka).of_tag hGo)⟩
    · have hke:e.funcs.drop k=[]:=List.drop_eq_nil_of_le (by omega);have HRR:=hI (show R=.ok σ1 from by rw [HR.out,hke];rfl);clear hke
      go_wp2_with fail
      go_end0;exact aG.yes HRR (HK1.out.of_tag hGo) ⟨HN1.out.p,HN1.out.rs,HN1.out.fs,fun b hb=>(HN1.out.tag b hb).trans (hGo b hb)⟩ HS1.out
