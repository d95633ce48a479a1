import Derived.Test.YtaddbmkkkollpaaGreatDoorC1
import Derived.Lib.Join
import Derived.Test.YtaddbmkkkollpaaGreatDoor0Y
import Derived.Recover
import Derived.Laws.EntriesVeiled
set_option linter.all false
namespace Go.Proofs.YtaddbmkkkollpaaGreatDoor
open Go.RowKit
theorem gL {c:Prop} [Decidable c] {n m:Int} (hn:n≠0):(if c then n else m)=0↔¬ c∧m=0:=by
  by_cases h:c
  · simp [h,hn]
  · simp [h]
theorem CD {x:Ex} {p:Int} {t:cu}:gF x p t=0↔¬ ((if x.kind=5 then 4096 else 40)<x.str.size)∧¬ (x.funcs.any (fun f=>decide (4096<f.name.size) || f.params.any (fun p=>decide (40<p.size)))=true)∧¬ ((decide (x.line<0) || !aS x p)=true)∧¬ (x.funcs.any (fun f=>decide (f.line<0) || !m6 t f)=true)∧¬ (((x.kind==7 || x.kind==10) && !cw x.str)=true)∧¬ (x.funcs.any (fun f=>f.params.any (fun p => !cw p))=true)∧(0:Int)=0:=by
  unfold gF;rw [gL (by decide),gL (by decide),gL (by decide),gL (by decide),gL (by decide),gL (by decide)]
theorem CF {s:St} {b:Bool}:et s b=0↔¬ (40<s.label.size)∧¬ (s.names.any (fun x=>decide (40<x.1.size))=true)∧¬ ((decide (s.line<0) || !aU s b)=true)∧¬ (((s.kind==13 || s.kind==14) && !cw s.label)=true)∧¬ (s.names.any (fun x => !cw x.1)=true)∧(0:Int)=0:=by
  unfold et;rw [gL (by decide),gL (by decide),gL (by decide),gL (by decide),gL (by decide)]
theorem mU {x:Ex} {p:Int} {t:cu}:ci t p x=0↔gF x p t=0∧(∀ y ∈ x.args,ci gm x.kind y=0)∧∀ f ∈ x.funcs,aB (bN f.body)=0:=by
  rw [uO,lg,lg,m5,m5];simp [uK]
theorem mV {s:St} {b:Bool} (h:et s b=0):aU s b=true:=by
  obtain ⟨-,-,h3,-⟩:=CF.1 h;simp at h3;exact h3.2
theorem IR {s:St} {b:Bool} (h:et s b=0) (hk:s.kind=2):s.names.length=1∧jE s.right=11:=by
  have h9:=mV h;unfold aU at h9;simp [hk,bo,cT] at h9;exact ⟨by omega,by omega⟩
theorem IT {s:St} {b:Bool} (h:et s b=0):1≤s.kind∧s.kind≤14:=by
  have h9:=mV h;apply Classical.byContradiction;intro hn;unfold aU at h9;rw [if_neg (by omega),if_neg (by omega),if_neg (by omega),if_neg (by omega),if_neg (by omega),if_neg (by omega),if_neg (by omega),if_neg (by omega),if_neg (by omega),if_neg (by omega),if_neg (by omega),if_neg (by omega)] at h9;cases h9
theorem xV {s:St} {b:Bool} (h:et s b=0) (hk:s.kind=5∨s.kind=6∨s.kind=7∨s.kind=9∨s.kind=10):s.blocks.length=1:=by
  have h9:=mV h;unfold aU at h9;rcases hk with hk|hk|hk|hk|hk <;> (simp [hk,bo,cT] at h9;omega)
theorem IS {s:St} {b:Bool} (h:et s b=0) (hk:s.kind=8):s.right.length≤s.blocks.length∧s.blocks.length≤s.right.length+1:=by
  have h9:=mV h;unfold aU at h9;simp [hk,bo,cT] at h9;omega
theorem Ks:∀ n,jf (WL n).1 n∧iw (WL n).2 n:=yN fun _ _ _ h1 h2 h3 h4 h5 h6=>IW h1 h2 h3 h4 h5 h6
mutual
theorem Ex.wf_of:∀ (x:Ex) {t:cu} {p:Int},ci t p x=0→x.wf
  | .mk k o l p q s a f,t,p',h=>⟨Ex.wfs_of a fun y hy=>⟨_,_,(mU.1 h).2.1 y hy⟩,Fn.wfs_of f fun y hy=>(mU.1 h).2.2 y hy⟩
theorem Ex.wfs_of:∀ (l:List Ex),(∀ y ∈ l,∃ (t:cu) (p:Int),ci t p y=0)→Ex.wfs l
  | [],_=>trivial
  | x::r,h=>⟨by obtain ⟨t,p,h1⟩:=h x (by simp);exact Ex.wf_of x h1,Ex.wfs_of r fun y hy=>h y (by simp [hy])⟩
theorem Fn.wf_of:∀ (f:Fn),aB (bN f.body)=0→f.wf
  | .mk _ _ _ b _,h=>St.wfs_of b h
theorem Fn.wfs_of:∀ (l:List Fn),(∀ f ∈ l,aB (bN f.body)=0)→Fn.wfs l
  | [],_=>trivial
  | x::r,h=>⟨Fn.wf_of x (h x (by simp)),Fn.wfs_of r fun y hy=>h y (by simp [hy])⟩
theorem St.wf_of:∀ (s:St) {b:Bool},eF b s=0→s.wf
  | .mk k l ns le ri bs lab,b,h=>by
    obtain ⟨h1,h2,h3,h4⟩:=uM.1 h;refine ⟨fun hk e=>?_,fun hk e=>?_,Ex.wfs_of le fun y hy=>⟨_,_,h2 y hy⟩,Ex.wfs_of ri fun y hy=>⟨_,_,h3 y hy⟩,St.wfss_of bs h4⟩
    · have h9:=xV h1 hk;rw [show (St.mk k l ns le ri bs lab).blocks=bs from rfl,e] at h9;cases h9
    · have h9:=(IR h1 hk).1;rw [show (St.mk k l ns le ri bs lab).names=ns from rfl,e] at h9;cases h9
theorem St.wfs_of:∀ (l:List St),aB (bN l)=0→St.wfs l
  | [],_=>trivial
  | s::r,h=>by
    have h1:alt (eF r.isEmpty s) (aB (bN r))=0:=h;rw [lg] at h1;exact ⟨St.wf_of s h1.1,St.wfs_of r h1.2⟩
theorem St.wfss_of:∀ (l:List (List St)),(∀ b ∈ l,aB (bN b)=0)→St.wfss l
  | [],_=>trivial
  | x::r,h=>⟨St.wfs_of x (h x (by simp)),St.wfss_of r fun y hy=>h y (by simp [hy])⟩
end
def NZ {α:Type} (m:SR α):Prop:=∀ q,m=.error q→q.2≠0
theorem NZ.ok {α:Type} (a:α):NZ (.ok a:SR α):=fun _ h=>by cases h
theorem NZ.err {α:Type} {l e:Int} (h:e≠0):NZ (.error (l,e):SR α):=fun _ h9=>by cases h9;exact h
theorem NZ.bind {α β:Type} {m:SR α} {k:α→SR β} (h:NZ m) (hk:∀ a,NZ (k a)):NZ (m.bind k):=by
  cases m with
  | ok a=>exact hk a
  | error e=>exact fun q h9=>h q (by cases h9;rfl)
theorem NZ.each {α:Type} {f:α→Sc→SR Sc}:∀ (l:List α) (σ:Sc),(∀ x σ,NZ (f x σ))→NZ (aO f l σ)
  | [],σ,_=>NZ.ok σ
  | x::r,σ,h=>NZ.bind (h x σ) fun a=>NZ.each r a h
theorem ov (fn:Nat) (line:Int) (x:ByteArray × Int) (σ:Sc):NZ (bv fn line x σ):=by
  unfold bv;split
  · exact NZ.err (by decide)
  · exact NZ.ok _
theorem yH (v:Vr) (line:Int):∀ (n fn:Nat) (σ:Sc),NZ (cd n fn v line σ)
  | 0,_,_=>NZ.err (by decide)
  | n+1,fn,σ=>by
    unfold cd;split
    · exact NZ.ok _
    · refine NZ.bind ?_ fun r=>?_
      · split
        · exact NZ.ok _
        · exact yH v line n _ σ
      · split
        · exact NZ.err (by decide)
        · exact NZ.ok _
theorem F5 (fn:Nat) (e:Ex) (set:Bool) (σ:Sc):NZ (gO fn e set σ):=by
  refine NZ.bind ?_ fun r=>NZ.ok _;unfold eo;split
  · exact NZ.ok _
  · split
    · exact NZ.err (by decide)
    · split
      · exact NZ.ok _
      · exact NZ.bind (yH _ _ _ _ _) fun r=>NZ.ok _
section
variable {E:WE} {B:WB} (hE:∀ fn set e σ,NZ (E fn set e σ)) (hB:∀ f c σ,NZ (B f c σ))
include hB
theorem vt (up:Int) (f:Fn) (σ:Sc):NZ (dU B up f σ):=NZ.bind (NZ.each _ _ fun p σ=>ov _ _ _ _) fun σ2=>NZ.bind (hB _ _ _) fun σ3=>NZ.ok _
include hE
theorem CQ (fn:Nat) (set:Bool) (e:Ex) (σ:Sc):NZ (jx E B fn set e σ):=by
  refine NZ.bind ?_ fun σ1=>NZ.bind (NZ.each _ _ fun x σ=>hE _ _ _ _) fun σ2=>NZ.each _ _ fun f σ=>vt hB _ _ _;unfold dt;split
  · exact F5 _ _ _ _
  · split
    · exact NZ.err (by decide)
    · exact NZ.ok _
omit hE in
theorem ww (fn:Nat) (s:St) (rep:Bool) (σ:Sc):NZ (fz E B fn s rep σ):=NZ.bind (NZ.each _ _ fun p σ=>ov _ _ _ _) fun σ2=>NZ.bind (hB _ _ _) fun σ3=>NZ.ok _
omit hE hB in
theorem rz (fn:Nat) (s:St) (σ:Sc):∀ l:List Fr,NZ (cj fn s σ l)
  | []=>NZ.err (by split <;> decide)
  | f::r=>by
    unfold cj;split
    · exact NZ.err (by split <;> decide)
    · split
      · split
        · exact NZ.ok _
        · exact rz fn s σ r
      · split
        · exact rz fn s σ r
        · split
          · exact NZ.err (by decide)
          · exact NZ.ok _
theorem vJ (fn:Nat) (rs:List Ex):∀ (l:List (List St)) (i:Nat) (σ:Sc),NZ (fY E B fn rs i l σ)
  | [],_,σ=>NZ.ok σ
  | b::r,i,σ=>by
    unfold fY;refine NZ.bind ?_ fun σ1=>NZ.bind (hB _ _ _) fun σ2=>vJ fn rs r (i+1) σ2;split
    · exact hE _ _ _ _
    · exact NZ.ok _
theorem IZ (fn:Nat) (s:St) (σ:Sc):NZ (cy E B fn s σ):=by
  have he:∀ set l σ,NZ (aO (E fn set) l σ):=fun set l σ=>NZ.each _ _ fun x σ=>hE _ _ _ _;unfold cy;split;· exact NZ.bind (he _ _ _) fun σ1=>NZ.each _ _ fun p σ=>ov _ _ _ _
  split;· exact NZ.bind (ov _ _ _ _) fun σ1=>he _ _ _
  split;· exact NZ.bind (he _ _ _) fun σ1=>he _ _ _
  split;· exact hB _ _ _
  split;· exact vJ hE hB _ _ _ _ _
  split;· exact NZ.bind (he _ _ _) fun σ1=>ww hB _ _ _ _
  split;· exact ww hB _ _ _ _
  split
  · unfold gM;split
    · exact NZ.err (by decide)
    · exact NZ.ok _
  split;· exact rz _ _ _ _
  exact he _ _ _
theorem yg (fn n:Nat):∀ (l:List St) (i:Nat) (σ:Sc),NZ (gS E B fn n i l σ)
  | [],_,σ=>NZ.ok σ
  | s::r,i,σ=>NZ.bind (IZ hE hB _ _ _) fun σ1=>yg fn n r (i+1) σ1
theorem A9 (f:Fr) (c:List Ex) (σ:Sc):NZ (jp E B f c σ):=NZ.bind (yg hE hB _ _ _ _ _) fun σ1=>NZ.bind (NZ.each _ _ fun x σ=>hE _ _ _ _) fun σ2=>NZ.ok _
end
theorem nM:∀ n,(∀ fn set e σ,NZ ((WL n).1 fn set e σ))∧(∀ f c σ,NZ ((WL n).2 f c σ))
  | 0=>⟨fun _ _ _ _=>NZ.err (by decide),fun _ _ _=>NZ.err (by decide)⟩
  | n+1=>⟨CQ (nM n).1 (nM n).2,A9 (nM n).1 (nM n).2⟩
def bU (cv:List St→Int) (b:List St):SR Sc:=if cv b=0 then lY b else .error (0,cv b)
theorem yM (cv:List St→Int) (b:List St):NZ (bU cv b):=by
  unfold bU;split
  · exact vt (nM _).2 _ _ _
  · exact NZ.err (by assumption)
theorem af.less {F F':Nat→Prop} {w w':World} (h:af F w w') (hF:∀ k,F' k→F k):af F' w w':=⟨h.size,fun k hk hl=>h.block k (hF k hk) hl⟩
def jj (p:Nat) (w:World) (σ:Sc):Prop:=∃ (G:Nat→Tg) (d:Wk),d.p=p∧w.heap[p]?=some (.cells #[d.vf,d.vs,d.vr,d.vu,d.vj] 78)∧Rw gK 82 1 (Dt G p (1,0)) w d.vf d.fs∧Rw ml 39 6 (Dt G p (4,0)) w d.vu σ.uses∧Rw lH 212 5 (Dt G p (5,0)) w d.vj σ.jumps∧d.fs.length=σ.funs.length∧∀ (i:Nat) x y,σ.funs[i]?=some x→d.fs[i]?=some y→dN G p i w x y
theorem dN.keep {G:Nat→Tg} {p i:Nat} {w w':World} {x:Fu} {y:Fd} (h:dN G p i w x y) (hk:af (fun k=>p≤k) w w'):dN G p i w' x y :=
  ⟨(hk.block _ h.tb.1 (ae h.box)).trans h.box,h.tb,h.rl.keep (hk.less fun k hk=>hk.1),h.ru.keep (hk.less fun k hk=>hk.1),h.ti,h.mi.of (hk.block _ h.ti.1 h.mi.lt),h.tc,h.mc.of (hk.block _ h.tc.1 h.mc.lt),h.nd⟩
theorem jj.keep {p:Nat} {w w':World} {σ:Sc} (h:jj p w σ) (hk:af (fun k=>p≤k) w w'):jj p w' σ:=by
  obtain ⟨G,d,hp,hb,rf,ru,rj,hl,hf⟩:=h;exact ⟨G,d,hp,(hk.block _ (KU _) (ae hb)).trans hb,rf.keep (hk.less fun k hk=>hk.1),ru.keep (hk.less fun k hk=>hk.1),rj.keep (hk.less fun k hk=>hk.1),hl,fun i x y hx hy=>(hf i x y hx hy).keep hk⟩
theorem jj.of {G:Nat→Tg} {d:Wk} {w:World} {σ:Sc} (h:av G d w σ):jj d.p w σ:=⟨G,d,rfl,h.box,h.rf,h.ru,h.rj,h.lf,h.fu⟩
def kZ (cv:List St→Int) (b:List St) (w:World) (e:Ending) (w':World):Prop:=Below w.heap.size w w'∧match bU cv b with
  | .error q=>e=.returned (.tuple #[.pointer none,.int .i64 q.1,.int .i64 q.2])
  | .ok σ=>∃ p,e=.returned (.tuple #[.pointer (some ⟨p,0,none⟩),.int .i64 0,.int .i64 0])∧w.heap.size≤p∧jj p w' σ
set_option maxHeartbeats 4000000
set_option maxRecDepth 100000
theorem Aa (l e:Int) (w:World):Sem.run Tryz.prog (Instr.typeAssert (.iface 98 (.agg #[.int .i64 l,.int .i64 e])) 20 98 false) w=.ok (.agg #[.int .i64 l,.int .i64 e]) w:=by kernel_rfl
theorem Bp (b:Nat) (v0:Value) (x1 x2 l er:Int) (w:World) (h0:w.heap[b]?=some (.cells #[v0] 70)) (h1:w.heap[b+1]?=some (.cells #[.int .i64 x1] 3)) (h2:w.heap[b+2]?=some (.cells #[.int .i64 x2] 29)) :
    CallsD Tryz.prog 31 #[.pointer (some ⟨b,0,none⟩),.pointer (some ⟨b+1,0,none⟩),.pointer (some ⟨b+2,0,none⟩)] (.panicking (iO (l,er))) w fun e u' w' =>
      e=.returned (.tuple #[])∧u'=.panicking [{ v:=.iface 98 (.agg #[.int .i64 l,.int .i64 er]),recovered:=true }]∧w'.heap[b]?=some (.cells #[.pointer none] 70)∧w'.heap[b+1]?=some (.cells #[.int .i64 l] 3)∧w'.heap[b+2]?=some (.cells #[.int .i64 er] 29)∧Below b w w':=by
  have k0:=fun j=>ac h0 j;have k0f:=ag h0;have k0z:=ae h0;have k1:=fun j=>ac h1 j;have k1f:=ag h1;have k1z:=ae h1;have k2:=fun j=>ac h2 j;have k2f:=ag h2;have k2z:=ae h2;have H0:=hI h0;have H1:=hI h1;have H2:=hI h2;have ha:=fun W=>Aa l er W;unfold iO;refine callsD_of_wpS Tryz.func31 rfl fun c₀ cs hu=>?_;apply wpS_seq;apply wpS_region;have hrep:(Array.replicate 11 undef:Array Value)=#[undef,undef,undef,undef,undef,undef,undef,undef,undef,undef,undef]:=rfl;simp [wpOpsS,go_sem,recoverD,hu,Tryz.ntmps31,Exit.thenS,hrep];refine wpS_of_wp ?_;clear h0 h1 h2
  go_wp2_with fail
  have ne1:¬ b=w.heap.size:=by omega
  have ne2:¬ b+1=w.heap.size:=by omega
  have ne3:¬ b+2=w.heap.size:=by omega
  go_region
  all_goals
    go_wp2_with fail
    refine ⟨rfl,_,rfl,.tuple #[],by simp [results,Tryz.results31,go_sem],rfl,rfl,?_,?_,?_,?_⟩
    · exact ax (gD (gD (aR H0.out 0 (.pointer none)) (by simp)) (by simp)) _
    · exact ax (gD (aR (gD H1.out (by simp)) 0 (.int .i64 l)) (by simp)) _
    · exact ax (aR (gD (gD H2.out (by simp)) (by simp)) 0 (.int .i64 er)) _
    · have h9:=((Below.refl b w).setCell (p:=⟨b,0,none⟩) (KU _) (.pointer none)).setCell (p:=⟨b+1,0,none⟩) (Nat.le_succ _) (.int .i64 l);have h8:=h9.setCell (p:=⟨b+2,0,none⟩) (by show b≤b+2;omega) (.int .i64 er);exact (h8.alloc (KT (Nat.le_of_lt k0z) h8.size) _).drew
theorem Bq (p0 p1 p2:Addr) (w:World) :
    CallsD Tryz.prog 31 #[.pointer (some p0),.pointer (some p1),.pointer (some p2)] .returning w fun e u' w'=>e=.returned (.tuple #[])∧u'=.returning∧w'=w:=by
  refine callsD_of_wpS Tryz.func31 rfl fun c₀ cs hu=>?_;have hrep:(Array.replicate 11 undef:Array Value)=#[undef,undef,undef,undef,undef,undef,undef,undef,undef,undef,undef]:=rfl;apply wpS_seq;apply wpS_region;simp [wpOpsS,go_sem,recoverD,hu,Tryz.ntmps31,Exit.thenS,hrep];refine wpS_of_wp ?_
  go_wp2_with fail
  cases c₀;simp_all [bodyPostS,results,Tryz.results31]
theorem Kp {cv:List St→Int} (hTC:p4 cv) (hcv:∀ b,cv b=0→St.wfs b) (b:List St) (a:Option Addr) (c:Nat) (w:World) (hw:St.wys b≤1073741824) (h1:b.length≤c) (h2:c≤MX) (h3:b.length*128≤LM) (hat:St.Ats ak w b a) (hz:St.wzs b≤1073741824) (hs:St.szs b≤2147483646) :
    Calls Tryz.prog 21 #[.slice a b.length c] w (kZ cv b w):=by
  have hmf:∀ (fn:Go.Fn) (first cap:Array Value) (w:World),(Instr.makeFunc fn first cap).run Tryz.prog w=.ok (.func fn first cap) w:=fun _ _ _ _=>rfl;obtain ⟨V,hV⟩:∃ V,V=cv b:=⟨_,rfl⟩
  have HC:=hI (fun w' h=>by rw [hV];exact hTC b a c w' hz h1 h2 h3 (St.Ats.keep (aq h) (fun _ _=>trivial) hat):∀ w',Below w.heap.size w w'→Calls Tryz.prog 30 #[.slice a b.length c] w' fun e w''=>e=.returned (.int .i64 V)∧Below w'.heap.size w' w'');by_cases h0:V=0
  · have hwf:=hcv b (by rw [←hV];exact h0);obtain ⟨n,hn⟩:∃ n:Nat,n=2147483648:=⟨_,rfl⟩
    obtain ⟨f,hf⟩:∃ f:Fn,f=.mk ⟨#[]⟩ [] true b 0:=⟨_,rfl⟩
    obtain ⟨R,hR⟩:∃ R,R=dU (WL n).2 (-1) f iX:=⟨_,rfl⟩
    have HW:=hI (show bU cv b=R from by rw [hR,hf,hn];unfold bU;rw [if_pos (by rw [←hV];exact h0)];rfl);have HV:=hI hV;subst h0;have HCV:=hI (show cv b=0 from HV.out.symm);clear hV HV
    go_enter_defers Tryz.func21,Tryz.ntmps21
    go_upto_region 6 with (go_at_call 30;refine ((HC.out _ bw)).mono ?_;rintro e w2 ⟨rfl,hb2⟩;have HX0:=hI (aD hb2 (ax (ax (aA (b:=w.heap.size) rfl) _) _));have HX1:=hI (aD hb2 (ax (aA (b:=w.heap.size+1) (by simp)) _));have HX2:=hI (aD hb2 (aA (b:=w.heap.size+1+1) (by simp)));have k0:=fun i=>ac HX0.out i;have k0f:=fun i=>ag HX0.out i;have k0z:=ae HX0.out;have k1:=fun i=>ac HX1.out i;have k1f:=fun i=>ag HX1.out i;have k1z:=ae HX1.out;have k2:=fun i=>ac HX2.out i;have k2f:=fun i=>ag HX2.out i;have k2z:=ae HX2.out)
    have hb02:Below w.heap.size w w2:=bw;obtain ⟨w3,hw3⟩:∃ w3:World,w3=(w2.setCell ⟨w.heap.size,0,none⟩ (.pointer (some ⟨w2.heap.size,0,none⟩))).alloc (.cells #[.slice none 0 0,.slice none 0 0,.slice none 0 0,.slice none 0 0,.slice none 0 0] 78):=⟨_,rfl⟩
    have HB3:=hI (show Below w.heap.size w w3 from by rw [hw3];exact bw);have HY0:=hI (show w3.heap[w.heap.size]?=some (.cells #[.pointer (some ⟨w2.heap.size,0,none⟩)] 70) from by rw [hw3];exact ax (aR HX0.out 0 _) _);have HY1:=hI (show w3.heap[w.heap.size+1]?=some (.cells #[.int .i64 0] 3) from by rw [hw3];exact ax (gD HX1.out (by simp)) _);have HY2:=hI (show w3.heap[w.heap.size+2]?=some (.cells #[.int .i64 0] 29) from by rw [hw3];exact ax (gD HX2.out (by show w.heap.size≠w.heap.size+1+1;omega)) _);have HYW:=hI (show w3.heap[w2.heap.size]?=some (.cells #[.slice none 0 0,.slice none 0 0,.slice none 0 0,.slice none 0 0,.slice none 0 0] 78) from by rw [hw3];exact aA (by simp));have hz2:w.heap.size+3≤w2.heap.size:=by have:=ae HX2.out;omega
    rw [←hw3];clear hw3 k0 k0f k0z k1 k1f k1z k2 k2f k2z HX0 HX1 HX2 hb2 hb02 HC;have hz3:w2.heap.size<w3.heap.size:=ae HYW.out
    have hsc:av (fun _=>(0,0)) ⟨w2.heap.size,.slice none 0 0,.slice none 0 0,.slice none 0 0,.slice none 0 0,.slice none 0 0,[],[]⟩ w3 iX :=
      ⟨HYW.out,rfl,Rw.nil,Rw.nil,Rw.nil,Rw.nil,Rw.nil,rfl,rfl,fun i x y h=>(by cases h),fun k f y h=>(by cases h)⟩
    have hok:bm iX.funs.length { iX with funs:=iX.funs++[⟨-1,f.vararg,[],[],[],[]⟩] }:=by
      refine ⟨Nat.lt_succ_self 0,fun i x h=>?_,fun v h=>(by cases h),fun v h=>(by cases h),fun f h=>(by cases h)⟩;cases i with
      | zero=>cases h;exact .inl ⟨rfl,rfl⟩
      | succ i=>cases h
    have hfa:f.At (Lt w2.heap.size) w3 ⟨none,0,a,c⟩:=by
      rw [hf];refine Fn.at_iff.2 ⟨⟨Nat.zero_le _,show aJ 0 from by unfold aJ;omega⟩,⟨KU _,⟨Nat.zero_le _,Nat.zero_le _⟩,h1,h2,h3⟩,aj.nil _,?_⟩;exact St.ats_iff.1 ((hat.mono (fun k _ hl=>(show k<w2.heap.size by omega):∀ k,ak k→k<w.heap.size→Lt w2.heap.size k)).keep (aq HB3.out) (fun _ h=>h))
    have hfb:f.body=b:=by rw [hf];rfl
    have HF:=hI (vw (Ks n).2 (mq n).2 f ⟨none,0,a,c⟩ (-1) w3 (N:=0) (by rw [hfb,hn];omega) (by rw [hf];exact hwf) ⟨KU _,KU _,KU _,KU _,KU _,fun x h=>by cases h⟩ (by rw [hf];show 0+3*(1+0+0+St.wys b)+3≤68719476736;omega) hok hfa hsc);rw [←hR,hf] at HF;dsimp only [Fn.name,Fn.params,Fn.vararg,Fn.body,Fn.line,List.length_nil] at HF;clear hfa hok hsc hfb hf hR hn hwf;have k0:=fun i=>ac HY0.out i;have k0f:=fun i=>ag HY0.out i;have k0z:=ae HY0.out;have k1:=fun i=>ac HY1.out i;have k1f:=fun i=>ag HY1.out i;have k1z:=ae HY1.out;have k2:=fun i=>ac HY2.out i;have k2f:=fun i=>ag HY2.out i;have k2z:=ae HY2.out
    go_wp2_with fail
    refine (HF.out).mono ?_;intro e9 w8 hD;have hb8:Below w2.heap.size w3 w8:=hD.kt.to_below (by show w2.heap.size≤w3.heap.size;omega);have HB8:=hI hb8;have HZ0:=hI ((hb8.block w.heap.size (by omega)).trans HY0.out);have HZ1:=hI ((hb8.block (w.heap.size+1) (by omega)).trans HY1.out);have HZ2:=hI ((hb8.block (w.heap.size+2) (by omega)).trans HY2.out);clear hb8 k0 k0f k0z k1 k1f k1z k2 k2f k2z;have k0:=fun i=>ac HZ0.out i;have k0f:=fun i=>ag HZ0.out i;have k0z:=ae HZ0.out;have k1:=fun i=>ac HZ1.out i;have k1f:=fun i=>ag HZ1.out i;have k1z:=ae HZ1.out;have k2:=fun i=>ac HZ2.out i;have k2f:=fun i=>ag HZ2.out i;have k2z:=ae HZ2.out;rcases hD.alt with ⟨q0,rfl,HUU,HK8⟩|⟨σ8,G8,d8,rfl,HUU,HN8,HS8,HK8⟩ <;> clear hD
    · have HE:=hI (show R=.error (q0.1,q0.2) from HUU.out)
      go_wp2_with fail
      refine leaves_cons (f:=31) (args:=#[.pointer (some ⟨w.heap.size,0,none⟩),.pointer (some ⟨w.heap.size+1,0,none⟩),.pointer (some ⟨w.heap.size+2,0,none⟩)]) (by simp) (by simp [go_sem]) ?_;refine (Bp w.heap.size _ _ _ q0.1 q0.2 _ HZ0.out HZ1.out HZ2.out).mono ?_;rintro e u' w'' ⟨rfl,rfl,j0,j1,j2,hb⟩;have c0:=fun i=>ac j0 i;have c1:=fun i=>ac j1 i;have c2:=fun i=>ac j2 i;simp [Leaves,settle,results,Tryz.results21,go_sem,c0,c1,c2];unfold kZ;rw [HW.out,HE.out];exact ⟨(HB3.out.trans (HB8.out.mono (by omega))).trans hb,rfl⟩
    · have HE:=hI HUU.out
      go_wp2_with fail
      refine leaves_cons (f:=31) (args:=#[.pointer (some ⟨w.heap.size,0,none⟩),.pointer (some ⟨w.heap.size+1,0,none⟩),.pointer (some ⟨w.heap.size+2,0,none⟩)]) (by simp) (by simp [go_sem]) ?_;refine (Bq _ _ _ _).mono ?_;rintro e u' w'' ⟨rfl,rfl,rfl⟩;simp [Leaves,settle,results,Tryz.results21,go_sem,k0,k1,k2];have hp8:d8.p=w2.heap.size:=HN8.out.p;have hsf:=jj.of HS8.out;rw [hp8] at hsf;unfold kZ;rw [HW.out,HE.out];refine ⟨(((HB3.out.trans (HB8.out.mono (by omega))).setCell (p:=⟨w.heap.size,0,none⟩) (KU _) _).setCell (p:=⟨w.heap.size+1,0,none⟩) (Nat.le_succ _) _).setCell (p:=⟨w.heap.size+1+1,0,none⟩) (by show w.heap.size≤w.heap.size+1+1;omega) _,w2.heap.size,rfl,by omega,hsf.keep ?_⟩;exact (((af.refl _ _).set (by show ¬ w2.heap.size≤w.heap.size;omega) _).set (by show ¬ w2.heap.size≤w.heap.size+1;omega) _).set (by show ¬ w2.heap.size≤w.heap.size+1+1;omega) _
  · have HW:=hI (show bU cv b=.error (0,V) from by unfold bU;rw [if_neg (by rw [←hV];exact h0),hV]);have q:(V != 0)=true:=by simp [h0]
    clear hV h0
    go_enter_defers Tryz.func21,Tryz.ntmps21
    go_wp2_with (go_at_call 30;refine ((HC.out _ bw)).mono ?_;rintro e w2 ⟨rfl,hb2⟩;have HX0:=hI (aD hb2 (ax (ax (aA (b:=w.heap.size) rfl) _) _));have HX1:=hI (aD hb2 (ax (aA (b:=w.heap.size+1) (by simp)) _));have HX2:=hI (aD hb2 (aA (b:=w.heap.size+1+1) (by simp)));have k0:=fun i=>ac HX0.out i;have k0f:=fun i=>ag HX0.out i;have k0z:=ae HX0.out;have k1:=fun i=>ac HX1.out i;have k1f:=fun i=>ag HX1.out i;have k1z:=ae HX1.out;have k2:=fun i=>ac HX2.out i;have k2f:=fun i=>ag HX2.out i;have k2z:=ae HX2.out)
    simp [bodyPostD,Leaves,settle,results,Tryz.results21,go_sem,k0,k1,k2];unfold kZ;rw [HW.out];exact ⟨bw,rfl⟩
mutual
theorem Ex.wz_le8:∀ x:Ex,x.wz≤x.wy
  | .mk _ _ _ _ _ s a f=>by have:=Ex.wzs_le8 a;have:=Fn.wzs_le8 f;simp only [Ex.wz,Ex.wy];omega
theorem Ex.wzs_le8:∀ l:List Ex,Ex.wzs l≤Ex.wys l
  | []=>KU _
  | x::r=>by have:=Ex.wz_le8 x;have:=Ex.wzs_le8 r;simp only [Ex.wzs,Ex.wys];omega
theorem Fn.wz_le8:∀ x:Fn,x.wz≤x.wy
  | .mk _ _ _ b _=>by have:=St.wzs_le8 b;simp only [Fn.wz,Fn.wy];omega
theorem Fn.wzs_le8:∀ l:List Fn,Fn.wzs l≤Fn.wys l
  | []=>KU _
  | x::r=>by have:=Fn.wz_le8 x;have:=Fn.wzs_le8 r;simp only [Fn.wzs,Fn.wys];omega
theorem St.wz_le8:∀ x:St,x.wz≤x.wy
  | .mk _ _ _ l r b _=>by have:=Ex.wzs_le8 l;have:=Ex.wzs_le8 r;have:=St.wzss_le8 b;simp only [St.wz,St.wy];omega
theorem St.wzs_le8:∀ l:List St,St.wzs l≤St.wys l
  | []=>KU _
  | x::r=>by have:=St.wz_le8 x;have:=St.wzs_le8 r;simp only [St.wzs,St.wys];omega
theorem St.wzss_le8:∀ l:List (List St),St.wzss l≤St.wyss l
  | []=>KU _
  | x::r=>by have:=St.wzs_le8 x;have:=St.wzss_le8 r;simp only [St.wzss,St.wyss];omega
end
mutual
theorem Ex.sz_le8:∀ x:Ex,x.sz≤x.wy
  | .mk _ _ _ _ _ s a f=>by have:=Ex.szs_le8 a;have:=Fn.szs_le8 f;simp only [Ex.sz,Ex.wy];omega
theorem Ex.szs_le8:∀ l:List Ex,Ex.szs l≤Ex.wys l
  | []=>KU _
  | x::r=>by have:=Ex.sz_le8 x;have:=Ex.szs_le8 r;simp only [Ex.szs,Ex.wys];omega
theorem Fn.sz_le8:∀ x:Fn,x.sz≤x.wy
  | .mk _ _ _ b _=>by have:=St.szs_le8 b;simp only [Fn.sz,Fn.wy];omega
theorem Fn.szs_le8:∀ l:List Fn,Fn.szs l≤Fn.wys l
  | []=>KU _
  | x::r=>by have:=Fn.sz_le8 x;have:=Fn.szs_le8 r;simp only [Fn.szs,Fn.wys];omega
theorem St.sz_le8:∀ x:St,x.sz≤x.wy
  | .mk _ _ _ l r b _=>by have:=Ex.szs_le8 l;have:=Ex.szs_le8 r;have:=St.szss_le8 b;simp only [St.sz,St.wy];omega
theorem St.szs_le8:∀ l:List St,St.szs l≤St.wys l
  | []=>KU _
  | x::r=>by have:=St.sz_le8 x;have:=St.szs_le8 r;simp only [St.szs,St.wys];omega
theorem St.szss_le8:∀ l:List (List St),St.szss l≤St.wyss l
  | []=>KU _
  | x::r=>by have:=St.szs_le8 x;have:=St.szss_le8 r;simp only [St.szss,St.wyss];omega
end
structure BA (b:List St) (a:Option Addr) (c:Nat) (w:World):Prop where
  wy:St.wys b≤1073741824
  l1:b.length≤c
  l2:c≤MX
  l3:b.length*128≤LM
  at_:St.Ats ak w b a
theorem BA.below {b:List St} {a:Option Addr} {c:Nat} {w w':World} (h:BA b a c w) (hb:Below w.heap.size w w'):BA b a c w':=⟨h.wy,h.l1,h.l2,h.l3,h.at_.keep (aq hb) fun _ h=>h⟩
structure CV (cv:List St→Int):Prop where
  tc:p4 cv
  wf:∀ b,cv b=0→St.wfs b
section
variable {cv:List St→Int} (hC:CV cv) {b:List St} {a:Option Addr} {c:Nat} {w:World} (hB:BA b a c w)
include hC hB
theorem Kq:Calls Tryz.prog 21 #[.slice a b.length c] w (kZ cv b w):=by
  have:=hB.wy;have:=St.wzs_le8 b;have:=St.szs_le8 b;exact Kp hC.tc hC.wf b a c w hB.wy hB.l1 hB.l2 hB.l3 hB.at_ (by omega) (by omega)
theorem yL:Calls Tryz.prog 21 #[.slice a b.length c] w fun e w'=>Below w.heap.size w w'∧((∃ q,Hid (bU cv b=.error q)∧Hid (q.2≠0)∧e=.returned (.tuple #[.pointer none,.int .i64 q.1,.int .i64 q.2]))∨∃ σ p,Hid (bU cv b=.ok σ)∧e=.returned (.tuple #[.pointer (some ⟨p,0,none⟩),.int .i64 0,.int .i64 0])∧w.heap.size≤p∧Hid (jj p w' σ)):=by
  refine (Kq hC hB).mono ?_;intro e w' h;unfold kZ at h;refine ⟨h.1,?_⟩;have h2:=h.2;cases hr:bU cv b with
  | error q=>rw [hr] at h2;exact .inl ⟨q,hI rfl,hI (yM cv b q hr),h2⟩
  | ok σ=>rw [hr] at h2;obtain ⟨p,h3,h4,h5⟩:=h2;exact .inr ⟨σ,p,hI rfl,h3,h4,hI h5⟩
end
def eq {α:Type} (r:SR α):Int × Int:=match r with | .error q=>q | .ok _=>(0,0)
def eh {α:Type} (f:α→List Value) (t:TypeId) (n:Nat) (r:SR (List α)) (w:World) (e:Ending) (w':World):Prop:=Below w.heap.size w w'∧match r with
  | .error q=>e=.returned (.tuple #[.slice none 0 0,.int .i64 q.2])
  | .ok l=>∃ v,e=.returned (.tuple #[v,.int .i64 0])∧Rw f t n (fun j=>w.heap.size≤j) w' v l
theorem eh.err {α:Type} {f:α→List Value} {t:TypeId} {n:Nat} {r:SR (List α)} {w w':World} {q:Int × Int} (h:r=.error q) (hb:Below w.heap.size w w'):eh f t n r w (.returned (.tuple #[.slice none 0 0,.int .i64 q.2])) w':=by
  subst h;exact ⟨hb,rfl⟩
theorem eh.row {α:Type} {f:α→List Value} {t:TypeId} {n:Nat} {r:SR (List α)} {w w':World} {v:Value} {l:List α} (h:r=.ok l) (hb:Below w.heap.size w w') (hr:Rw f t n (fun j=>w.heap.size≤j) w' v l):eh f t n r w (.returned (.tuple #[v,.int .i64 0])) w':=by
  subst h;exact ⟨hb,v,rfl,hr⟩
theorem Rw.from_ {α:Type} {f:α→List Value} {t:TypeId} {n p m:Nat} {G:Nat→Tg} {tg:Tg} {w:World} {v:Value} {l:List α} (h:Rw f t n (Dt G p tg) w v l) (hp:m≤p):Rw f t n (fun j=>m≤j) w v l:=h.mono fun j hj _=>KT hp hj.1
section
variable {cv:List St→Int} (hC:CV cv) {b:List St} {a:Option Addr} {c:Nat} {w:World} (hB:BA b a c w)
include hC hB
theorem mL:Calls Tryz.prog 10 #[.slice a b.length c] w fun e w'=>e=.returned (.tuple #[.int .i64 (eq (bU cv b)).1,.int .i64 (eq (bU cv b)).2])∧Below w.heap.size w w':=by
  have HW:=hI (yL hC hB);obtain ⟨R,hR⟩:∃ R,R=bU cv b:=⟨_,rfl⟩
  rw [←hR] at HW ⊢;clear hC hB hR
  go_enter Tryz.func10,Tryz.ntmps10
  go_wp2_with (go_at_call 21;(with_reducible refine HW.out.mono ?_);rintro e w1 ⟨hb1,⟨q,hr,hq,rfl⟩|⟨σ,p,hr,rfl,hp,hs⟩⟩)
  · go_ret2
    exact ⟨by rw [hr.out];rfl,hb1⟩
  · go_ret2
    exact ⟨by rw [hr.out];rfl,hb1⟩
end
def zT (r:SR Fu) (w:World) (e:Ending) (w':World):Prop:=Below w.heap.size w w'∧((∃ q,Hid (r=.error q)∧Hid (q.2≠0)∧e=.returned (.tuple #[.pointer none,.int .i64 q.2]))∨∃ (x:Fu) (y:Fd) (G:Nat→Tg) (p i:Nat),Hid (r=.ok x)∧e=.returned (.tuple #[.pointer (some ⟨y.b,0,none⟩),.int .i64 0])∧w.heap.size≤p∧Hid (dN G p i w' x y))
def ew (cv:List St→Int) (b:List St) (fn:Int):SR Fu:=(bU cv b).bind fun σ=>if 0≤fn∧fn<σ.funs.length then .ok (σ.fu fn.toNat) else .error (0,6)
theorem zc {P:Prop} (h:P:=by
  have HE:=hI (show F=.error (0,6) from by rw [HF.out,hr.out];exact if_neg (by omega))
  go_wp2_with fail
  go_ret2
  exact ⟨hb1,.inl ⟨(0,6),HE,hI (by decide),rfl⟩⟩):P:=h
section
variable {cv:List St→Int} (hC:CV cv) {b:List St} {a:Option Addr} {c:Nat} {w:World} (hB:BA b a c w) (fn:Int)
include hC hB
theorem rT:Calls Tryz.prog 23 #[.slice a b.length c,.int .i64 fn] w (zT (ew cv b fn) w):=by
  have HW:=hI (yL hC hB);have HF:=hI (show ew cv b fn=(bU cv b).bind fun σ=>if 0≤fn∧fn<σ.funs.length then .ok (σ.fu fn.toNat) else .error (0,6) from rfl);obtain ⟨R,hR⟩:∃ R,R=bU cv b:=⟨_,rfl⟩
  obtain ⟨F,hF⟩:∃ F,F=ew cv b fn:=⟨_,rfl⟩
  rw [←hR] at HW HF;rw [←hF] at HF ⊢;clear hC hB hR hF
  go_enter Tryz.func23,Tryz.ntmps23
  go_upto_region 2 with (go_at_call 21;(with_reducible refine HW.out.mono ?_);rintro e w1 ⟨hb1,⟨q,hr,hq,rfl⟩|⟨σ,p,hr,rfl,hp,hs⟩⟩)
  · have hq1:(q.2 != 0)=true:=by simp [hq.out]
    go_wp2_with fail
    go_ret2
    exact ⟨hb1,.inl ⟨q,hI (by rw [HF.out,hr.out];rfl),hq,rfl⟩⟩
  · obtain ⟨G,d,hdp,hbx,hrf,-,-,hlf,hfu⟩:=hs.out;obtain ⟨fa,fc,hvf⟩:=hrf.shape;rw [hvf,hlf] at hbx;have HBX:=hI hbx;have HRF:=hI hrf;have HFU:=hI hfu;have HVF:=hI hvf;have HLF:=hI hlf;clear hbx hrf hfu hvf hlf hdp;have k0:=fun i=>ac HBX.out i;have k0f:=fun i=>ag HBX.out i;have k0z:=ae HBX.out;by_cases h1:fn<0
    · exact zc
    · by_cases h2:(σ.funs.length:Int)≤fn
      · exact zc
      · obtain ⟨k,rfl⟩:∃ k:Nat,fn=k:=⟨fn.toNat,by omega⟩
        have hk:k<σ.funs.length:=by omega
        have HE:=hI (show F=.ok (σ.fu k) from by rw [HF.out,hr.out];exact if_pos ⟨by omega,by omega⟩);obtain ⟨y,hy⟩:∃ y,d.fs[k]?=some y:=⟨_,KP (by rw [HLF.out];exact hk)⟩
        obtain ⟨g,gc,hva,hg,hgc,hgm,hc0⟩:∃ g gc,fa=some ⟨g,0,none⟩∧g<w1.heap.size∧σ.funs.length≤fc∧fc≤maxLen∧w1.cell? ⟨g,k,none⟩=some (.pointer (some ⟨y.b,0,none⟩)):=by
          rcases HRF.out.at_ (fun x=>rfl) with ⟨-,h0⟩|⟨g,c,hv,-,hg,hc,hcm,hr⟩
          · rw [h0] at hy;cases hy
          · rw [HVF.out] at hv;rw [HLF.out] at hc hv;cases hv;have h9:=hr k y hy 0 _ rfl;simp only [Nat.mul_one,Nat.add_zero] at h9;exact ⟨g,c,rfl,hg,hc,hcm,h9⟩
        subst hva;have HFA:=hI (HFU.out k _ y (oE hk) hy);unfold maxLen at hgm;clear hy
        go_wp2_with fail
        go_ret2
        exact ⟨hb1,.inr ⟨σ.fu k,y,G,p,k,HE,rfl,hp,HFA⟩⟩
theorem yD:Calls Tryz.prog 14 #[.slice a b.length c,.int .i64 fn] w (eh gU 54 3 ((ew cv b fn).map (·.ups)) w):=by
  have HW:=hI (rT hC hB fn);obtain ⟨R,hR⟩:∃ R,R=ew cv b fn:=⟨_,rfl⟩
  rw [←hR] at HW ⊢;clear hC hB hR
  go_enter Tryz.func14,Tryz.ntmps14
  go_wp2_with (go_at_call 23;(with_reducible refine HW.out.mono ?_);rintro e w1 ⟨hb1,⟨q,hr,hq,rfl⟩|⟨x,y,G,p,i,hr,rfl,hp,hs⟩⟩;(have hq1:(q.2 != 0)=true:=by simp [hq.out]);rotate_left;(have HBX:=hI hs.out.box;have k0:=fun i=>ac HBX.out i;have k0f:=fun i=>ag HBX.out i;have k0z:=ae HBX.out);rotate_left)
  · go_ret2
    exact eh.err (by rw [hr.out];rfl) hb1
  · go_ret2
    exact eh.row (by rw [hr.out];rfl) hb1 (hs.out.ru.from_ hp)
theorem Fo:Calls Tryz.prog 20 #[.slice a b.length c,.int .i64 fn] w (eh kG 69 2 ((ew cv b fn).map (·.locals)) w):=by
  have HW:=hI (rT hC hB fn);obtain ⟨R,hR⟩:∃ R,R=ew cv b fn:=⟨_,rfl⟩
  rw [←hR] at HW ⊢;clear hC hB hR
  go_enter Tryz.func20,Tryz.ntmps20
  go_wp2_with (go_at_call 23;(with_reducible refine HW.out.mono ?_);rintro e w1 ⟨hb1,⟨q,hr,hq,rfl⟩|⟨x,y,G,p,i,hr,rfl,hp,hs⟩⟩;(have hq1:(q.2 != 0)=true:=by simp [hq.out]);rotate_left;(have HBX:=hI hs.out.box;have k0:=fun i=>ac HBX.out i;have k0f:=fun i=>ag HBX.out i;have k0z:=ae HBX.out);rotate_left)
  · go_ret2
    exact eh.err (by rw [hr.out];rfl) hb1
  · go_ret2
    exact eh.row (by rw [hr.out];rfl) hb1 (hs.out.rl.from_ hp)
end
