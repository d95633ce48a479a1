/- Contracts of the parser's methods list, body, calls, out of those of exp and block. -/
import Derived.Test.YtdekaghipjpgpaaGreatDoorJ0
import Derived.Test.YtdekaghipjpgpaaGreatDoorE1
import Derived.Deep.DeepCutAuto
import Derived.Deep.LoopGhost
import Derived.Deep.RegionWith
namespace Go.Proofs.YtdekaghipjpgpaaGreatDoor
open Go.RowKit
set_option linter.unusedVariables false
set_option linter.unusedSimpArgs false
def exW (x:Ex) (w w':World) (u:Value):Prop:=∃ d,u=.agg #[.int .i64 x.kind,.int .i64 x.op,.int .i64 x.line,.int .i64 x.p,.int .i64 x.q,.string x.str,.slice d.a x.args.length d.c,.slice d.fa x.funcs.length d.fc]∧x.At (From w.heap.size) w' d
def exsW (l:List Ex) (w w':World) (u:Value):Prop:=∃ a c,u=.slice a l.length c∧l.length≤c∧c≤MX∧Ex.Ats (From w.heap.size) w' l a
def stW (x:St) (w w':World) (u:Value):Prop:=∃ d,u=.agg #[.int .i64 x.kind,.int .i64 x.line,.slice d.na x.names.length d.nc,.slice d.la x.left.length d.lc,.slice d.ra x.right.length d.rc,.slice d.ba x.blocks.length d.bc,.string x.label]∧x.At (From w.heap.size) w' d
def stsW (l:List St) (w w':World) (u:Value):Prop:=∃ a c,u=.slice a l.length c∧l.length≤c∧c≤MX∧St.Ats (From w.heap.size) w' l a
abbrev thisP (C:PC):Value:=.pointer (some ⟨C.p,0,none⟩)
abbrev EC (C:PC) (E:EF) (n:Nat):Prop:=∀ (lim:Int) (l:List Tk) (w:World),0≤lim→lim≤12→l.length<n→C.At w l→Calls Tryz.prog 26 #[thisP C,.int .i64 lim] w (Tells C exW (E lim l) w)
abbrev BC (C:PC) (B:BF) (n:Nat):Prop:=∀ (l:List Tk) (w:World),l.length<n→C.At w l→Calls Tryz.prog 35 #[thisP C] w (Tells C stsW (B l) w)
theorem PC.At.len {C:PC} {w:World} {l:List Tk} (h:C.At w l):l.length≤65536:=by obtain ⟨i,_,rfl,_⟩:=h.box;have:=h.cap;simp;omega
theorem Gath.one {α δ:Type} {f:α→δ→List Value} {A:(Nat→Prop)→World→α→δ→Prop} {e:TypeId} {n base:Nat} {w:World} {cs:Array Value} {x:α} {d:δ} {b:Nat} (hA:Lies A) (hb:b=w.heap.size) (hbase:base≤w.heap.size) (hn:0<n) (hcs:cs.toList=f x d) (hl:(f x d).length=n) (hx:A (From base) w x d) :
    Gath f A e n base (w.alloc (.cells cs e)) (.slice (some ⟨b,0,none⟩) 1 1) [x] [d]:=by
  subst hb;refine ⟨rfl,⟨by simp [hl],.inr ⟨w.heap.size,1,cs,rfl,hbase,box_at rfl,Nat.le_refl _,by unfold maxLen;omega,by rw [←Array.length_toList,hcs,hl];omega,?_⟩⟩,fun i y d' hy hd=>?_⟩
  · rw [hcs];simp [←hl]
  · have hi:i=0:=by have:=(List.getElem?_eq_some_iff.1 hy).1;simpa using this
    subst hi;cases hy;cases hd;exact hA _ _ w _ x d ((Keep.refl _ _).alloc _) (fun k hk hlt=>⟨hk,fun he=>absurd (Option.some.inj (show some k=some w.heap.size from he)) (Nat.ne_of_lt hlt)⟩) hx
theorem Gath.gs {α δ:Type} {f:α→δ→List Value} {A:(Nat→Prop)→World→α→δ→Prop} {e:TypeId} {n base p:Nat} {w w':World} {v:Value} {l:List α} {ds:List δ}
    (hA:Lies A) (h:Gath f A e n base w v l ds) (hg:Gs p w w') (hp:p<base):Gath f A e n base w' v l ds :=
  h.lt hA (hg.keep (by rintro ⟨h1,-⟩;omega))
theorem push_any {α δ:Type} {f:α→δ→List Value} {A:(Nat→Prop)→World→α→δ→Prop} {t e:TypeId} {z:Value} {n bytes base p k:Nat} {w1 w0:World} {v:Value} {l:List α} {ds:List δ} {y:α} {dy:δ} {cs:Array Value}
    {ops:Array Oper} {rest:List Oper} {o:Oper} {a:Act} {Q:Exit→Act→World→Prop} (hA:Lies A) (ht:Tryz.prog.underlying t=some (.slice e)) (hinfo:(Tryz.prog.info? e).map (fun i=>(i.zero,i.size,i.bytes))=some (some z,n,bytes)) (hzs:z.cells.size=n) (hn:0<n) (hbt:bytes≤1000)
    (hf:∀ x d,(f x d).length=n) (h1:∀ u ∈ f y dy,u.oneCell'=true)
    (HG:Gath f A e n base w1 v l ds) (hp:p<base) (hg:Gs p w1 w0) (hb:base≤w1.heap.size) (hk:w1.heap.size≤k) (hy:A (From k) w0 y dy) (hcs:cs.toList=f y dy) (hlen:l.length≤70000)
    (hgd:o.guard=none) (s x:Operand) (hop:o.op=.call { callee:=.builtin .append,args:=#[s,x],argTypes:=#[t,t] }) (hs:a.eval s=v) (hx:a.eval x=.slice (some ⟨w0.heap.size,0,none⟩) 1 1)
    (h:∀ v' w',Gath f A e n base w' v' (l++[y]) (ds++[dy])→(w0.alloc (.cells cs e)).grownBy w' v.ownBlock→(∀ j,v.ownBlock=some j→base≤j)→wpList Tryz.prog ops Q rest (a.put o.dst v') w'):wpList Tryz.prog ops Q (o::rest) a (w0.alloc (.cells cs e)):=by
  obtain ⟨i0,hi,hz0,hz1,hz2⟩:=info_parts hinfo;have HG0:=HG.gs hA hg hp;refine wpList_append_keep _ hgd s x t hop base e i0 z n bytes ht hi hz0 hz1 hz2 hzs hn v l.length _ hs (HG0.own.alloc _) ⟨w0.heap.size,0,none⟩ 1 1 (f y dy) hx (by rw [hf];omega) (fun j u hu=>new_adds rfl j u (by rw [hcs];exact hu)) h1 (by decide) (by unfold maxLen;omega) ?_ (by have:=hg.size;simp;omega) ?_
  · have:(l.length+1)*bytes≤70001*1000:=Nat.mul_le_mul (by omega) hbt;omega
  intro v' w' r1 r2 r3;refine h v' w' (Gath.push hA (HG0.alloc hA _) ?_ r1 r2 r3) r2 (fun j hj=>(HG.own.lt j hj).1);refine hA (From k) _ w0 _ y dy ((Keep.refl _ _).alloc _) (fun j hj _=>⟨by omega,fun he=>?_⟩) hy;have h9:=(HG.own.lt j he.symm).2;have h8:k≤j:=hj;omega
theorem PC.At.grown {C:PC} {w w':World} {l:List Tk} {row:Option Nat} {base:Nat} (h:C.At w l) (hg:w.grownBy w' row) (hr:∀ k,row=some k→base≤k) (hp:C.p<base):C.At w' l :=
  h.ca (Keep.grown hg fun k hk he=>by have:=hr k he.symm;omega)
theorem push_ex {base p k:Nat} {w1 w0:World} {v:Value} {l:List Ex} {ds:List EA} {y:Ex} {dy:EA} {ops:Array Oper} {rest:List Oper} {o:Oper} {a:Act} {Q:Exit→Act→World→Prop}
    (HG:Gath Ex.cells exA 28 8 base w1 v l ds) (hp:p<base) (hg:Gs p w1 w0) (hb:base≤w1.heap.size) (hk:w1.heap.size≤k) (hy:y.At (From k) w0 dy) (hlen:l.length≤70000)
    (hgd:o.guard=none) (s x:Operand) (hop:o.op=.call { callee:=.builtin .append,args:=#[s,x],argTypes:=#[25,25] }) (hs:a.eval s=v) (hx:a.eval x=.slice (some ⟨w0.heap.size,0,none⟩) 1 1)
    (h:∀ v' w',Gath Ex.cells exA 28 8 base w' v' (l++[y]) (ds++[dy])→(w0.alloc (.cells #[.int .i64 y.kind,.int .i64 y.op,.int .i64 y.line,.int .i64 y.p,.int .i64 y.q,.string y.str,.slice dy.a y.args.length dy.c,.slice dy.fa y.funcs.length dy.fc] 28)).grownBy w' v.ownBlock→(∀ j,v.ownBlock=some j→base≤j)→wpList Tryz.prog ops Q rest (a.put o.dst v') w'):wpList Tryz.prog ops Q (o::rest) a (w0.alloc (.cells #[.int .i64 y.kind,.int .i64 y.op,.int .i64 y.line,.int .i64 y.p,.int .i64 y.q,.string y.str,.slice dy.a y.args.length dy.c,.slice dy.fa y.funcs.length dy.fc] 28)) :=
  push_any exA_lies Tryz.underlying25 info_expr rfl (by decide) (by decide) (fun _ _=>rfl) (Ex.cells_one _ _) HG hp hg hb hk hy rfl hlen hgd s x hop hs hx h
theorem Gath.exs {w:World} {base:Nat} {v:Value} {l:List Ex} {ds:List EA} (h:Gath Ex.cells exA 28 8 base w v l ds):∃ a c,v=.slice a l.length c∧l.length≤c∧c≤MX∧Ex.Ats (From base) w l a:=by
  obtain ⟨a,c,h1,h2,h3,h4⟩:=h.rows exA_lies (fun _ _=>rfl);exact ⟨a,c,h1,h2,by unfold maxLen at h3;unfold MX;exact h3,Ex.ats_iff.2 h4⟩
set_option maxRecDepth 100000 in
set_option maxHeartbeats 4000000 in
theorem list_at {C:PC} {E:EF} {n:Nat} (hE:EC C E n) (hL:SE E) (l:List Tk) (w:World) (hl:l.length<n) (h:C.At w l) :
    Calls Tryz.prog 86 #[thisP C] w (Tells C exsW (listR E l) w):=by
  have HA:=hI h;have hp:=h.lt;have hl6:=h.len;have HE:=hI hE;have HL:=hI hL;have HN:=hI hl;generalize hR:listR E l=R;have HR:=hI hR.symm;clear hR h hE hL hl;unfold listR at HR
  go_enter Tryz.func86,Tryz.ntmps86
  go_wp2_with (go_at_call 26;(with_reducible refine (Tells.step HR (HE.out 0 l _ (by omega) (by omega) HN.out (HA.out.ca kw))).mono ?_);rintro e w2 (⟨l2,rfl,HR,hg2⟩|⟨x,l2,u,rfl,⟨d,rfl,hx⟩,HM,HR,HA,hg2⟩);rotate_left;(have HX:=hI hx);clear hx)
  case inl=>exact ⟨rfl,Tells.no HR gw⟩
  have HS2:=hI (HL.out 0 l _ _ HM.out)
  go_loopg [3] (l2.length+1) (fun gk v wr=>∃ acc ds l',l'.length<gk∧Hid (R=listG E gk acc l')∧Hid (C.At wr l')∧Gath Ex.cells exA 28 8 w.heap.size wr v acc ds∧Gs C.p w wr∧l'.length<n∧acc.length+l'.length≤65536)
  case atStart=>exact ⟨[x],[d],l2,by omega,HR,hI (HA.out.ca kw),Gath.one exA_lies rfl hg2.size (by decide) rfl rfl HX.out,gw,by have:=HS2.out;have:=HN.out;simp at *;omega,by have:=HS2.out;simp at *;omega⟩
  case round =>
  clear HA HR HX;obtain ⟨acc,ds,l',hgk,HR,HA,hgath,hgw,hln,hal⟩:=hrel;obtain ⟨k,rfl⟩:∃ k,gk=k+1:=⟨gk - 1,by omega⟩
  obtain ⟨a,c,hv,hc1,hc2,hrow⟩:=hgath.exs;subst hv;have HG:=hI hgath;have HROW:=hI hrow;have HR:=hI (show R=if isB [44] l'=true then (E 0 l'.tail).bind fun x l1=>listG E k (acc++[x]) l1 else .ok acc l' from HR.out);clear hgath hrow;unfold MX at hc2
  go_wp2_with (first
    | (go_at_call 63;(with_reducible refine (skip_step C [44] l' _ HR (HA.out.ca kw)).mono ?_);rintro e w3 (⟨rfl,HB,HR,HA,hg3⟩|⟨rfl,-,HR,HA,hg3⟩))
    | (go_at_call 26;(with_reducible refine (Tells.step HR (HE.out 0 l'.tail _ (by omega) (by omega) (Nat.lt_of_le_of_lt (tail_le _) hln) (HA.out.ca kw))).mono ?_);rintro e w4 (⟨l4,rfl,HR,hg4⟩|⟨y,l4,u,rfl,⟨dy,rfl,hy⟩,HM,HR,HA,hg4⟩);rotate_left;(have HY:=hI hy;clear hy))
    | (at_builtin;go_loud (refine push_ex HG.out hp gw hgw.size hg3.size HY.out (by omega) rfl _ _ rfl rfl rfl ?_;intro v' w5 hg5 hgr hlo;have HG5:=hI hg5;have HGR:=hI hgr;have HLO:=hI hlo;clear hg5 hgr hlo)))
  case inl=>exact ⟨rfl,Tells.no HR gw⟩
  · have h4:=HL.out 0 _ _ _ HM.out;have h5:=tail_lt HB.out
    go_roundg k
    case rel=>exact ⟨acc++[y],ds++[dy],l4,by omega,HR,hI ((HA.out.ca kw).grown HGR.out HLO.out hp),HG5.out,Gs.grown HGR.out HLO.out gw,by omega,by simp;omega⟩
    case measure=>omega
  · go_ret;exact Tells.yes HR gw HA.out ⟨a,c,rfl,hc1,hc2,((Gath.gs exA_lies HG.out hg3 hp).exs).elim fun _ h=>h.elim fun _ h=>by obtain ⟨h,_,_,h2⟩:=h;cases h;exact h2⟩
set_option maxHeartbeats 4000000
set_option maxRecDepth 100000
theorem Keep.gsT {p:Nat} {F:Nat→Prop} {w b c:World} (hg:Gs p b c) (hF:¬ F p) (k:Keep F w b):Keep F w c :=
  k.trans (hg.keep (F:=fun j=>j≠p) (by simp)) (fun i hi _=>by rintro rfl;exact hF hi)
theorem kx {n:Nat} {w w':World} (h:Keep (From n) w w':=by repeat with_reducible first|exact Keep.refl _ _|refine Keep.alloc ?_ _|refine Keep.set ?_ (by simp [From];omega) _|refine Keep.drewN ?_ _|refine Keep.drew ?_|refine Keep.gsT (by assumption) (by simp [From];omega) ?_|refine Keep.thru (by assumption) ?_):Keep (From n) w w':=h
theorem fr {m n:Nat} (h:n≤m):∀ k,From m k→From n k:=fun k hk=>Nat.le_trans h hk
theorem body_at {C:PC} {B:BF} {n:Nat} (hB:BC C B n) (hL:SB B) (s:Sb) (l:List Tk) (w:World) (hl:l.length<n) (h:C.At w l) :
    Calls Tryz.prog 92 #[thisP C,.string ⟨s.toArray⟩] w (Tells C stsW (bodyR B s l) w):=by
  have HA:=hI h;have hp:=h.lt;have HB:=hI hB;have HN:=hI hl;generalize hR:bodyR B s l=R;have HR:=hI hR.symm;clear hR h hB hL hl;unfold bodyR at HR
  go_enter Tryz.func92,Tryz.ntmps92
  go_wp2_with (first
    | (go_at_call 35;(with_reducible refine (Tells.step HR (HB.out l _ HN.out (HA.out.ca kw))).mono ?_);rintro e w2 (⟨l2,rfl,HR,hg2⟩|⟨b,l2,u,rfl,⟨a,c,rfl,h1,h2,hb⟩,-,HR,HA,hg2⟩);rotate_left;(have HX:=hI hb;have HC:=hI (And.intro h1 h2));clear hb h1 h2)
    | (go_at_call 91;(with_reducible refine (Tells.step HR (need_at C s l2 _ (HA.out.ca kw))).mono ?_);rintro e w3 (⟨l3,rfl,HR,hg3⟩|⟨t,l3,u,rfl,⟨rfl,-⟩,-,HR,HA,hg3⟩);rotate_left))
  case inl=>exact ⟨rfl,Tells.no HR gw⟩
  case inl=>exact ⟨rfl,Tells.no HR gw⟩
  go_ret;exact Tells.yes HR gw HA.out ⟨a,c,rfl,HC.out.1,HC.out.2,HX.out.keep kx (fr (Nat.le_refl _))⟩
theorem calls_at (C:PC) (l:List Tk) (w:World) (h:C.At w l) :
    Calls Tryz.prog 131 #[thisP C] w fun e w'=>e=.returned (.bool (callsB l))∧Below w.heap.size w w':=by
  have HI:=hI (fun (s:Sb) w' (hb:Below w.heap.size w w')=>is_at C s l w' (h.mv hb));have HX:=hI (fun w' (hb:Below w.heap.size w w')=>next_any C l w' (h.mv hb));have tf0:=tok_field0 (nextK l);unfold callsB;generalize nextK l=t at HX tf0 ⊢;cases h1:isB [40] l <;> cases h2:isB [123] l <;> cases h3:(t.kind==4)
  all_goals
    have H1:=hI h1;have H2:=hI h2;clear h1 h2 h
    go_enter Tryz.func131,Tryz.ntmps131
    go_wp2_with (first
      | (go_at_call 64;(with_reducible refine (HI.out [40] _ bw).mono ?_);rw [H1.out];rintro e w2 ⟨rfl,-,hb2⟩)
      | (go_at_call 64;(with_reducible refine (HI.out [123] _ bw).mono ?_);rw [H2.out];rintro e w3 ⟨rfl,-,hb3⟩)
      | (go_at_call 49;(with_reducible refine (HX.out _ bw).mono ?_);rintro e w4 ⟨rfl,hb4⟩))
    go_ret;exact ⟨rfl,bw⟩
theorem calls_step {β:Type} {R A B:Res β} (C:PC) (l:List Tk) (w:World) (HR:Hid (R=if callsB l=true then A else B)) (h:C.At w l) :
    Calls Tryz.prog 131 #[thisP C] w fun e w'=>(e=.returned (.bool true)∧Hid (callsB l=true)∧Hid (R=A)∧Hid (C.At w' l)∧Gs C.p w w')∨(e=.returned (.bool false)∧Hid (callsB l=false)∧Hid (R=B)∧Hid (C.At w' l)∧Gs C.p w w'):=by
  refine (calls_at C l w h).mono fun e w' h9=>?_;cases hb:callsB l with
  | true=>exact .inl ⟨by rw [h9.1,hb],rfl,by rw [hb] at HR;exact HR,h.mv h9.2,Gs.of_below h9.2⟩
  | false=>exact .inr ⟨by rw [h9.1,hb],rfl,by rw [hb] at HR;exact HR,h.mv h9.2,Gs.of_below h9.2⟩
def exsF (m:Nat) (l:List Ex) (w w':World) (u:Value):Prop:=∃ a c,u=.slice a l.length c∧l.length≤c∧c≤MX∧Ex.Ats (From m) w' l a
abbrev PC0 (C:PC) (E:EF) (n:Nat):Prop:=∀ (l:List Tk) (w:World),callsB l=true→isB [40] l=false→l.length<n→C.At w l→Calls Tryz.prog 51 #[thisP C] w (Tells C exW (bareR E l) w)
theorem exs_two {w:World} {F:Nat→Prop} {b:Nat} {x y:Ex} {dx dy:EA} (hb:b=w.heap.size) (hF:F w.heap.size) (hx:x.At F w dx) (hy:y.At F w dy) :
    Ex.Ats F (w.alloc (.cells #[.int .i64 x.kind,.int .i64 x.op,.int .i64 x.line,.int .i64 x.p,.int .i64 x.q,.string x.str,.slice dx.a x.args.length dx.c,.slice dx.fa x.funcs.length dx.fc,.int .i64 y.kind,.int .i64 y.op,.int .i64 y.line,.int .i64 y.p,.int .i64 y.q,.string y.str,.slice dy.a y.args.length dy.c,.slice dy.fa y.funcs.length dy.fc] 28)) [x,y] (some ⟨b,0,none⟩):=by
  subst hb;have K:Keep F w (w.alloc (.cells #[.int .i64 x.kind,.int .i64 x.op,.int .i64 x.line,.int .i64 x.p,.int .i64 x.q,.string x.str,.slice dx.a x.args.length dx.c,.slice dx.fa x.funcs.length dx.fc,.int .i64 y.kind,.int .i64 y.op,.int .i64 y.line,.int .i64 y.p,.int .i64 y.q,.string y.str,.slice dy.a y.args.length dy.c,.slice dy.fa y.funcs.length dy.fc] 28)):=(Keep.refl _ _).alloc _;have hr:(w.alloc (.cells #[.int .i64 x.kind,.int .i64 x.op,.int .i64 x.line,.int .i64 x.p,.int .i64 x.q,.string x.str,.slice dx.a x.args.length dx.c,.slice dx.fa x.funcs.length dx.fc,.int .i64 y.kind,.int .i64 y.op,.int .i64 y.line,.int .i64 y.p,.int .i64 y.q,.string y.str,.slice dy.a y.args.length dy.c,.slice dy.fa y.funcs.length dy.fc] 28)).rangeAt w.heap.size 0 (x.cells dx++y.cells dy):=fun i v hv=>by rw [Nat.zero_add,box_cell (box_at rfl),←Array.getElem?_toList];exact hv
  exact ⟨_,0,dx,rfl,hF,by simp,range_left hr,hx.keep K (fun _ h=>h),_,_,dy,rfl,hF,by simp,range_right hr,hy.keep K (fun _ h=>h),trivial⟩
theorem exs_one {w:World} {F:Nat→Prop} {b:Nat} {x:Ex} {dx:EA} (hb:b=w.heap.size) (hF:F w.heap.size) (hx:x.At F w dx):Ex.Ats F (w.alloc (.cells #[.int .i64 x.kind,.int .i64 x.op,.int .i64 x.line,.int .i64 x.p,.int .i64 x.q,.string x.str,.slice dx.a x.args.length dx.c,.slice dx.fa x.funcs.length dx.fc] 28)) [x] (some ⟨b,0,none⟩):=by
  subst hb;exact ⟨_,0,dx,rfl,hF,by simp,fun j v hv=>by rw [Nat.zero_add,box_cell (box_at rfl),←Array.getElem?_toList];exact hv,hx.keep ((Keep.refl _ _).alloc _) (fun _ h=>h),trivial⟩
theorem Gath.app2 {α δ:Type} {f:α→δ→List Value} {A:(Nat→Prop)→World→α→δ→Prop} {e:TypeId} {n base:Nat} {w:World} {v:Value} {l:List α} {ds:List δ} (hA:Lies A) (h:Gath f A e n base w v l ds) {w':World} {v':Value} {xs:List α} {ds':List δ} (hlen:ds'.length=xs.length) (hx:∀ (i:Nat) x d,xs[i]?=some x→ds'[i]?=some d→A (Out base v) w x d)
    (h1:w'.ownsRow base e n v' (l.length+xs.length) (((l.zip ds).flatMap fun p=>f p.1 p.2)++(xs.zip ds').flatMap fun p=>f p.1 p.2)) (h2:w.grownBy w' v.ownBlock) (h3:∀ b,v'.ownBlock=some b→some b=v.ownBlock∨w.heap.size≤b) :
    Gath f A e n base w' v' (l++xs) (ds++ds'):=by
  have hG:∀ k,Out base v k→k<w.heap.size→Out base v' k:=fun k hk hl=>⟨hk.1,fun he=>by
    rcases h3 k he.symm with h|h
    · exact hk.2 h
    · omega⟩
  have K:Keep (Out base v) w w':=Keep.grown h2 fun k hk=>hk.2;refine ⟨by simp [h.len,hlen],?_,fun i y d' hy hd=>?_⟩
  · rw [List.zip_append h.len.symm,List.flatMap_append,List.length_append];exact h1
  · rcases Nat.lt_or_ge i l.length with hi|hi
    · rw [List.getElem?_append_left hi] at hy;rw [List.getElem?_append_left (by rw [h.len];exact hi)] at hd;exact hA _ _ w w' y d' K hG (h.at_ i y d' hy hd)
    · rw [List.getElem?_append_right hi] at hy;rw [List.getElem?_append_right (by rw [h.len];exact hi),h.len] at hd;exact hA _ _ w w' y d' K hG (hx _ y d' hy hd)
theorem list_ne {E:EF} {l:List Tk} {xs:List Ex} {l':List Tk} (h:listR E l=.ok xs l'):xs≠[]:=by
  have h1:∀ n acc l,acc≠[]→∀ v l',listG E n acc l=.ok v l'→v≠[]:=fun n=>by
    induction n with
    | zero=>intro acc l _ v l' h;cases h
    | succ n ih =>
      intro acc l ha v l' h;unfold listG at h;split at h
      · cases hE:E 0 l.tail with
        | ok x l1=>rw [hE] at h;exact ih _ _ (by simp) v l' h
        | bad l1=>rw [hE] at h;cases h
      · cases h;exact ha
  unfold listR at h;cases hE:E 0 l with
  | ok x l1=>rw [hE] at h;exact h1 _ _ _ (by simp) _ _ h
  | bad l1=>rw [hE] at h;cases h
theorem ats_some {F:Nat→Prop} {w:World} {xs:List Ex} {a:Option Addr} (h:Ex.Ats F w xs a) (hne:xs≠[]):∃ ad,a=some ad:=by
  cases xs with
  | nil=>exact absurd rfl hne
  | cons x r=>obtain ⟨b,off,d,h1,_⟩:=h;exact ⟨_,h1⟩
theorem range_app {w:World} {b o:Nat} {xs ys:List Value} (h1:w.rangeAt b o xs) (h2:w.rangeAt b (o+xs.length) ys):w.rangeAt b o (xs++ys):=fun j v hv=>by
  rcases Nat.lt_or_ge j xs.length with hj|hj
  · rw [List.getElem?_append_left hj] at hv;exact h1 j v hv
  · rw [List.getElem?_append_right hj] at hv;have:=h2 _ v hv
    rwa [show o+xs.length+(j - xs.length)=o+j by omega] at this
theorem ats_ds {F:Nat→Prop} {w:World}:∀ {xs:List Ex} {b off:Nat},(xs≠[]→Ex.Ats F w xs (some ⟨b,off,none⟩))→∃ ds:List EA,ds.length=xs.length∧w.rangeAt b off ((xs.zip ds).flatMap fun p=>p.1.cells p.2)∧∀ (i:Nat) x d,xs[i]?=some x→ds[i]?=some d→x.At F w d
  | [],b,off,_=>⟨[],rfl,fun j v hv=>by simp at hv,fun i x d h=>by simp at h⟩
  | x::r,b,off,h=>by
    obtain ⟨b',off',d,h1,h2,h3,h4,h5,h6⟩:=h (by simp);injection h1 with h1;injection h1 with e1 e2;subst e1 e2
    obtain ⟨ds,hl,hr,ha⟩:=ats_ds (xs:=r) (b:=b) (off:=off+8) (fun _=>h6);refine ⟨d::ds,by simp [hl],?_,fun i y dy hy hd=>?_⟩
    · show w.rangeAt b off (x.cells d++_);exact range_app h4 hr
    · cases i with
      | zero=>cases hy;cases hd;exact h5
      | succ i=>exact ha i y dy (by simpa using hy) (by simpa using hd)
theorem push_exs {base p k c:Nat} {w1 w0:World} {v:Value} {l xs:List Ex} {ds:List EA} {ad:Addr} {ops:Array Oper} {rest:List Oper} {o:Oper} {a:Act} {Q:Exit→Act→World→Prop}
    (HG:Gath Ex.cells exA 28 8 base w1 v l ds) (hp:p<base) (hg:Gs p w1 w0) (hb:base≤w1.heap.size) (hk:w1.heap.size≤k) (hxs:xs≠[]) (hy:Ex.Ats (From k) w0 xs (some ad)) (hlen:l.length+xs.length≤200000)
    (hgd:o.guard=none) (s x:Operand) (hop:o.op=.call { callee:=.builtin .append,args:=#[s,x],argTypes:=#[25,25] }) (hs:a.eval s=v) (hx:a.eval x=.slice (some ad) xs.length c)
    (h:∀ v' w' ds',Gath Ex.cells exA 28 8 base w' v' (l++xs) (ds++ds')→w0.grownBy w' v.ownBlock→(∀ j,v.ownBlock=some j→base≤j)→wpList Tryz.prog ops Q rest (a.put o.dst v') w'):wpList Tryz.prog ops Q (o::rest) a w0:=by
  obtain ⟨i0,hi,hz0,hz1,hz2⟩:=info_parts info_expr;have HG0:=HG.gs exA_lies hg hp
  have h0:∃ b off,ad=⟨b,off,none⟩:=by
    cases xs with
    | nil=>exact absurd rfl hxs
    | cons x r=>obtain ⟨b,off,d,h1,_⟩:=hy;cases h1;exact ⟨b,off,rfl⟩
  obtain ⟨b,off,rfl⟩:=h0;obtain ⟨ds',hl,hr,ha⟩:=ats_ds (fun _=>hy);have hz:(xs.zip ds').length=xs.length:=by rw [List.length_zip,hl];omega
  refine wpList_append_keep _ hgd s x 25 hop base 28 i0 _ 8 104 Tryz.underlying25 hi hz0 hz1 hz2 rfl (by decide) v l.length _ hs HG0.own ⟨b,off,none⟩ xs.length c _ hx (by rw [flat_length (f:=fun p:Ex × EA=>p.1.cells p.2) (n:=8) (fun _=>rfl),hz]) (fun j u hu=>?_) (fun u hu=>?_) (by cases xs with|nil=>exact absurd rfl hxs|cons x r=>simp) (by unfold maxLen;omega) (by omega) (Nat.le_trans hb hg.size) ?_
  · have:=hr j u hu;rw [←this,Addr.add_lit]
  · obtain ⟨q,-,hq⟩:=List.mem_flatMap.1 hu;exact Ex.cells_one _ _ u hq
  intro v' w' r1 r2 r3;refine h v' w' ds' (Gath.app2 exA_lies HG0 hl (fun i x d hx hd=>?_) r1 r2 r3) r2 (fun j hj=>(HG.own.lt j hj).1);refine exA_lies (From k) _ w0 _ x d (Keep.refl _ _) (fun j hj _=>⟨by omega,fun he=>?_⟩) (ha i x d hx hd);have h9:=(HG.own.lt j he.symm).2;have h8:k≤j:=hj;omega
set_option maxRecDepth 100000 in
set_option maxHeartbeats 4000000 in
theorem args_at {C:PC} {E:EF} {n:Nat} (hE:EC C E n) (hL:SE E) (hP:PC0 C E n) (e:Ex) (d:EA) (m:Nat) (l:List Tk) (w:World) (hc:callsB l=true) (hl:l.length<n) (h:C.At w l) (hm:C.p<m) (hmw:m≤w.heap.size) (he:e.At (From m) w d) :
    Calls Tryz.prog 132 #[thisP C,(eV e d)] w (Tells C (exsF m) (argsR E e l) w):=by
  delta eV
  have HA:=hI h;have hp:=h.lt;have hl6:=h.len;have hpn:w.heap.size≠C.p:=by omega
  have HE:=hI hE;have HL:=hI hL;have HN:=hI hl;have HP:=hI hP;have HC:=hI hc;have HX:=hI he;generalize hR:argsR E e l=R;have HR:=hI hR.symm;clear hR h hE hL hl hP hc he;unfold argsR at HR
  go_enter Tryz.func132,Tryz.ntmps132
  go_wp2_with (first
    | (go_at_call 63;(with_reducible refine (skip_step C [40] l _ HR (HA.out.ca kw)).mono ?_);rintro e w2 (⟨rfl,HB,HR,HA,hg2⟩|⟨rfl,HB,HR,HA,hg2⟩) <;> (have HBX:=hI (hg2.box (box_at rfl) hpn);have kb:=fun i=>box_cell HBX.out i;have kbf:=fun i=>box_free HBX.out i;have kbz:=box_lt HBX.out)))
  · have hb0:=hg2.size;have HG:=hI (show Gath Ex.cells exA 28 8 m (w2.alloc (.cells #[.int .i64 e.kind,.int .i64 e.op,.int .i64 e.line,.int .i64 e.p,.int .i64 e.q,.string e.str,.slice d.a e.args.length d.c,.slice d.fa e.funcs.length d.fc] 28)) (.slice (some ⟨w2.heap.size,0,none⟩) 1 1) [e] [d] from Gath.one (x:=e) exA_lies rfl (by simp at hb0;omega) (by decide) rfl rfl (HX.out.keep kx (fr (Nat.le_refl _))));have ht2:=tail_lt HB.out
    go_wp2_with (first
      | (go_at_call 64;(with_reducible refine (is_step C [41] l.tail _ HR (HA.out.ca kw)).mono ?_);rintro e w3 (⟨rfl,HB3,HR,HA,hg3⟩|⟨rfl,HB3,HR,HA,hg3⟩))
      | (go_at_call 86;(with_reducible refine (Tells.step HR (list_at HE.out HL.out l.tail _ (by have:=HN.out;omega) (HA.out.ca kw))).mono ?_);rintro e w4 (⟨l4,rfl,HR,hg4⟩|⟨xs,l4,u,rfl,⟨a,c,rfl,h1,h2,hx⟩,HM,HR,HA,hg4⟩);rotate_left;(have hlx:=listR_le HL.out _ _ _ HM.out;have HNE:=hI (list_ne HM.out);obtain ⟨ad,rfl⟩:∃ ad,a=some ad:=ats_some hx HNE.out;have HXS:=hI hx;clear hx))
      | (at_builtin;go_loud (refine push_exs HG.out hm gw (by simp at hb0 ⊢;omega) (Nat.le_trans hg3.size (Nat.le_refl _)) HNE.out HXS.out (by simp;omega) rfl _ _ rfl rfl rfl ?_;intro v' w6 ds' hg6 hgr hlo;have HG6:=hI hg6;have HGR:=hI hgr;have HLO:=hI hlo;clear hg6 hgr hlo;have HA:=hI ((HA.out.ca kw).grown HGR.out HLO.out hm);have hg6:Gs C.p w w6:=Gs.grown HGR.out (fun k hk=>by have h9:=Option.some.inj (show some w2.heap.size=some k from hk);simp at hb0;omega) gw))
      | (go_at_call 91;(with_reducible refine (Tells.step HR (need_at C [41] _ _ (HA.out.ca kw))).mono ?_);rintro e w5 (⟨l5,rfl,HR,hg5⟩|⟨t,l5,u,rfl,⟨rfl,-⟩,-,HR,HA,hg5⟩);rotate_left))
    all_goals try exact ⟨rfl,Tells.no HR gw⟩
    · go_ret;exact Tells.yes HR gw (HA.out.ca kw) (HG.out.gs exA_lies gw hm).exs
    · go_ret;exact Tells.yes HR gw (HA.out.ca kw) (HG6.out.gs exA_lies gw hm).exs
  · have HS:=hI (show ∀ w',Gs C.p w2 w'→∀ i,w'.cell? ⟨w.heap.size,i,none⟩=#[.int .i64 e.kind,.int .i64 e.op,.int .i64 e.line,.int .i64 e.p,.int .i64 e.q,.string e.str,.slice d.a e.args.length d.c,.slice d.fa e.funcs.length d.fc][i]? from fun w' hg i=>box_cell (hg.box HBX.out hpn) i);refine wp_region_held_drew (S:=(fun w'=>∀ i,w'.cell? ⟨w.heap.size,i,none⟩=#[.int .i64 e.kind,.int .i64 e.op,.int .i64 e.line,.int .i64 e.p,.int .i64 e.q,.string e.str,.slice d.a e.args.length d.c,.slice d.fa e.funcs.length d.fc][i]?)) (by kernel_rfl) ?s101 ?r101
    case s101=>exact HS.out _ gw
    intro hHeld;refine tH 0 ?_;refine tH 1 ?_;refine wpAnyH_ready (rs:=[2]) (by kernel_rfl) (by simp) ?_;refine AllReadyH.cons rfl (fun K hK=>?_) AllReadyH.nil
    go_simp
    go_at_call 51;(with_reducible refine (Tells.step HR (HP.out l _ HC.out HB.out HN.out (HA.out.ca kw))).mono ?_);rintro e w3 (⟨l3,rfl,HR,hg3⟩|⟨x,l3,u,rfl,⟨dx,rfl,hx⟩,-,HR,HA,hg3⟩)
    · go_wp2_with fail
      exact ⟨rfl,Tells.no HR gw⟩
    have HY:=hI hx;clear hx
    go_wp2_with fail
    refine hK.out _ _ ?s104 ?r104
    case s104=>exact HS.out _ gw
    intro hHeld;clear hK K
    try simp only [Act.put,sS1,sS2,sS3]
    refine wpAnyH_ready (rs:=[3]) (by kernel_rfl) (by simp) ?_;refine AllReadyH.cons rfl (fun K hK=>?_) AllReadyH.nil
    go_simp
    refine hK.out _ _ ?s105 ?r105
    case s105=>exact HS.out _ gw
    intro hHeld;clear hK K
    try simp only [Act.put,sS1,sS2,sS3]
    refine wpAnyH_ready (rs:=[4]) (by kernel_rfl) (by simp) ?_;refine AllReadyH.cons rfl (fun K hK=>?_) AllReadyH.nil
    go_simp
    refine hK.out _ _ ?s106 ?r106
    case s106=>exact HS.out _ gw
    intro hHeld;clear hK K
    try simp only [Act.put,sS1,sS2,sS3]
    refine wpAnyH_done (by kernel_rfl) ?_ _
    go_wp2_with fail
    go_ret;exact Tells.yes HR gw (HA.out.ca kw) ⟨_,2,rfl,Nat.le_refl _,by unfold MX;decide,exs_two rfl (show m≤_ by have:=hg2.size;have:=hg3.size;simp at *;omega) (HX.out.keep kx (fr (Nat.le_refl _))) (HY.out.keep kx (fr (by have:=hg2.size;simp at *;omega)))⟩
end Go.Proofs.YtdekaghipjpgpaaGreatDoor
