/- Contract of the parser's method table. -/
import Derived.Test.YtdekaghipjpgpaaGreatDoorJ3
import Derived.Test.YtdekaghipjpgpaaGreatDoorJR
import Derived.Deep.CutBlock
namespace Go.Proofs.YtdekaghipjpgpaaGreatDoor
open Go.RowKit
set_option linter.unusedVariables false
set_option linter.unusedSimpArgs false
theorem bind_ite {α β:Type} {c:Prop} [Decidable c] {m m':Res α} {f:α→List Tk→Res β}:(if c then m else m').bind f=if c then m.bind f else m'.bind f:=by split <;> rfl
theorem bind_bind {α β γ:Type} {m:Res α} {f:α→List Tk→Res β} {g:β→List Tk→Res γ}:(m.bind f).bind g=m.bind fun x l=>(f x l).bind g:=by cases m <;> rfl
theorem bind_congr {α β:Type} {m:Res α} {f g:α→List Tk→Res β} (h:∀ x l,f x l=g x l):m.bind f=m.bind g:=by cases m with|ok x l=>exact h x l|bad l=>rfl
abbrev tabT {β:Type} (E:EF) (k:Nat) (f:List Ex→List Tk→Res β) (acc:List Ex) (x:Ex) (l:List Tk):Res β :=
  if isB [44] l=true then (tabG E k (acc++[x]) l.tail).bind f else if isB [59] l=true then (tabG E k (acc++[x]) l.tail).bind f else f (acc++[x]) l
theorem tabG_succ (E:EF) (k:Nat) (acc:List Ex) (l:List Tk):tabG E (k+1) acc l=if isB [125] l=true then .ok acc l else (itemR E l).bind fun x l1=>if isB [44] l1=true then tabG E k (acc++[x]) l1.tail else if isB [59] l1=true then tabG E k (acc++[x]) l1.tail else .ok (acc++[x]) l1:=by
  rw [tabG]
theorem tab_step {β:Type} (E:EF) (k:Nat) (acc:List Ex) (l:List Tk) (f:List Ex→List Tk→Res β):(tabG E (k+1) acc l).bind f=if isB [125] l=true then f acc l
    else if isB [91] l=true then (E 0 l.tail).bind fun y l1=>(needR [93] l1).bind fun _ l2=>(needR [61] l2).bind fun _ l3=>(E 0 l3).bind fun v l4=>tabT E k f acc (ndA 14 (nextK l).line [y,v]) l4
    else if nextEq l=true then (E 0 (l.drop 2)).bind fun v l1=>tabT E k f acc (ndA 14 (nextK l).line [ndS 5 (nextK l).line (nextK l).text,v]) l1
    else (E 0 l).bind fun x l1=>tabT E k f acc (ndA 13 (nextK l).line [x]) l1:=by
  have ht:∀ x l1,(if isB [44] l1=true then tabG E k (acc++[x]) l1.tail else if isB [59] l1=true then tabG E k (acc++[x]) l1.tail else .ok (acc++[x]) l1).bind f=tabT E k f acc x l1:=fun x l1=>by rw [bind_ite,bind_ite];rfl
  rw [tabG_succ,bind_ite];by_cases h0:isB [125] l=true
  · rw [if_pos h0,if_pos h0];rfl
  rw [if_neg h0,if_neg h0,bind_bind];unfold itemR;by_cases h1:isB [91] l=true
  · rw [if_pos h1,if_pos h1,bind_bind];refine bind_congr fun y l1=>?_;rw [bind_bind];refine bind_congr fun _ l2=>?_;rw [bind_bind];refine bind_congr fun _ l3=>?_;rw [bind_bind];refine bind_congr fun v l4=>?_;exact ht _ _
  rw [if_neg h1,if_neg h1];by_cases h2:nextEq l=true
  · rw [if_pos h2,if_pos h2,bind_bind];refine bind_congr fun y l1=>?_;exact ht _ _
  · rw [if_neg h2,if_neg h2,bind_bind];refine bind_congr fun y l1=>?_;exact ht _ _
theorem set8h {w:World} {b:Nat} {u0 u1 u2 u3 u4 u5 u6 u7:Value} {T:TypeId} (h:w.heap[b]?=some (.cells #[u0,u1,u2,u3,u4,u5,u6,u7] T)) (v0 v1 v2 v3 v4 v5 v6 v7:Value) :
    ((((((((w.setCell ⟨b,0,none⟩ v0).setCell ⟨b,1,none⟩ v1).setCell ⟨b,2,none⟩ v2).setCell ⟨b,3,none⟩ v3).setCell ⟨b,4,none⟩ v4).setCell ⟨b,5,none⟩ v5).setCell ⟨b,6,none⟩ v6).setCell ⟨b,7,none⟩ v7).heap[b]?=some (.cells #[v0,v1,v2,v3,v4,v5,v6,v7] T):=by
  have h9:=box_set (box_set (box_set (box_set (box_set (box_set (box_set (box_set h 0 v0) 1 v1) 2 v2) 3 v3) 4 v4) 5 v5) 6 v6) 7 v7;simp only [sS1,sS2,sS3] at h9;exact h9
theorem node_at {F:Nat→Prop} {w:World} {k o l p q:Int} {s:ByteArray} {xs:List Ex} {a:Option Addr} {c:Nat} (h0:W64 k∧W64 o∧W64 l∧W64 p∧W64 q∧s.size≤MX) (h1:xs.length≤c) (h2:c≤MX) (h3:xs.length≤200000) (h:Ex.Ats F w xs a):(Ex.mk k o l p q s xs []).At F w ⟨a,c,none,0⟩ :=
  ⟨h0,⟨h1,⟨h2,by unfold LM;omega⟩,Nat.zero_le _,Nat.zero_le _,Nat.zero_le _⟩,h,trivial⟩
theorem leaf_at {F:Nat→Prop} {w:World} {k o l p q:Int} {s:ByteArray} (h0:W64 k∧W64 o∧W64 l∧W64 p∧W64 q∧s.size≤MX):(Ex.mk k o l p q s [] []).At F w ⟨none,0,none,0⟩ :=
  ⟨h0,⟨Nat.zero_le _,⟨Nat.zero_le _,Nat.zero_le _⟩,Nat.zero_le _,Nat.zero_le _,Nat.zero_le _⟩,trivial,trivial⟩
theorem w640:W64 0:=⟨by decide,by decide⟩
theorem size0:(⟨#[]⟩:ByteArray).size≤MX:=Nat.zero_le _
abbrev zeroE:Array Value:=#[.int .i64 0,.int .i64 0,.int .i64 0,.int .i64 0,.int .i64 0,.string ⟨#[]⟩,.slice none 0 0,.slice none 0 0]
structure TabH (C:PC) (w:World) (b1:Nat) (line:Int) (wr:World) (acc:List Ex):Prop where
  gs:Gs C.p w wr
  p1:C.p<w.heap.size
  b01:w.heap.size<b1
  bw:b1<wr.heap.size
  res:wr.heap[w.heap.size]?=some (.cells zeroE 28)
  box:∃ a c ds,wr.heap[b1]?=some (.cells #[.int .i64 12,.int .i64 0,.int .i64 line,.int .i64 0,.int .i64 0,.string ⟨#[]⟩,.slice a acc.length c,.slice none 0 0] 28)∧Gath Ex.cells exA 28 8 (b1+1) wr (.slice a acc.length c) acc ds
theorem PC.At.nextW {C:PC} {w:World} {l:List Tk} (h:C.At w l):(nextK l).text.size≤MX∧W64 (nextK l).kind∧W64 (nextK l).line:=by
  cases l with
  | nil=>exact ⟨Nat.zero_le _,w640,w640⟩
  | cons t r =>
    obtain ⟨i,-,-,ht,-⟩:=h.cut;obtain ⟨b,off,-,-,-,-,h1,h2,h3,-⟩:=h.tok ht;exact ⟨h1,h2,h3⟩
theorem TabH.go {C:PC} {w:World} {b1:Nat} {line:Int} {wr w':World} {acc:List Ex} (h:TabH C w b1 line wr acc) (hg:Gs C.p wr w'):TabH C w b1 line w' acc:=by
  have h1:=h.p1;have h2:=h.b01;obtain ⟨a,c,ds,h3,h4⟩:=h.box;exact ⟨hg.thru h.gs,h1,h2,Nat.lt_of_lt_of_le h.bw hg.size,hg.box h.res (by omega),a,c,ds,hg.box h3 (by omega),h4.gs exA_lies hg (by omega)⟩
theorem step_push {α δ:Type} {f:α→δ→List Value} {A:(Nat→Prop)→World→α→δ→Prop} {t e:TypeId} {z:Value} {n bytes base p k b0:Nat} {w1 w0:World} {v:Value} {l:List α} {ds:List δ} {y:α} {dy:δ} {cs:Array Value}
    {ops:Array Oper} {o:Oper} {a:Act} {K:Act→World→Prop} {Q:Exit→Act→World→Prop} {E:Prop} (hA:Lies A) (ht:Tryz.prog.underlying t=some (.slice e)) (hinfo:(Tryz.prog.info? e).map (fun i=>(i.zero,i.size,i.bytes))=some (some z,n,bytes)) (hzs:z.cells.size=n) (hn:0<n) (hbt:bytes≤1000)
    (hf:∀ x d,(f x d).length=n) (h1:∀ u ∈ f y dy,u.oneCell'=true)
    (HG:Gath f A e n base w1 v l ds) (hp:p<base) (hg:Gs p w1 w0) (hb:base≤w1.heap.size) (hk:w1.heap.size≤k) (hy:A (From k) w0 y dy) (hcs:cs.toList=f y dy) (hlen:l.length≤70000)
    (hgd:o.guard=none) (s x:Operand) (hop:o.op=.call { callee:=.builtin .append,args:=#[s,x],argTypes:=#[t,t] }) (hs:a.eval s=v) (hx:a.eval x=.slice (some ⟨b0,0,none⟩) 1 1) (hb0:b0=w0.heap.size)
    (h:∀ g cap w',Gath f A e n base w' (.slice (some ⟨g,0,none⟩) (l.length+1) cap) (l++[y]) (ds++[dy])→(w0.alloc (.cells cs e)).grownBy w' v.ownBlock→(∀ j,v.ownBlock=some j→base≤j∧j<w1.heap.size)→K (a.put o.dst (.slice (some ⟨g,0,none⟩) (l.length+1) cap)) w') :
    if Region.wanted o (yielded ops a.tmps)=true then Oper.wp Tryz.prog o a (w0.alloc (.cells cs e)) K Q else E:=by
  subst hb0;obtain ⟨i0,hi,hz0,hz1,hz2⟩:=info_parts hinfo;have HG0:=HG.gs hA hg hp;refine step_append_lies _ hgd s x t hop base e i0 z n bytes ht hi hz0 hz1 hz2 hzs hn v l.length _ hs (HG0.own.alloc _) ⟨w0.heap.size,0,none⟩ 1 1 (f y dy) hx (by rw [hf];omega) (fun j u hu=>new_adds rfl j u (by rw [hcs];exact hu)) h1 (by decide) (by unfold maxLen;omega) ?_ (by have:=hg.size;simp;omega) _ rfl ?_
  · have:(l.length+1)*bytes≤70001*1000:=Nat.mul_le_mul (by omega) hbt;omega
  intro g cap w' r1 r2 r3 r4
  refine h g cap w' (Gath.push hA (HG0.alloc hA _) ?_ r1 r2 (fun b hb=>by
    rcases r3 with h|h
    · exact .inl (hb.symm.trans h.symm)
    · have hbg:g=b:=Option.some.inj hb;exact .inr (by rw [←hbg,h];exact Nat.le_refl _))) r2 (fun j hj=>HG.own.lt j hj)
  refine hA (From k) _ w0 _ y dy ((Keep.refl _ _).alloc _) (fun j hj _=>⟨by omega,fun he=>?_⟩) hy;have h9:=(HG.own.lt j he.symm).2;have h8:k≤j:=hj;omega
theorem TabH.push {C:PC} {w w0 w1 w10:World} {b1 g cap:Nat} {line:Int} {acc:List Ex} {y:Ex} {a:Option Addr} {c:Nat} {ds':List EA} (h:TabH C w b1 line w0 acc) (hb:w0.heap[b1]?=some (.cells #[.int .i64 12,.int .i64 0,.int .i64 line,.int .i64 0,.int .i64 0,.string ⟨#[]⟩,.slice a acc.length c,.slice none 0 0] 28)) (hg:Gs C.p w0 w1) (hgr:w1.grownBy w10 (Value.slice a acc.length c).ownBlock) (hlo:∀ j,(Value.slice a acc.length c).ownBlock=some j→b1+1≤j∧j<w0.heap.size)
    (hG:Gath Ex.cells exA 28 8 (b1+1) w10 (.slice (some ⟨g,0,none⟩) (acc.length+1) cap) (acc++[y]) ds'):TabH C w b1 line (w10.setCell ⟨b1,6,none⟩ (.slice (some ⟨g,0,none⟩) (acc.length+1) cap)) (acc++[y]):=by
  have h1:=h.p1;have h2:=h.b01;have h3:=h.bw;have hne:∀ b,b≤b1→some b≠(Value.slice a acc.length c).ownBlock:=fun b hle he=>by have:=(hlo b he.symm).1;omega
  refine ⟨Gs.set (Gs.grown hgr (fun k hk=>by have:=(hlo k hk).1;omega) (hg.thru h.gs)) (.inr (Nat.le_of_lt h2)) _,h1,h2,by simp [World.setCell];have:=hgr.size;have:=hg.size;omega,?_,some ⟨g,0,none⟩,cap,ds',?_,?_⟩
  · exact bx_ne (box_grown hgr (hg.box h.res (by omega)) (hne _ (Nat.le_of_lt h2))) (by simp;omega)
  · have h9:=box_set (box_grown hgr (hg.box hb (by omega)) (hne _ (Nat.le_refl _))) 6 (.slice (some ⟨g,0,none⟩) (acc.length+1) cap);simpa using h9
  · have h9:=hG.lt exA_lies (Keep.set (Keep.refl (fun b=>b1+1≤b∧b<w10.heap.size) w10) (p:=⟨b1,6,none⟩) (by simp;omega) (.slice (some ⟨g,0,none⟩) (acc.length+1) cap));simpa using h9
abbrev tabF (n:Int) (xs:List Ex) (l:List Tk):Res Ex:=(needR [125] l).bind fun _ l3=>.ok (ndA 12 n xs) l3
theorem tab_end {F:Nat→Prop} {w:World} {n:Int} {xs:List Ex} {a:Option Addr} {c:Nat} (hn:W64 n) (h1:xs.length≤c) (h2:c≤MX) (h3:xs.length≤200000) (h:Ex.Ats F w xs a):(ndA 12 n xs).At F w ⟨a,c,none,0⟩ :=
  node_at ⟨⟨by decide,by decide⟩,w640,hn,w640,w640,size0⟩ h1 h2 h3 h
set_option maxRecDepth 100000 in
set_option maxHeartbeats 8000000 in
theorem table_at {C:PC} {E:EF} {n:Nat} (hE:EC C E n) (hL:SE E) (l:List Tk) (w:World) (hl:l.length≤n) (h:C.At w l) :
    Calls Tryz.prog 78 #[thisP C] w (Tells C exW (tableR E l) w):=by
  have HA:=hI h;have hp:=h.lt;have hl6:=h.len;have hpn:w.heap.size≠C.p:=by omega
  have HE:=hI hE;have HL:=hI hL;have HN:=hI hl;generalize hR:tableR E l=R;have HR:=hI hR.symm;clear hR h hE hL hl;unfold tableR at HR;have tf2:=fun t=>tok_field2 t
  go_enter Tryz.func78,Tryz.ntmps78
  go_wp2_with (go_at_call 50;(with_reducible refine (Tells.step HR (take_any C l _ (HA.out.ca kw))).mono ?_);rintro e w2 (⟨l2,rfl,HR,hg2⟩|⟨t,l2,u,rfl,⟨rfl,ht⟩,HM,HR,HA,hg2⟩);rotate_left;have HB:=hI (hg2.box (box_at rfl) hpn);have kb:=fun i=>box_cell HB.out i;have kbf:=fun i=>box_free HB.out i;have kbz:=box_lt HB.out)
  case inl=>exact ⟨rfl,Tells.no HR gw⟩
  have HT:=hI ht;have hz2:=hg2.size;have HL2:=hI (take_le l _ _ HM.out)
  have hTB:TabH C w w2.heap.size t.line (w2.alloc (.cells #[.int .i64 12,.int .i64 0,.int .i64 t.line,.int .i64 0,.int .i64 0,.string ⟨#[]⟩,.slice none 0 0,.slice none 0 0] 28)) [] :=
    ⟨gw,hp,by simp at hz2;omega,by simp,box_alloc HB.out _,none,0,[],box_at rfl,Gath.nil⟩
  have HTB:=hI hTB;have HR:=hI (show R=(tabG E (l2.length+1) [] l2).bind (tabF t.line) from HR.out);clear ht HB kb kbf kbz hTB
  go_loopg [4] (l2.length+1) (fun gk _ wr=>∃ acc l',l'.length<gk∧Hid (R=(tabG E gk acc l').bind (tabF t.line))∧Hid (C.At wr l')∧Hid (TabH C w w2.heap.size t.line wr acc)∧l'.length<n∧acc.length+l'.length≤65536)
  case atStart=>exact ⟨[],l2,Nat.lt_succ_self _,HR,hI (HA.out.ca kw),HTB,by have h9:=HL2.out;have:=HN.out;simp at h9;omega,by have h9:=HL2.out;simp at h9 ⊢;omega⟩
  case round =>
  clear HA HR HTB HM;obtain ⟨acc,l',hgk,HR,HA,HTB,hln,hal⟩:=hrel;obtain ⟨k,rfl⟩:∃ k,gk=k+1:=⟨gk - 1,by omega⟩
  have hzb:=HTB.out.bw;have hz01:=HTB.out.b01;have hgT:=HTB.out.gs;have HR:=hI (HR.out.trans (tab_step E k acc l' _))
  go_upto_block 2 with (first
    | (go_at_call 64;(with_reducible refine (is_step C [125] l' _ HR (HA.out.ca kw)).mono ?_);rintro e w3 (⟨rfl,HB3,HR,HA,hg3⟩|⟨rfl,-,HR,HA,hg3⟩) <;> (have HTB:=hI (HTB.out.go hg3);have hz3:=hg3.size))
    | (go_at_call 49;(with_reducible refine (next_any C l' _ (HA.out.ca kw)).mono ?_);rintro e w4 ⟨rfl,hb4⟩;have HA:=hI (HA.out.mv hb4);have HTB:=hI (HTB.out.go (Gs.of_below hb4));have hz4:=hb4.size;have hg4:Gs C.p w3 w4:=Gs.of_below hb4;clear hb4)
    | (go_at_call 91;(with_reducible refine (Tells.step HR (need_at C [125] l' _ (HA.out.ca kw))).mono ?_);rintro e w6 (⟨l6,rfl,HR,hg6⟩|⟨t6,l6,u,rfl,⟨rfl,-⟩,HM,HR,HA,hg6⟩);rotate_left;have HTB:=hI (HTB.out.go hg6);obtain ⟨a,c,ds,hbox,hgath⟩:=HTB.out.box;have HBE:=hI hbox;have HG:=hI hgath;have HRS:=hI HTB.out.res;have ke:=fun i=>box_cell HBE.out i;have kef:=fun i=>box_free HBE.out i;have kez:=box_lt HBE.out;have kr:=fun i=>box_cell HRS.out i;have krf:=fun i=>box_free HRS.out i;have krz:=box_lt HRS.out;clear hbox hgath))
  case inl=>exact ⟨rfl,Tells.no HR gw⟩
  · refine bodyPost_ret (v:=.agg #[.int .i64 (ndA 12 t.line acc).kind,.int .i64 (ndA 12 t.line acc).op,.int .i64 (ndA 12 t.line acc).line,.int .i64 (ndA 12 t.line acc).p,.int .i64 (ndA 12 t.line acc).q,.string (ndA 12 t.line acc).str,.slice ((⟨a,c,none,0⟩:EA)).a (ndA 12 t.line acc).args.length ((⟨a,c,none,0⟩:EA)).c,.slice ((⟨a,c,none,0⟩:EA)).fa (ndA 12 t.line acc).funcs.length ((⟨a,c,none,0⟩:EA)).fc]) (by
      have k8:=fun j=>box_cell (set8h HRS.out (.int .i64 12) (.int .i64 0) (.int .i64 t.line) (.int .i64 0) (.int .i64 0) (.string ⟨#[]⟩) (.slice a acc.length c) (.slice none 0 0)) j;have s0:=k8 0;have s1:=k8 1;have s2:=k8 2;have s3:=k8 3;have s4:=k8 4;have s5:=k8 5;have s6:=k8 6;have s7:=k8 7;simp [results,Tryz.results78,go_sem,krz,s0,s1,s2,s3,s4,s5,s6,s7];(first|exact ⟨rfl,rfl,rfl,rfl,rfl,rfl,rfl,rfl⟩|rfl)) rfl ?_
    obtain ⟨a',c',h1,h2,h3,h4⟩:=HG.out.exs;cases h1;exact Tells.yes HR gw (HA.out.ca kw) ⟨⟨a,c,none,0⟩,rfl,tab_end HT.out.2.2 h2 h3 (by omega) (h4.keep kx (fr (by omega)))⟩
  · go_cut [] (fun wx=>∃ x l1,Hid (R=tabT E k (tabF t.line) acc x l1)∧Hid (C.At wx l1)∧Hid (TabH C w w2.heap.size t.line wx (acc++[x]))∧l1.length+1≤l'.length)
    case first =>
      obtain ⟨a,c,ds,hbox,hgath⟩:=HTB.out.box;have HBE:=hI hbox;have HG:=hI hgath;have hb4:=HTB.out.bw;have HLN:=hI HA.out.nextW;clear hbox hgath
      go_wp2_with (first
        | (go_at_call 63;(with_reducible refine (skip_step C [91] l' _ HR (HA.out.ca kw)).mono ?_);rintro e w5 (⟨rfl,HB5,HR,HA,hg5⟩|⟨rfl,-,HR,HA,hg5⟩) <;> (have HTK:=hI (hg5.box (box_at rfl) (by omega));have hz5:=hg5.size;simp at hz5))
        | (go_at_call 26;(with_reducible refine (Tells.step HR (HE.out 0 l'.tail _ (by omega) (by omega) (Nat.lt_of_le_of_lt (tail_le _) hln) (HA.out.ca kw))).mono ?_);rintro e w6 (⟨l6,rfl,HR,hg6⟩|⟨x,l6,u,rfl,⟨d,rfl,hx⟩,HM,HR,HA,hg6⟩);rotate_left;(have HX:=hI hx;have hz6:=hg6.size;clear hx;have HTK:=hI (hg6.box HTK.out (by omega))))
        | (go_at_call 91;(with_reducible refine (Tells.step HR (need_at C [93] l6 _ (HA.out.ca kw))).mono ?_);rintro e w7 (⟨l7,rfl,HR,hg7⟩|⟨t7,l7,u,rfl,-,HM7,HR,HA,hg7⟩);rotate_left;(have HKB:=hI (hg7.box (box_at rfl) (by omega));have HTK:=hI (hg7.box (box_alloc HTK.out _) (by omega));have hz7:=hg7.size;simp at hz7))
        | (go_at_call 91;(with_reducible refine (Tells.step HR (need_at C [61] l7 _ (HA.out.ca kw))).mono ?_);rintro e w8 (⟨l8,rfl,HR,hg8⟩|⟨t8,l8,u,rfl,-,HM8,HR,HA,hg8⟩);rotate_left;(have HKB:=hI (hg8.box HKB.out (by omega));have HTK:=hI (hg8.box HTK.out (by omega));have hz8:=hg8.size)))
      case inl=>exact ⟨rfl,Tells.no HR gw⟩
      case inl=>exact ⟨rfl,Tells.no HR gw⟩
      case inl=>exact ⟨rfl,Tells.no HR gw⟩
      · have HBE8:=hI (Gs.box (gw:Gs C.p w4 w8) HBE.out (by omega));have hl8:=tail_lt HB5.out;have hs6:l6.length+1≤l'.tail.length:=HL.out 0 _ _ _ HM.out;have hs7:l7.length+1≤l6.length:=need_le _ _ _ _ HM7.out;have hs8:l8.length+1≤l7.length:=need_le _ _ _ _ HM8.out
        have HSB:=hI (show ∀ w',Gs C.p w8 w'→((∀ i,w'.cell? ⟨w4.heap.size,i,none⟩=#[.int .i64 (nextK l').kind,.string (nextK l').text,.int .i64 (nextK l').line,.int .i64 (nextK l').pos][i]?)∧(∀ i,w'.cell? ⟨w6.heap.size,i,none⟩=#[.int .i64 x.kind,.int .i64 x.op,.int .i64 x.line,.int .i64 x.p,.int .i64 x.q,.string x.str,.slice d.a x.args.length d.c,.slice d.fa x.funcs.length d.fc][i]?)∧(∀ i,w'.cell? ⟨w2.heap.size,i,none⟩=#[.int .i64 12,.int .i64 0,.int .i64 t.line,.int .i64 0,.int .i64 0,.string ⟨#[]⟩,.slice a acc.length c,.slice none 0 0][i]?)) from
          fun w' hg=>⟨fun i=>box_cell (hg.box HTK.out (by omega)) i,fun i=>box_cell (hg.box HKB.out (by omega)) i,fun i=>box_cell (hg.box HBE8.out (by omega)) i⟩)
        refine wp_region_two (c:=10) (T:=(fun w'=>((∀ i,w'.cell? ⟨w4.heap.size,i,none⟩=#[.int .i64 (nextK l').kind,.string (nextK l').text,.int .i64 (nextK l').line,.int .i64 (nextK l').pos][i]?)∧(∀ i,w'.cell? ⟨w6.heap.size,i,none⟩=#[.int .i64 x.kind,.int .i64 x.op,.int .i64 x.line,.int .i64 x.p,.int .i64 x.q,.string x.str,.slice d.a x.args.length d.c,.slice d.fa x.funcs.length d.fc][i]?)∧(∀ i,w'.cell? ⟨w2.heap.size,i,none⟩=#[.int .i64 12,.int .i64 0,.int .i64 t.line,.int .i64 0,.int .i64 0,.string ⟨#[]⟩,.slice a acc.length c,.slice none 0 0][i]?)))) (by kernel_rfl) ?s101 ?r101
        case s101=>exact HSB.out _ gw
        intro hHeld;refine tG 0 ?_;refine lG 1 [10] ?_;refine tG 2 ?_;refine lG 3 [8,9,10] ?_;refine lG 4 [7,8,9,10] ?_;refine tG 5 ?_;refine wpAny2_ready (rs:=[6]) (by kernel_rfl) (by simp) ?_;refine AllReady2.cons rfl (fun K hK=>?_) AllReady2.nil
        go_simp
        go_at_call 26;(with_reducible refine (Tells.step HR (HE.out 0 l8 _ (by omega) (by omega) (by omega) (HA.out.ca kw))).mono ?_);rintro e w9 (⟨l9,rfl,HR,hg9⟩|⟨y,l9,u,rfl,⟨dy,rfl,hy⟩,HM9,HR,HA,hg9⟩)
        · go_wp2_with fail
          exact ⟨rfl,Tells.no HR gw⟩
        have HY:=hI hy;clear hy;have hs9:l9.length+1≤l8.length:=HL.out 0 _ _ _ HM9.out
        go_wp2_with fail
        refine hK.out _ _ ?s108 ?r108
        case s108=>exact HSB.out _ gw
        intro hHeld;clear hK K
        try simp only [Act.put,sS1,sS2,sS3]
        refine wpAny2_ready (rs:=[7]) (by kernel_rfl) (by simp) ?_;refine AllReady2.cons rfl (fun K hK=>?_) AllReady2.nil
        go_simp
        refine hK.out _ _ ?s109 ?r109
        case s109=>exact HSB.out _ gw
        intro hHeld;clear hK K
        try simp only [Act.put,sS1,sS2,sS3]
        refine wpAny2_ready (rs:=[8]) (by kernel_rfl) (by simp) ?_;refine AllReady2.cons rfl (fun K hK=>?_) AllReady2.nil
        go_simp
        refine hK.out _ _ ?s110 ?r110
        case s110=>exact HSB.out _ gw
        intro hHeld;clear hK K
        try simp only [Act.put,sS1,sS2,sS3]
        refine wpAny2_ready (rs:=[9]) (by kernel_rfl) (by simp) ?_;refine AllReady2.cons rfl (fun K hK=>?_) AllReady2.nil
        go_simp
        refine hK.out _ _ ?s111 ?r111
        case s111=>exact HSB.out _ gw
        intro hHeld;clear hK K
        try simp only [Act.put,sS1,sS2,sS3]
        refine wpAny2_ready (rs:=[10]) (by kernel_rfl) (by simp) ?_;refine AllReady2.late rfl (by kernel_rfl) (fun K hK=>?_) AllReady2.nil;have hz9:=hg9.size;simp at hz9;refine step_push (p:=C.p) (y:=ndA 14 (nextK l').line [x,y]) (dy:=⟨some ⟨w9.heap.size,0,none⟩,2,none,0⟩) (k:=w4.heap.size) exA_lies Tryz.underlying25 info_expr rfl (by decide) (by decide) (fun _ _=>rfl) (Ex.cells_one _ _) HG.out (by omega) gw (by omega) (Nat.le_refl _) ?_ rfl (by omega) rfl _ _ rfl rfl rfl (by simp) ?_
        · exact node_at (xs:=[x,y]) ⟨⟨by decide,by decide⟩,w640,HLN.out.2.2,w640,w640,size0⟩ (Nat.le_refl _) (by unfold MX;decide) (by simp) (exs_two rfl (by simp;omega) (HX.out.keep kx (fr (by omega))) (HY.out.keep kx (fr (by simp;omega))))
        intro g cap w10 hG10 hgr hlo;have HG10:=hI hG10;have HGR:=hI hgr;have HLO:=hI hlo;have HB10:=hI (box_grown hgr (Gs.box (gw:Gs C.p w4 ((w9.alloc (.cells #[.int .i64 x.kind,.int .i64 x.op,.int .i64 x.line,.int .i64 x.p,.int .i64 x.q,.string x.str,.slice d.a x.args.length d.c,.slice d.fa x.funcs.length d.fc,.int .i64 y.kind,.int .i64 y.op,.int .i64 y.line,.int .i64 y.p,.int .i64 y.q,.string y.str,.slice dy.a y.args.length dy.c,.slice dy.fa y.funcs.length dy.fc] 28)).alloc (.cells #[.int .i64 (ndA 14 (nextK l').line [x,y]).kind,.int .i64 (ndA 14 (nextK l').line [x,y]).op,.int .i64 (ndA 14 (nextK l').line [x,y]).line,.int .i64 (ndA 14 (nextK l').line [x,y]).p,.int .i64 (ndA 14 (nextK l').line [x,y]).q,.string (ndA 14 (nextK l').line [x,y]).str,.slice ((⟨some ⟨w9.heap.size,0,none⟩,2,none,0⟩:EA)).a (ndA 14 (nextK l').line [x,y]).args.length ((⟨some ⟨w9.heap.size,0,none⟩,2,none,0⟩:EA)).c,.slice ((⟨some ⟨w9.heap.size,0,none⟩,2,none,0⟩:EA)).fa (ndA 14 (nextK l').line [x,y]).funcs.length ((⟨some ⟨w9.heap.size,0,none⟩,2,none,0⟩:EA)).fc] 28))) HBE.out (by omega)) (fun he=>by have:=(hlo _ he.symm).1;omega));clear hG10 hgr hlo;have k10:=fun i=>box_cell HB10.out i;have k10f:=fun i=>box_free HB10.out i;have k10z:=box_lt HB10.out;refine hK.out _ _ ?_;clear hK K
        try simp only [Act.put,sS1,sS2,sS3]
        refine wpAny2_ready (rs:=[11]) (by kernel_rfl) (by simp) ?_;refine AllReady2.late rfl (by kernel_rfl) (fun K hK=>?_) AllReady2.nil
        go_simp
        refine hK.out _ _ ?_;clear hK K
        try simp only [Act.put,sS1,sS2,sS3]
        refine wpAny2_ready (rs:=[12]) (by kernel_rfl) (by simp) ?_;refine AllReady2.late rfl (by kernel_rfl) (fun K hK=>?_) AllReady2.nil
        go_simp
        refine hK.out _ _ ?_;clear hK K
        try simp only [Act.put,sS1,sS2,sS3]
        refine wpAnyG_done (by kernel_rfl) ?_ _
        go_wp2_with fail
        go_meet
        case rel=>exact ⟨_,l9,HR,hI (((HA.out.ca kw).grown HGR.out (fun j hj=>(HLO.out j hj).1) (by omega)).ca kw),hI (HTB.out.push HBE.out gw HGR.out HLO.out HG10.out),by omega⟩
      · have hA5:=HA.out;obtain ⟨i,hi,hl',hbx⟩:=hA5.box;have hcap5:=hA5.cap;have HBX:=hI hbx;have HLD:=hI hl';have kp:=fun j=>box_cell hbx j;have kpz:=box_lt hbx;have kpf:=fun j=>box_free hbx j;have kt:=fun j=>box_cell HTK.out j;have ktz:=box_lt HTK.out;clear hbx hl' hA5
        go_upto_region 10 with fail
        go_cut [48] (fun v wx=>v=.bool (nextEq l')∧∃ m,wx=w5.drewN m)
        case first =>
          cases hk:((nextK l').kind==1)
          · have hq:nextEq l'=false:=by
              cases l' with
              | nil=>rfl
              | cons t r=>cases r with
                | nil=>rfl
                | cons u r=>simp only [nextEq];rw [show (t.kind==1)=false from hk];rfl
            go_quiet (fail)
            go_wp2_with fail
            go_meet
            case rel=>exact ⟨by rw [hq],_,rfl⟩
          · have hilt:i<C.L.length:=by
              rcases Nat.lt_or_ge i C.L.length with h9|h9
              · exact h9
              · rw [HLD.out,List.drop_eq_nil_of_le h9] at hk;cases hk
            by_cases h2:i+1<C.L.length
            · obtain ⟨u,hu⟩:∃ u,C.L[i+1]?=some u:=⟨_,List.getElem?_eq_getElem h2⟩
              obtain ⟨b,off,hta,hpb,hlb,hrg,-⟩:=HA.out.tok hu
              have hq:nextEq l'=((u.kind==5) && u.text.data.toList==[61]):=by
                have h9:l'=nextK l'::u::C.L.drop (i+2):=by
                  rw [HLD.out,List.drop_eq_getElem_cons hilt,next_drop hu];rfl
                rw [h9];simp only [nextEq];rw [hk];rfl
              have HQ:=hI hq;have c0:=hrg 0 _ rfl;have c1:=hrg 1 _ rfl;simp only [Nat.add_zero] at c0;have d2:(i:Int)+1<(C.L.length:Int):=by omega
              clear hq hrg hu;cases hku:(u.kind==5)
              all_goals
                go_quiet (fail)
                go_wp2_with fail
                go_meet
                case rel=>exact ⟨by rw [HQ.out,hku];simp [ByteArray.toList_eq],_,rfl⟩
            · have hq:nextEq l'=false:=by
                rw [HLD.out,List.drop_eq_getElem_cons hilt,List.drop_eq_nil_of_le (by omega)];rfl
              have HQ:=hI hq;have d2:¬ (i:Int)+1<(C.L.length:Int):=by omega
              clear hq
              go_quiet (fail)
              go_wp2_with fail
              go_meet
              case rel=>exact ⟨by rw [HQ.out],_,rfl⟩
        case rest =>
          obtain ⟨rfl,m,rfl⟩:=hcut;clear kp kpz kpf kt ktz;cases hq:nextEq l'
          · have HR:=hI (show R=(E 0 l').bind fun x l1=>tabT E k (tabF t.line) acc (ndA 13 (nextK l').line [x]) l1 from by rw [HR.out,hq];rfl);clear hq
            go_upto_region 4 with fail
            have HBE5:=hI (Gs.box (gw:Gs C.p w4 (w5.drewN m)) HBE.out (by omega))
            have HSB:=hI (show ∀ w',Gs C.p w5 w'→((∀ i,w'.cell? ⟨w4.heap.size,i,none⟩=#[.int .i64 (nextK l').kind,.string (nextK l').text,.int .i64 (nextK l').line,.int .i64 (nextK l').pos][i]?)∧(∀ i,w'.cell? ⟨w2.heap.size,i,none⟩=#[.int .i64 12,.int .i64 0,.int .i64 t.line,.int .i64 0,.int .i64 0,.string ⟨#[]⟩,.slice a acc.length c,.slice none 0 0][i]?)) from
              fun w' hg=>⟨fun i=>box_cell (hg.box HTK.out (by omega)) i,fun i=>box_cell ((gw:Gs C.p w4 w').box HBE.out (by omega)) i⟩)
            refine wp_region_two (c:=9) (T:=(fun w'=>((∀ i,w'.cell? ⟨w4.heap.size,i,none⟩=#[.int .i64 (nextK l').kind,.string (nextK l').text,.int .i64 (nextK l').line,.int .i64 (nextK l').pos][i]?)∧(∀ i,w'.cell? ⟨w2.heap.size,i,none⟩=#[.int .i64 12,.int .i64 0,.int .i64 t.line,.int .i64 0,.int .i64 0,.string ⟨#[]⟩,.slice a acc.length c,.slice none 0 0][i]?)))) (by kernel_rfl) ?s112 ?r112
            case s112=>exact HSB.out _ gw
            intro hHeld;refine tG 0 ?_;refine lG 1 [9] ?_;refine tG 2 ?_;refine lG 3 [7,8,9] ?_;refine tG 4 ?_;refine wpAny2_ready (rs:=[5]) (by kernel_rfl) (by simp) ?_;refine AllReady2.cons rfl (fun K hK=>?_) AllReady2.nil
            go_simp
            go_at_call 26;(with_reducible refine (Tells.step HR (HE.out 0 l' _ (by omega) (by omega) (by omega) (HA.out.ca kw))).mono ?_);rintro e w9 (⟨l9,rfl,HR,hg9⟩|⟨y,l9,u,rfl,⟨dy,rfl,hy⟩,HM9,HR,HA,hg9⟩)
            · go_wp2_with fail
              exact ⟨rfl,Tells.no HR gw⟩
            have HY:=hI hy;clear hy;have hs9:l9.length+1≤l'.length:=HL.out 0 _ _ _ HM9.out
            go_wp2_with fail
            refine hK.out _ _ ?s118 ?r118
            case s118=>exact HSB.out _ gw
            intro hHeld;clear hK K
            try simp only [Act.put,sS1,sS2,sS3]
            refine wpAny2_ready (rs:=[6]) (by kernel_rfl) (by simp) ?_;refine AllReady2.cons rfl (fun K hK=>?_) AllReady2.nil
            go_simp
            refine hK.out _ _ ?s119 ?r119
            case s119=>exact HSB.out _ gw
            intro hHeld;clear hK K
            try simp only [Act.put,sS1,sS2,sS3]
            refine wpAny2_ready (rs:=[7]) (by kernel_rfl) (by simp) ?_;refine AllReady2.cons rfl (fun K hK=>?_) AllReady2.nil
            go_simp
            refine hK.out _ _ ?s120 ?r120
            case s120=>exact HSB.out _ gw
            intro hHeld;clear hK K
            try simp only [Act.put,sS1,sS2,sS3]
            refine wpAny2_ready (rs:=[8]) (by kernel_rfl) (by simp) ?_;refine AllReady2.cons rfl (fun K hK=>?_) AllReady2.nil
            go_simp
            refine hK.out _ _ ?s121 ?r121
            case s121=>exact HSB.out _ gw
            intro hHeld;clear hK K
            try simp only [Act.put,sS1,sS2,sS3]
            refine wpAny2_ready (rs:=[9]) (by kernel_rfl) (by simp) ?_;refine AllReady2.late rfl (by kernel_rfl) (fun K hK=>?_) AllReady2.nil;have hz9:=hg9.size;simp at hz9;refine step_push (p:=C.p) (y:=ndA 13 (nextK l').line [y]) (dy:=⟨some ⟨w9.heap.size,0,none⟩,1,none,0⟩) (k:=w4.heap.size) exA_lies Tryz.underlying25 info_expr rfl (by decide) (by decide) (fun _ _=>rfl) (Ex.cells_one _ _) HG.out (by omega) gw (by omega) (Nat.le_refl _) ?_ rfl (by omega) rfl _ _ rfl rfl rfl (by simp) ?_
            · exact node_at (xs:=[y]) ⟨⟨by decide,by decide⟩,w640,HLN.out.2.2,w640,w640,size0⟩ (Nat.le_refl _) (by unfold MX;decide) (by simp) (exs_one rfl (by simp;omega) (HY.out.keep kx (fr (by simp;omega))))
            intro g cap w10 hG10 hgr hlo;have HG10:=hI hG10;have HGR:=hI hgr;have HLO:=hI hlo;have HB10:=hI (box_grown hgr (Gs.box (gw:Gs C.p w4 ((w9.alloc (.cells #[.int .i64 y.kind,.int .i64 y.op,.int .i64 y.line,.int .i64 y.p,.int .i64 y.q,.string y.str,.slice dy.a y.args.length dy.c,.slice dy.fa y.funcs.length dy.fc] 28)).alloc (.cells #[.int .i64 (ndA 13 (nextK l').line [y]).kind,.int .i64 (ndA 13 (nextK l').line [y]).op,.int .i64 (ndA 13 (nextK l').line [y]).line,.int .i64 (ndA 13 (nextK l').line [y]).p,.int .i64 (ndA 13 (nextK l').line [y]).q,.string (ndA 13 (nextK l').line [y]).str,.slice ((⟨some ⟨w9.heap.size,0,none⟩,1,none,0⟩:EA)).a (ndA 13 (nextK l').line [y]).args.length ((⟨some ⟨w9.heap.size,0,none⟩,1,none,0⟩:EA)).c,.slice ((⟨some ⟨w9.heap.size,0,none⟩,1,none,0⟩:EA)).fa (ndA 13 (nextK l').line [y]).funcs.length ((⟨some ⟨w9.heap.size,0,none⟩,1,none,0⟩:EA)).fc] 28))) HBE.out (by omega)) (fun he=>by have:=(hlo _ he.symm).1;omega));clear hG10 hgr hlo;have k10:=fun i=>box_cell HB10.out i;have k10f:=fun i=>box_free HB10.out i;have k10z:=box_lt HB10.out;refine hK.out _ _ ?_;clear hK K
            try simp only [Act.put,sS1,sS2,sS3]
            refine wpAny2_ready (rs:=[10]) (by kernel_rfl) (by simp) ?_;refine AllReady2.late rfl (by kernel_rfl) (fun K hK=>?_) AllReady2.nil
            go_simp
            refine hK.out _ _ ?_;clear hK K
            try simp only [Act.put,sS1,sS2,sS3]
            refine wpAny2_ready (rs:=[11]) (by kernel_rfl) (by simp) ?_;refine AllReady2.late rfl (by kernel_rfl) (fun K hK=>?_) AllReady2.nil
            go_simp
            refine hK.out _ _ ?_;clear hK K
            try simp only [Act.put,sS1,sS2,sS3]
            refine wpAnyG_done (by kernel_rfl) ?_ _
            go_wp2_with fail
            go_meet
            case rel=>exact ⟨_,l9,HR,hI (((HA.out.ca kw).grown HGR.out (fun j hj=>(HLO.out j hj).1) (by omega)).ca kw),hI (HTB.out.push HBE.out gw HGR.out HLO.out HG10.out),by omega⟩
          · have HR:=hI (show R=(E 0 (l'.drop 2)).bind fun v l1=>tabT E k (tabF t.line) acc (ndA 14 (nextK l').line [ndS 5 (nextK l').line (nextK l').text,v]) l1 from by rw [HR.out,hq];rfl)
            have hi2:i+2≤C.L.length:=by
              rcases Nat.lt_or_ge (i+1) C.L.length with h9|h9
              · omega
              · rcases Nat.lt_or_ge i C.L.length with h8|h8
                · rw [HLD.out,List.drop_eq_getElem_cons h8,List.drop_eq_nil_of_le h9] at hq;cases hq
                · rw [HLD.out,List.drop_eq_nil_of_le h8] at hq;cases hq
            have hl2:(l'.drop 2).length+2≤l'.length:=by rw [HLD.out];simp;omega
            have HL2D:=hI (show l'.drop 2=C.L.drop (i+2) from by rw [HLD.out,List.drop_drop]);clear hq;have kp:=fun i=>box_cell HBX.out i;have kpf:=fun i=>box_free HBX.out i;have kpz:=box_lt HBX.out
            go_upto_region 11 with fail
            go_cut [] (fun wx=>C.At wx (l'.drop 2)∧Gs C.p w5 wx)
            case first =>
              go_wp2_with fail
              go_meet
              case rel=>exact ⟨HA.out.gs gw hi2 HL2D.out (box_set (bx_drewN HBX.out) 1 _),gw⟩
            obtain ⟨hAc,hgc⟩:=hcut;have HA:=hI hAc;clear hAc kp kpf kpz;have hzc:=hgc.size;have HTK:=hI (hgc.box HTK.out (by omega));have kt:=fun i=>box_cell HTK.out i;have ktf:=fun i=>box_free HTK.out i;have ktz:=box_lt HTK.out
            go_upto_region 13 with fail
            have HSB:=hI (show ∀ w',Gs C.p (wc.alloc (.cells #[.int .i64 5,.int .i64 0,.int .i64 (nextK l').line,.int .i64 0,.int .i64 0,.string (nextK l').text,.slice none 0 0,.slice none 0 0] 28)) w'→((∀ i,w'.cell? ⟨w4.heap.size,i,none⟩=#[.int .i64 (nextK l').kind,.string (nextK l').text,.int .i64 (nextK l').line,.int .i64 (nextK l').pos][i]?)∧(∀ i,w'.cell? ⟨wc.heap.size,i,none⟩=#[.int .i64 5,.int .i64 0,.int .i64 (nextK l').line,.int .i64 0,.int .i64 0,.string (nextK l').text,.slice none 0 0,.slice none 0 0][i]?)∧(∀ i,w'.cell? ⟨w2.heap.size,i,none⟩=#[.int .i64 12,.int .i64 0,.int .i64 t.line,.int .i64 0,.int .i64 0,.string ⟨#[]⟩,.slice a acc.length c,.slice none 0 0][i]?)) from
              fun w' hg=>⟨fun i=>box_cell (hg.box (box_alloc HTK.out _) (by omega)) i,fun i=>box_cell (hg.box (box_at rfl) (by omega)) i,fun i=>box_cell ((gw:Gs C.p w4 w').box HBE.out (by omega)) i⟩)
            refine wp_region_two (c:=10) (T:=(fun w'=>((∀ i,w'.cell? ⟨w4.heap.size,i,none⟩=#[.int .i64 (nextK l').kind,.string (nextK l').text,.int .i64 (nextK l').line,.int .i64 (nextK l').pos][i]?)∧(∀ i,w'.cell? ⟨wc.heap.size,i,none⟩=#[.int .i64 5,.int .i64 0,.int .i64 (nextK l').line,.int .i64 0,.int .i64 0,.string (nextK l').text,.slice none 0 0,.slice none 0 0][i]?)∧(∀ i,w'.cell? ⟨w2.heap.size,i,none⟩=#[.int .i64 12,.int .i64 0,.int .i64 t.line,.int .i64 0,.int .i64 0,.string ⟨#[]⟩,.slice a acc.length c,.slice none 0 0][i]?)))) (by kernel_rfl) ?s122 ?r122
            case s122=>exact HSB.out _ gw
            intro hHeld;refine tG 0 ?_;refine lG 1 [10] ?_;refine tG 2 ?_;refine lG 3 [8,9,10] ?_;refine lG 4 [7,8,9,10] ?_;refine tG 5 ?_;refine wpAny2_ready (rs:=[6]) (by kernel_rfl) (by simp) ?_;refine AllReady2.cons rfl (fun K hK=>?_) AllReady2.nil
            go_simp
            go_at_call 26;(with_reducible refine (Tells.step HR (HE.out 0 (l'.drop 2) _ (by omega) (by omega) (by omega) (HA.out.ca kw))).mono ?_);rintro e w9 (⟨l9,rfl,HR,hg9⟩|⟨y,l9,u,rfl,⟨dy,rfl,hy⟩,HM9,HR,HA,hg9⟩)
            · go_wp2_with fail
              exact ⟨rfl,Tells.no HR gw⟩
            have HY:=hI hy;clear hy;have hs9:l9.length+1≤(l'.drop 2).length:=HL.out 0 _ _ _ HM9.out
            go_wp2_with fail
            refine hK.out _ _ ?s129 ?r129
            case s129=>exact HSB.out _ gw
            intro hHeld;clear hK K
            try simp only [Act.put,sS1,sS2,sS3]
            refine wpAny2_ready (rs:=[7]) (by kernel_rfl) (by simp) ?_;refine AllReady2.cons rfl (fun K hK=>?_) AllReady2.nil
            go_simp
            refine hK.out _ _ ?s130 ?r130
            case s130=>exact HSB.out _ gw
            intro hHeld;clear hK K
            try simp only [Act.put,sS1,sS2,sS3]
            refine wpAny2_ready (rs:=[8]) (by kernel_rfl) (by simp) ?_;refine AllReady2.cons rfl (fun K hK=>?_) AllReady2.nil
            go_simp
            refine hK.out _ _ ?s131 ?r131
            case s131=>exact HSB.out _ gw
            intro hHeld;clear hK K
            try simp only [Act.put,sS1,sS2,sS3]
            refine wpAny2_ready (rs:=[9]) (by kernel_rfl) (by simp) ?_;refine AllReady2.cons rfl (fun K hK=>?_) AllReady2.nil
            go_simp
            refine hK.out _ _ ?s132 ?r132
            case s132=>exact HSB.out _ gw
            intro hHeld;clear hK K
            try simp only [Act.put,sS1,sS2,sS3]
            refine wpAny2_ready (rs:=[10]) (by kernel_rfl) (by simp) ?_;refine AllReady2.late rfl (by kernel_rfl) (fun K hK=>?_) AllReady2.nil;have hz9:=hg9.size;simp at hz9;refine step_push (p:=C.p) (y:=ndA 14 (nextK l').line [ndS 5 (nextK l').line (nextK l').text,y]) (dy:=⟨some ⟨w9.heap.size,0,none⟩,2,none,0⟩) (k:=w4.heap.size) exA_lies Tryz.underlying25 info_expr rfl (by decide) (by decide) (fun _ _=>rfl) (Ex.cells_one _ _) HG.out (by omega) gw (by omega) (Nat.le_refl _) ?_ rfl (by omega) rfl _ _ rfl rfl rfl (by simp) ?_
            · exact node_at (xs:=[ndS 5 (nextK l').line (nextK l').text,y]) ⟨⟨by decide,by decide⟩,w640,HLN.out.2.2,w640,w640,size0⟩ (Nat.le_refl _) (by unfold MX;decide) (by simp) (exs_two (x:=ndS 5 (nextK l').line (nextK l').text) (dx:=⟨none,0,none,0⟩) rfl (by simp;omega) (leaf_at ⟨⟨by decide,by decide⟩,w640,HLN.out.2.2,w640,w640,HLN.out.1⟩) (HY.out.keep kx (fr (by simp;omega))))
            intro g cap w10 hG10 hgr hlo;have HG10:=hI hG10;have HGR:=hI hgr;have HLO:=hI hlo;have HB10:=hI (box_grown hgr (Gs.box (gw:Gs C.p w4 ((w9.alloc (.cells #[.int .i64 (ndS 5 (nextK l').line (nextK l').text).kind,.int .i64 (ndS 5 (nextK l').line (nextK l').text).op,.int .i64 (ndS 5 (nextK l').line (nextK l').text).line,.int .i64 (ndS 5 (nextK l').line (nextK l').text).p,.int .i64 (ndS 5 (nextK l').line (nextK l').text).q,.string (ndS 5 (nextK l').line (nextK l').text).str,.slice ((⟨none,0,none,0⟩:EA)).a (ndS 5 (nextK l').line (nextK l').text).args.length ((⟨none,0,none,0⟩:EA)).c,.slice ((⟨none,0,none,0⟩:EA)).fa (ndS 5 (nextK l').line (nextK l').text).funcs.length ((⟨none,0,none,0⟩:EA)).fc,.int .i64 y.kind,.int .i64 y.op,.int .i64 y.line,.int .i64 y.p,.int .i64 y.q,.string y.str,.slice dy.a y.args.length dy.c,.slice dy.fa y.funcs.length dy.fc] 28)).alloc (.cells #[.int .i64 (ndA 14 (nextK l').line [ndS 5 (nextK l').line (nextK l').text,y]).kind,.int .i64 (ndA 14 (nextK l').line [ndS 5 (nextK l').line (nextK l').text,y]).op,.int .i64 (ndA 14 (nextK l').line [ndS 5 (nextK l').line (nextK l').text,y]).line,.int .i64 (ndA 14 (nextK l').line [ndS 5 (nextK l').line (nextK l').text,y]).p,.int .i64 (ndA 14 (nextK l').line [ndS 5 (nextK l').line (nextK l').text,y]).q,.string (ndA 14 (nextK l').line [ndS 5 (nextK l').line (nextK l').text,y]).str,.slice ((⟨some ⟨w9.heap.size,0,none⟩,2,none,0⟩:EA)).a (ndA 14 (nextK l').line [ndS 5 (nextK l').line (nextK l').text,y]).args.length ((⟨some ⟨w9.heap.size,0,none⟩,2,none,0⟩:EA)).c,.slice ((⟨some ⟨w9.heap.size,0,none⟩,2,none,0⟩:EA)).fa (ndA 14 (nextK l').line [ndS 5 (nextK l').line (nextK l').text,y]).funcs.length ((⟨some ⟨w9.heap.size,0,none⟩,2,none,0⟩:EA)).fc] 28))) HBE.out (by omega)) (fun he=>by have:=(hlo _ he.symm).1;omega));clear hG10 hgr hlo;have k10:=fun i=>box_cell HB10.out i;have k10f:=fun i=>box_free HB10.out i;have k10z:=box_lt HB10.out
            refine hK.out _ _ ?_;clear hK K
            try simp only [Act.put,sS1,sS2,sS3]
            refine wpAny2_ready (rs:=[11]) (by kernel_rfl) (by simp) ?_;refine AllReady2.late rfl (by kernel_rfl) (fun K hK=>?_) AllReady2.nil
            go_simp
            refine hK.out _ _ ?_;clear hK K
            try simp only [Act.put,sS1,sS2,sS3]
            refine wpAny2_ready (rs:=[12]) (by kernel_rfl) (by simp) ?_;refine AllReady2.late rfl (by kernel_rfl) (fun K hK=>?_) AllReady2.nil
            go_simp
            refine hK.out _ _ ?_;clear hK K
            try simp only [Act.put,sS1,sS2,sS3]
            refine wpAnyG_done (by kernel_rfl) ?_ _
            go_wp2_with fail
            go_meet
            case rel=>exact ⟨_,l9,HR,hI (((HA.out.ca kw).grown HGR.out (fun j hj=>(HLO.out j hj).1) (by omega)).ca kw),hI (HTB.out.push HBE.out gw HGR.out HLO.out HG10.out),by omega⟩
    case rest =>
      obtain ⟨x,l1,HR,HA,HTB,hl1⟩:=hcut;have hgT:=HTB.out.gs
      go_wp2_with (first
        | (go_at_call 63;(with_reducible refine (skip_step C [44] l1 _ HR (HA.out.ca kw)).mono ?_);rintro e w3 (⟨rfl,HB3,HR,HA,hg3⟩|⟨rfl,-,HR,HA,hg3⟩) <;> have HTB:=hI (HTB.out.go hg3))
        | (go_at_call 63;(with_reducible refine (skip_step C [59] l1 _ HR (HA.out.ca kw)).mono ?_);rintro e w4 (⟨rfl,HB3,HR,HA,hg4⟩|⟨rfl,-,HR,HA,hg4⟩) <;> have HTB:=hI (HTB.out.go hg4))
        | (go_at_call 91;(with_reducible refine (Tells.step HR (need_at C [125] l1 _ (HA.out.ca kw))).mono ?_);rintro e w6 (⟨l6,rfl,HR,hg6⟩|⟨t6,l6,u,rfl,⟨rfl,-⟩,HM,HR,HA,hg6⟩);rotate_left;have HTB:=hI (HTB.out.go hg6);obtain ⟨a,c,ds,hbox,hgath⟩:=HTB.out.box;have HBE:=hI hbox;have HG:=hI hgath;have HRS:=hI HTB.out.res;have ke:=fun i=>box_cell HBE.out i;have kef:=fun i=>box_free HBE.out i;have kez:=box_lt HBE.out;have kr:=fun i=>box_cell HRS.out i;have krf:=fun i=>box_free HRS.out i;have krz:=box_lt HRS.out;clear hbox hgath))
      case inl=>exact ⟨rfl,Tells.no HR gw⟩
      · have ht1:=tail_lt HB3.out
        go_roundg k
        case rel=>exact ⟨acc++[x],l1.tail,by omega,HR,HA,HTB,by omega,by simp;omega⟩
        case measure=>omega
      · have ht1:=tail_lt HB3.out
        go_roundg k
        case rel=>exact ⟨acc++[x],l1.tail,by omega,HR,HA,HTB,by omega,by simp;omega⟩
        case measure=>omega
      · have hbx:(acc++[x]).length≤200000:=by simp;omega
        refine bodyPost_ret (v:=.agg #[.int .i64 (ndA 12 t.line (acc++[x])).kind,.int .i64 (ndA 12 t.line (acc++[x])).op,.int .i64 (ndA 12 t.line (acc++[x])).line,.int .i64 (ndA 12 t.line (acc++[x])).p,.int .i64 (ndA 12 t.line (acc++[x])).q,.string (ndA 12 t.line (acc++[x])).str,.slice ((⟨a,c,none,0⟩:EA)).a (ndA 12 t.line (acc++[x])).args.length ((⟨a,c,none,0⟩:EA)).c,.slice ((⟨a,c,none,0⟩:EA)).fa (ndA 12 t.line (acc++[x])).funcs.length ((⟨a,c,none,0⟩:EA)).fc]) (by
          have k8:=fun j=>box_cell (set8h HRS.out (.int .i64 12) (.int .i64 0) (.int .i64 t.line) (.int .i64 0) (.int .i64 0) (.string ⟨#[]⟩) (.slice a (acc.length+1) c) (.slice none 0 0)) j;have s0:=k8 0;have s1:=k8 1;have s2:=k8 2;have s3:=k8 3;have s4:=k8 4;have s5:=k8 5;have s6:=k8 6;have s7:=k8 7;simp [results,Tryz.results78,go_sem,krz,s0,s1,s2,s3,s4,s5,s6,s7];(try exact ⟨rfl,rfl,rfl,rfl,rfl,rfl,by simp [ndA,Ex.args],rfl⟩)) rfl ?_
        obtain ⟨a',c',h1,h2,h3,h4⟩:=HG.out.exs;cases h1;exact Tells.yes HR gw (HA.out.ca kw) ⟨⟨a,c,none,0⟩,rfl,tab_end HT.out.2.2 h2 h3 hbx (h4.keep kx (fr (by omega)))⟩
end Go.Proofs.YtdekaghipjpgpaaGreatDoor
