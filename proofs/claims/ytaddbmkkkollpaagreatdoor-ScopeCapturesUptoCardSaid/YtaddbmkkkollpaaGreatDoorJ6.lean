import Derived.Test.YtaddbmkkkollpaaGreatDoorJ1
import Derived.Test.YtaddbmkkkollpaaGreatDoorJR
import Derived.Deep.CutBlock
import Derived.Test.YtaddbmkkkollpaaGreatDoorC4
set_option linter.all false
namespace Go.Proofs.YtaddbmkkkollpaaGreatDoor
set_option maxHeartbeats 8000000
set_option maxRecDepth 100000
open Go.RowKit
theorem jo {α β:Type} {c:Prop} [Decidable c] {m m':az α} {f:α→List Tk→az β}:(if c then m else m').bind f=if c then m.bind f else m'.bind f:=by split <;> rfl
theorem fS {α β γ:Type} {m:az α} {f:α→List Tk→az β} {g:β→List Tk→az γ}:(m.bind f).bind g=m.bind fun x l=>(f x l).bind g:=by cases m <;> rfl
theorem jn {α β:Type} {m:az α} {f g:α→List Tk→az β} (h:∀ x l,f x l=g x l):m.bind f=m.bind g:=by cases m with|ok x l=>exact h x l|bad l=>rfl
theorem eL {w:World} {b:Nat} {u0 u1 u2 u3 u4 u5 u6 u7:Value} {T:TypeId} (h:w.heap[b]?=some (.cells #[u0,u1,u2,u3,u4,u5,u6,u7] T)) (v0 v1 v2 v3 v4 v5 v6 v7:Value) :
    ((((((((w.setCell ⟨b,0,none⟩ v0).setCell ⟨b,1,none⟩ v1).setCell ⟨b,2,none⟩ v2).setCell ⟨b,3,none⟩ v3).setCell ⟨b,4,none⟩ v4).setCell ⟨b,5,none⟩ v5).setCell ⟨b,6,none⟩ v6).setCell ⟨b,7,none⟩ v7).heap[b]?=some (.cells #[v0,v1,v2,v3,v4,v5,v6,v7] T):=by
  have h9:=aR (aR (aR (aR (aR (aR (aR (aR h 0 v0) 1 v1) 2 v2) 3 v3) 4 v4) 5 v5) 6 v6) 7 v7;simp only [al,am,ap] at h9;exact h9
theorem jK {F:Nat→Prop} {w:World} {k o l p q:Int} {s:ByteArray} {xs:List Ex} {a:Option Addr} {c:Nat} (h0:aJ k∧aJ o∧aJ l∧aJ p∧aJ q∧s.size≤MX) (h1:xs.length≤c) (h2:c≤MX) (h3:xs.length≤200000) (h:Ex.Ats F w xs a):(Ex.mk k o l p q s xs []).At F w ⟨a,c,none,0⟩ :=
  ⟨h0,⟨h1,⟨h2,by unfold LM;omega⟩,Nat.zero_le _,Nat.zero_le _,Nat.zero_le _⟩,h,trivial⟩
theorem jF {F:Nat→Prop} {w:World} {k o l p q:Int} {s:ByteArray} (h0:aJ k∧aJ o∧aJ l∧aJ p∧aJ q∧s.size≤MX):(Ex.mk k o l p q s [] []).At F w ⟨none,0,none,0⟩ :=
  ⟨h0,⟨Nat.zero_le _,⟨Nat.zero_le _,Nat.zero_le _⟩,Nat.zero_le _,Nat.zero_le _,Nat.zero_le _⟩,trivial,trivial⟩
theorem aT:aJ 0:=⟨by decide,by decide⟩
theorem cm:(⟨#[]⟩:ByteArray).size≤MX:=Nat.zero_le _
abbrev kO:Array Value:=#[.int .i64 0,.int .i64 0,.int .i64 0,.int .i64 0,.int .i64 0,.string ⟨#[]⟩,.slice none 0 0,.slice none 0 0]
structure kX (C:PC) (w:World) (b1:Nat) (line:Int) (wr:World) (acc:List Ex):Prop where
  gs:Gs C.p w wr
  p1:C.p<w.heap.size
  b01:w.heap.size<b1
  bw:b1<wr.heap.size
  res:wr.heap[w.heap.size]?=some (.cells kO 37)
  box:∃ a c ds,wr.heap[b1]?=some (.cells #[.int .i64 12,.int .i64 0,.int .i64 line,.int .i64 0,.int .i64 0,.string ⟨#[]⟩,.slice a acc.length c,.slice none 0 0] 37)∧aM Ex.cells dT 37 8 (b1+1) wr (.slice a acc.length c) acc ds
theorem PC.At.nextW {C:PC} {w:World} {l:List Tk} (h:C.At w l):(aa l).text.size≤MX∧aJ (aa l).kind∧aJ (aa l).line:=by
  cases l with
  | nil=>exact ⟨Nat.zero_le _,aT,aT⟩
  | cons t r =>
    obtain ⟨i,-,-,ht,-⟩:=h.cut;obtain ⟨b,off,-,-,-,-,h1,h2,h3,-⟩:=h.tok ht;exact ⟨h1,h2,h3⟩
theorem kX.go {C:PC} {w:World} {b1:Nat} {line:Int} {wr w':World} {acc:List Ex} (h:kX C w b1 line wr acc) (hg:Gs C.p wr w'):kX C w b1 line w' acc:=by
  have h1:=h.p1;have h2:=h.b01;obtain ⟨a,c,ds,h3,h4⟩:=h.box;exact ⟨hg.thru h.gs,h1,h2,KS h.bw hg.size,hg.box h.res (by omega),a,c,ds,hg.box h3 (by omega),h4.gs db hg (by omega)⟩
theorem I5 {α δ:Type} {f:α→δ→List Value} {A:(Nat→Prop)→World→α→δ→Prop} {t e:TypeId} {z:Value} {n bytes base p k b0:Nat} {w1 w0:World} {v:Value} {l:List α} {ds:List δ} {y:α} {dy:δ} {cs:Array Value}
    {ops:Array Oper} {o:Oper} {a:Act} {K:Act→World→Prop} {Q:Exit→Act→World→Prop} {E:Prop} (hA:cq A) (ht:Tryz.prog.underlying t=some (.slice e)) (hinfo:(Tryz.prog.info? e).map (fun i=>(i.zero,i.size,i.bytes))=some (some z,n,bytes)) (hzs:z.cells.size=n) (hn:0<n) (hbt:bytes≤1000)
    (hf:∀ x d,(f x d).length=n) (h1:∀ u ∈ f y dy,u.oneCell'=true)
    (HG:aM f A e n base w1 v l ds) (hp:p<base) (hg:Gs p w1 w0) (hb:base≤w1.heap.size) (hk:w1.heap.size≤k) (hy:A (ay k) w0 y dy) (hcs:cs.toList=f y dy) (hlen:l.length≤70000)
    (hgd:o.guard=none) (s x:Operand) (hop:o.op=.call { callee:=.builtin .append,args:=#[s,x],argTypes:=#[t,t] }) (hs:a.eval s=v) (hx:a.eval x=.slice (some ⟨b0,0,none⟩) 1 1) (hb0:b0=w0.heap.size)
    (h:∀ g cap w',aM f A e n base w' (.slice (some ⟨g,0,none⟩) (l.length+1) cap) (l++[y]) (ds++[dy])→(w0.alloc (.cells cs e)).grownBy w' v.ownBlock→(∀ j,v.ownBlock=some j→base≤j∧j<w1.heap.size)→K (a.put o.dst (.slice (some ⟨g,0,none⟩) (l.length+1) cap)) w') :
    if Region.wanted o (yielded ops a.tmps)=true then Oper.wp Tryz.prog o a (w0.alloc (.cells cs e)) K Q else E:=by
  subst hb0;obtain ⟨i0,hi,hz0,hz1,hz2⟩:=info_parts hinfo;have HG0:=HG.gs hA hg hp;refine step_append_lies _ hgd s x t hop base e i0 z n bytes ht hi hz0 hz1 hz2 hzs hn v l.length _ hs (HG0.own.alloc _) ⟨w0.heap.size,0,none⟩ 1 1 (f y dy) hx (by rw [hf];omega) (fun j u hu=>lK rfl j u (by rw [hcs];exact hu)) h1 (by decide) (by unfold maxLen;omega) ?_ (by have:=hg.size;simp;omega) _ rfl ?_
  · have:(l.length+1)*bytes≤70001*1000:=Nat.mul_le_mul (by omega) hbt;omega
  intro g cap w' r1 r2 r3 r4
  refine h g cap w' (aM.push hA (HG0.alloc hA _) ?_ r1 r2 (fun b hb=>by
    rcases r3 with h|h
    · exact .inl (hb.symm.trans h.symm)
    · have hbg:g=b:=Option.some.inj hb;exact .inr (by rw [←hbg,h];exact KU _))) r2 (fun j hj=>HG.own.lt j hj)
  refine hA (ay k) _ w0 _ y dy ((af.refl _ _).alloc _) (fun j hj _=>⟨by omega,fun he=>?_⟩) hy;have h9:=(HG.own.lt j he.symm).2;have h8:k≤j:=hj;omega
theorem kX.push {C:PC} {w w0 w1 w10:World} {b1 g cap:Nat} {line:Int} {acc:List Ex} {y:Ex} {a:Option Addr} {c:Nat} {ds':List EA} (h:kX C w b1 line w0 acc) (hb:w0.heap[b1]?=some (.cells #[.int .i64 12,.int .i64 0,.int .i64 line,.int .i64 0,.int .i64 0,.string ⟨#[]⟩,.slice a acc.length c,.slice none 0 0] 37)) (hg:Gs C.p w0 w1) (hgr:w1.grownBy w10 (Value.slice a acc.length c).ownBlock) (hlo:∀ j,(Value.slice a acc.length c).ownBlock=some j→b1+1≤j∧j<w0.heap.size)
    (hG:aM Ex.cells dT 37 8 (b1+1) w10 (.slice (some ⟨g,0,none⟩) (acc.length+1) cap) (acc++[y]) ds'):kX C w b1 line (w10.setCell ⟨b1,6,none⟩ (.slice (some ⟨g,0,none⟩) (acc.length+1) cap)) (acc++[y]):=by
  have h1:=h.p1;have h2:=h.b01;have h3:=h.bw;have hne:∀ b,b≤b1→some b≠(Value.slice a acc.length c).ownBlock:=fun b hle he=>by have:=(hlo b he.symm).1;omega
  refine ⟨Gs.set (Gs.grown hgr (fun k hk=>by have:=(hlo k hk).1;omega) (hg.thru h.gs)) (.inr (Nat.le_of_lt h2)) _,h1,h2,by simp [World.setCell];have:=hgr.size;have:=hg.size;omega,?_,some ⟨g,0,none⟩,cap,ds',?_,?_⟩
  · exact bS (bR hgr (hg.box h.res (by omega)) (hne _ (Nat.le_of_lt h2))) (by simp;omega)
  · have h9:=aR (bR hgr (hg.box hb (by omega)) (hne _ (KU _))) 6 (.slice (some ⟨g,0,none⟩) (acc.length+1) cap);simpa using h9
  · have h9:=hG.lt db (af.set (af.refl (fun b=>b1+1≤b∧b<w10.heap.size) w10) (p:=⟨b1,6,none⟩) (by simp;omega) (.slice (some ⟨g,0,none⟩) (acc.length+1) cap));simpa using h9
def ij:List Sb:=[[123],[105,102],[102,111,114],[119,104,105,108,101],[114,101,112,101,97,116],[100,111]]
def nl (t:Tk):Bool:=decide (t.kind≠4) && !ij.contains t.text.data.toList
def dO (L:List Tk):Prop:=∀ t ∈ L,nl t=true∧(t.kind=3→∀ w,Calls Tryz.prog 156 #[.string t.text] w fun e w'=>e=.returned (.tuple #[.agg #[.int .i64 (bG t.text.data.toList).1,.int .i64 (bG t.text.data.toList).2],.int .i64 0])∧Below w.heap.size w w'∧aJ (bG t.text.data.toList).1∧aJ (bG t.text.data.toList).2)
def xy (x:Ex × Bool) (w w':World) (u:Value):Prop:=∃ d,u=.tuple #[.agg #[.int .i64 (x.1).kind,.int .i64 (x.1).op,.int .i64 (x.1).line,.int .i64 (x.1).p,.int .i64 (x.1).q,.string (x.1).str,.slice d.a (x.1).args.length d.c,.slice d.fa (x.1).funcs.length d.fc],.bool x.2]∧x.1.At (ay w.heap.size) w' d
theorem Ho (E:EF) (B:BF) (l:List Tk):jQ E B l =
  if (aa l).kind=3 then .ok (.mk 4 0 (aa l).line (bG (aa l).text.data.toList).1 (bG (aa l).text.data.toList).2 ⟨#[]⟩ [] []) l.tail
  else if (aa l).kind=4 then .ok (bE 5 (aa l).line (aa l).text) l.tail
  else if ar [110,105,108] l=true then .ok (nd 1 (aa l).line) l.tail
  else if ar [116,114,117,101] l=true then .ok (nd 2 (aa l).line) l.tail
  else if ar [102,97,108,115,101] l=true then .ok (nd 3 (aa l).line) l.tail
  else if ar [46,46,46] l=true then .ok (nd 6 (aa l).line) l.tail
  else if ar lX l=true then el B (aa l).line ⟨#[]⟩ false l.tail
  else if ar [123] l=true then nI E l
  else (fj E l).bind fun x l1=>.ok x.1 l1:=rfl
theorem JA {α:Type} {l:List Tk} {k:Int} (h:(aa l).kind=k) (hk:k≠0) (v:α):(az.ok v l.tail)=(bJ l).bind fun _ l1=>.ok v l1:=by
  cases l with
  | nil=>exact absurd h.symm hk
  | cons t r=>rfl
theorem rL {C:PC} {w:World} {l:List Tk} {k:Int} (h:C.At w l) (hk:(aa l).kind=k) (h0:k≠0):aa l ∈ C.L:=by
  cases l with
  | nil=>exact absurd hk.symm h0
  | cons t r=>obtain ⟨i,-,-,ht,-⟩:=h.cut;exact KR ht
theorem xc {C:PC} {w:World} {l:List Tk} (hN:dO C.L) (h:C.At w l):(aa l).kind≠4:=fun k4=>by
  have h1:=(hN _ (rL h k4 (by decide))).1;unfold nl at h1;rw [k4] at h1;simp at h1
theorem lN {C:PC} {w:World} {l:List Tk} {k:Int} (hN:dO C.L) (h:C.At w l) (hk:(aa l).kind=k) (h0:k≠0) {s:Sb} (hs:s ∈ ij):¬ (aa l).text.data.toList=s:=fun e=>by
  have h1:=(hN _ (rL h hk h0)).1;unfold nl at h1;rw [e] at h1;simp [hs] at h1
theorem xb {C:PC} {w:World} {l:List Tk} (hN:dO C.L) (h:C.At w l) {s:Sb} (hs:s ∈ ij):ar s l=false:=by
  cases h9:ar s l
  · rfl
  · rw [vQ] at h9;simp at h9;exact absurd h9.2 (lN hN h rfl (by rcases h9.1 with h8|h8 <;> rw [h8] <;> decide) hs)
abbrev th (C:PC) (B:BF) (n:Nat):Prop:=∀ (line:Int) (name:ByteArray) (self:Bool) (l:List Tk) (w:World),aJ line→name.size≤MX→l.length≤n→C.At w l→Calls Tryz.prog 124 #[co C,.int .i64 line,.string name,.bool self] w (ai C ly (el B line name self l) w)
theorem pO {P:Prop} (h:P:=by
  exact ai.yes HR gw (HA.out.ca kw) ⟨⟨none,0,none,0⟩,rfl,jF ⟨⟨by decide,by decide⟩,aT,HW.out.2.2,aT,aT,cm⟩⟩):P:=h
theorem Hr {C:PC} {E:EF} {B:BF} {n:Nat} (hE:EC C E n) (hL:SE E) (hN:dO C.L) (l:List Tk) (w:World) (hl:l.length≤n) (h:C.At w l)
    (hF:ar lX l=true→th C B n) (hX:(aa l).kind≠4→ar [123] l=false→∀ w',C.At w' l→Calls Tryz.prog 128 #[co C] w' (ai C xy (fj E l) w')) :
    Calls Tryz.prog 126 #[co C] w (ai C ly (jQ E B l) w):=by
  have HA:=hI h;have hp:=h.lt;have hl6:=h.len;have hpn:w.heap.size≠C.p:=by omega
  have HE:=hI hE;have HL:=hI hL;have HN:=hI hl;have HNU:=hI hN;have HF:=hI hF;have HX:=hI hX;have HW:=hI h.nextW;generalize hR:jQ E B l=R;have HR:=hI (hR.symm.trans (Ho E B l));clear hR h hE hL hl hN hF hX;have h3:((aa l).kind==3)=decide ((aa l).kind=3):=rfl;have tf:=True.intro;by_cases k3:(aa l).kind=3
  · have HR:=hI (show R=(bJ l).bind fun _ l1=>.ok (.mk 4 0 (aa l).line (bG (aa l).text.data.toList).1 (bG (aa l).text.data.toList).2 ⟨#[]⟩ [] []) l1 from by rw [HR.out,if_pos k3];exact JA k3 (by decide) _);have HNP:=hI ((HNU.out _ (rL HA.out k3 (by decide))).2 k3);have b3:((aa l).kind==3)=true:=by rw [k3];rfl
    clear k3 h3
    go_enter Tryz.func126,Tryz.ntmps126
    go_wp2_with (first
      | (go_at_call 87;(with_reducible refine (cP C l _ (HA.out.ca kw)).mono ?_);rintro e w2 ⟨rfl,hb2⟩;have HA:=hI ((HA.out.ca kw).mv hb2);have HRS:=hI (aD hb2 (aA rfl));have hz2:=hb2.size;simp at hz2)
      | (go_at_call 88;(with_reducible refine (ai.step HR (fL C l _ (HA.out.ca kw))).mono ?_);rintro e w3 (⟨l3,rfl,HR,hg3⟩|⟨x3,l3,u,rfl,⟨rfl,-⟩,HM3,HR,HA,hg3⟩);rotate_left);(have HTK:=hI (hg3.box (aA rfl) (by omega));have HRS:=hI (hg3.box (ax HRS.out _) (by omega));have hz3:=hg3.size;simp at hz3;have kt:=fun i=>ac HTK.out i;have ktf:=fun i=>ag HTK.out i;have ktz:=ae HTK.out;have kr:=fun i=>ac HRS.out i;have krf:=fun i=>ag HRS.out i;have krz:=ae HRS.out)
      | (go_at_call 156;(with_reducible refine (HNP.out _).mono ?_);rintro e w4 ⟨rfl,hb4,hw1,hw2⟩;have HTK:=hI (aD hb4 HTK.out);have HRS:=hI (aD hb4 HRS.out);have HWN:=hI (And.intro hw1 hw2);clear hw1 hw2;have kt:=fun i=>ac HTK.out i;have ktf:=fun i=>ag HTK.out i;have ktz:=ae HTK.out;have kr:=fun i=>ac HRS.out i;have krf:=fun i=>ag HRS.out i;have krz:=ae HRS.out))
    case inl=>exact ⟨rfl,ai.no HR gw⟩
    refine bodyPost_ret (v:=.agg #[.int .i64 ((Ex.mk 4 0 (aa l).line (bG (aa l).text.data.toList).1 (bG (aa l).text.data.toList).2 ⟨#[]⟩ [] [])).kind,.int .i64 ((Ex.mk 4 0 (aa l).line (bG (aa l).text.data.toList).1 (bG (aa l).text.data.toList).2 ⟨#[]⟩ [] [])).op,.int .i64 ((Ex.mk 4 0 (aa l).line (bG (aa l).text.data.toList).1 (bG (aa l).text.data.toList).2 ⟨#[]⟩ [] [])).line,.int .i64 ((Ex.mk 4 0 (aa l).line (bG (aa l).text.data.toList).1 (bG (aa l).text.data.toList).2 ⟨#[]⟩ [] [])).p,.int .i64 ((Ex.mk 4 0 (aa l).line (bG (aa l).text.data.toList).1 (bG (aa l).text.data.toList).2 ⟨#[]⟩ [] [])).q,.string ((Ex.mk 4 0 (aa l).line (bG (aa l).text.data.toList).1 (bG (aa l).text.data.toList).2 ⟨#[]⟩ [] [])).str,.slice ((⟨none,0,none,0⟩:EA)).a ((Ex.mk 4 0 (aa l).line (bG (aa l).text.data.toList).1 (bG (aa l).text.data.toList).2 ⟨#[]⟩ [] [])).args.length ((⟨none,0,none,0⟩:EA)).c,.slice ((⟨none,0,none,0⟩:EA)).fa ((Ex.mk 4 0 (aa l).line (bG (aa l).text.data.toList).1 (bG (aa l).text.data.toList).2 ⟨#[]⟩ [] [])).funcs.length ((⟨none,0,none,0⟩:EA)).fc]) (by have k8:=fun j=>ac (ax (eL HRS.out (.int .i64 4) (.int .i64 0) (.int .i64 (aa l).line) (.int .i64 (bG (aa l).text.data.toList).1) (.int .i64 (bG (aa l).text.data.toList).2) (.string ⟨#[]⟩) (.slice none 0 0) (.slice none 0 0)) (.cells #[.int .i64 (bG (aa l).text.data.toList).1,.int .i64 (bG (aa l).text.data.toList).2] 33)) j;have s0:=k8 0;have s1:=k8 1;have s2:=k8 2;have s3:=k8 3;have s4:=k8 4;have s5:=k8 5;have s6:=k8 6;have s7:=k8 7;simp [results,Tryz.results126,go_sem,krz,s0,s1,s2,s3,s4,s5,s6,s7];(try exact ⟨rfl,rfl,rfl,rfl,rfl,rfl,rfl,rfl⟩)) rfl ?_;exact ai.yes HR gw (HA.out.ca kw) ⟨⟨none,0,none,0⟩,rfl,jF ⟨⟨by decide,by decide⟩,aT,HW.out.2.2,HWN.out.1,HWN.out.2,cm⟩⟩
  have b3:((aa l).kind==3)=false:=by simpa using k3
  have HR:=hI (HR.out.trans (if_neg k3));by_cases k4:(aa l).kind=4
  · exact absurd k4 (xc HNU.out HA.out)
  have HNB:=hI (xb (s:=[123]) HNU.out HA.out (by simp [ij]));have b4:((aa l).kind==4)=false:=by simpa using k4
  have HR:=hI (HR.out.trans (if_neg k4));have HX:=hI (HX.out k4);clear k3 k4 h3
  go_enter Tryz.func126,Tryz.ntmps126
  go_wp2_with (first
    | (go_at_call 87;(with_reducible refine (cP C l _ (HA.out.ca kw)).mono ?_);rintro e w2 ⟨rfl,hb2⟩;have HA:=hI ((HA.out.ca kw).mv hb2);have HRS:=hI (aD hb2 (aA rfl));have hz2:=hb2.size;simp at hz2;
        have HSB:=hI (show ∀ w',Gs C.p (w2.alloc (.cells #[.int .i64 (aa l).kind,.string (aa l).text,.int .i64 (aa l).line,.int .i64 (aa l).pos] 163)) w'→w'.heap[w2.heap.size]?=some (.cells #[.int .i64 (aa l).kind,.string (aa l).text,.int .i64 (aa l).line,.int .i64 (aa l).pos] 163)∧w'.heap[w.heap.size]?=some (.cells kO 37) from fun w' hg=>⟨hg.box (aA rfl) (by omega),hg.box (ax HRS.out _) (by omega)⟩))
    | (go_at_call 57;(with_reducible refine (dI C [110,105,108] l _ HR (HA.out.ca kw)).mono ?_);rintro e w3 (⟨rfl,HB3,HR,HA,hg3⟩|⟨rfl,-,HR,HA,hg3⟩) <;> (have hq3:=HSB.out w3 gw;have HTK:=hI hq3.1;have HRS:=hI hq3.2;clear hq3;have kt:=fun i=>ac HTK.out i;have ktf:=fun i=>ag HTK.out i;have ktz:=ae HTK.out;have kr:=fun i=>ac HRS.out i;have krf:=fun i=>ag HRS.out i;have krz:=ae HRS.out))
    | (go_at_call 57;(with_reducible refine (dI C [116,114,117,101] l _ HR (HA.out.ca kw)).mono ?_);rintro e w4 (⟨rfl,HB4,HR,HA,hg4⟩|⟨rfl,-,HR,HA,hg4⟩) <;> (have hq4:=HSB.out w4 gw;have HTK:=hI hq4.1;have HRS:=hI hq4.2;clear hq4;have kt:=fun i=>ac HTK.out i;have ktf:=fun i=>ag HTK.out i;have ktz:=ae HTK.out;have kr:=fun i=>ac HRS.out i;have krf:=fun i=>ag HRS.out i;have krz:=ae HRS.out))
    | (go_at_call 57;(with_reducible refine (dI C [102,97,108,115,101] l _ HR (HA.out.ca kw)).mono ?_);rintro e w5 (⟨rfl,HB5,HR,HA,hg5⟩|⟨rfl,-,HR,HA,hg5⟩) <;> (have hq5:=HSB.out w5 gw;have HTK:=hI hq5.1;have HRS:=hI hq5.2;clear hq5;have kt:=fun i=>ac HTK.out i;have ktf:=fun i=>ag HTK.out i;have ktz:=ae HTK.out;have kr:=fun i=>ac HRS.out i;have krf:=fun i=>ag HRS.out i;have krz:=ae HRS.out))
    | (go_at_call 57;(with_reducible refine (dI C [46,46,46] l _ HR (HA.out.ca kw)).mono ?_);rintro e w6 (⟨rfl,HB6,HR,HA,hg6⟩|⟨rfl,-,HR,HA,hg6⟩) <;> (have hq6:=HSB.out w6 gw;have HTK:=hI hq6.1;have HRS:=hI hq6.2;clear hq6;have kt:=fun i=>ac HTK.out i;have ktf:=fun i=>ag HTK.out i;have ktz:=ae HTK.out;have kr:=fun i=>ac HRS.out i;have krf:=fun i=>ag HRS.out i;have krz:=ae HRS.out))
    | (go_at_call 57;(with_reducible refine (dI C [102,117,110,99,116,105,111,110] l _ HR (HA.out.ca kw)).mono ?_);rintro e w7 (⟨rfl,HB7,HR,HA,hg7⟩|⟨rfl,-,HR,HA,hg7⟩) <;> (have hq7:=HSB.out w7 gw;have HTK:=hI hq7.1;have HRS:=hI hq7.2;clear hq7;have kt:=fun i=>ac HTK.out i;have ktf:=fun i=>ag HTK.out i;have ktz:=ae HTK.out;have kr:=fun i=>ac HRS.out i;have krf:=fun i=>ag HRS.out i;have krz:=ae HRS.out))
    | (go_at_call 58;(with_reducible refine (kE C [123] l _ HR (HA.out.ca kw)).mono ?_);rintro e w8 (⟨rfl,HB8,-⟩|⟨rfl,HB8,HR,HA,hg8⟩);exact absurd HB8.out (by rw [HNB.out];decide);(have hq8:=HSB.out w8 gw;have HTK:=hI hq8.1;have HRS:=hI hq8.2;clear hq8;have kt:=fun i=>ac HTK.out i;have ktf:=fun i=>ag HTK.out i;have ktz:=ae HTK.out;have kr:=fun i=>ac HRS.out i;have krf:=fun i=>ag HRS.out i;have krz:=ae HRS.out))
    | (go_at_call 124;(with_reducible refine (ai.tail HR (HF.out HB7.out (aa l).line ⟨#[]⟩ false l.tail _ HW.out.2.2 cm (KT (cN _) HN.out) (HA.out.ca kw))).mono ?_);rintro e w9 (⟨l9,rfl,HR,hg9⟩|⟨x,l9,u,rfl,⟨d,rfl,hx⟩,HM,HR,HA,hg9⟩);rotate_left;(have HX9:=hI hx;clear hx;have HRS:=hI (hg9.box HRS.out (by omega));have kr:=fun i=>ac HRS.out i;have krf:=fun i=>ag HRS.out i;have krz:=ae HRS.out))
    | (go_at_call 128;(with_reducible refine (ai.step HR (HX.out HB8.out _ (HA.out.ca kw))).mono ?_);rintro e w9 (⟨l9,rfl,HR,hg9⟩|⟨x,l9,u,rfl,⟨d,rfl,hx⟩,HM,HR,HA,hg9⟩);rotate_left;(have HX9:=hI hx;clear hx;have HRS:=hI (hg9.box HRS.out (by omega));have kr:=fun i=>ac HRS.out i;have krf:=fun i=>ag HRS.out i;have krz:=ae HRS.out)))
  case inl=>exact ⟨rfl,ai.no HR gw⟩
  case inl=>exact ⟨rfl,ai.no HR gw⟩
  · refine bodyPost_ret (v:=.agg #[.int .i64 ((nd 1 (aa l).line)).kind,.int .i64 ((nd 1 (aa l).line)).op,.int .i64 ((nd 1 (aa l).line)).line,.int .i64 ((nd 1 (aa l).line)).p,.int .i64 ((nd 1 (aa l).line)).q,.string ((nd 1 (aa l).line)).str,.slice ((⟨none,0,none,0⟩:EA)).a ((nd 1 (aa l).line)).args.length ((⟨none,0,none,0⟩:EA)).c,.slice ((⟨none,0,none,0⟩:EA)).fa ((nd 1 (aa l).line)).funcs.length ((⟨none,0,none,0⟩:EA)).fc]) (by have k8:=fun j=>ac (eL HRS.out (.int .i64 1) (.int .i64 0) (.int .i64 (aa l).line) (.int .i64 0) (.int .i64 0) (.string ⟨#[]⟩) (.slice none 0 0) (.slice none 0 0)) j;have s0:=k8 0;have s1:=k8 1;have s2:=k8 2;have s3:=k8 3;have s4:=k8 4;have s5:=k8 5;have s6:=k8 6;have s7:=k8 7;simp [results,Tryz.results126,go_sem,krz,s0,s1,s2,s3,s4,s5,s6,s7];(try exact ⟨rfl,rfl,rfl,rfl,rfl,rfl,rfl,rfl⟩)) rfl ?_;exact pO
  · refine bodyPost_ret (v:=.agg #[.int .i64 ((nd 2 (aa l).line)).kind,.int .i64 ((nd 2 (aa l).line)).op,.int .i64 ((nd 2 (aa l).line)).line,.int .i64 ((nd 2 (aa l).line)).p,.int .i64 ((nd 2 (aa l).line)).q,.string ((nd 2 (aa l).line)).str,.slice ((⟨none,0,none,0⟩:EA)).a ((nd 2 (aa l).line)).args.length ((⟨none,0,none,0⟩:EA)).c,.slice ((⟨none,0,none,0⟩:EA)).fa ((nd 2 (aa l).line)).funcs.length ((⟨none,0,none,0⟩:EA)).fc]) (by have k8:=fun j=>ac (eL HRS.out (.int .i64 2) (.int .i64 0) (.int .i64 (aa l).line) (.int .i64 0) (.int .i64 0) (.string ⟨#[]⟩) (.slice none 0 0) (.slice none 0 0)) j;have s0:=k8 0;have s1:=k8 1;have s2:=k8 2;have s3:=k8 3;have s4:=k8 4;have s5:=k8 5;have s6:=k8 6;have s7:=k8 7;simp [results,Tryz.results126,go_sem,krz,s0,s1,s2,s3,s4,s5,s6,s7];(try exact ⟨rfl,rfl,rfl,rfl,rfl,rfl,rfl,rfl⟩)) rfl ?_;exact pO
  · refine bodyPost_ret (v:=.agg #[.int .i64 ((nd 3 (aa l).line)).kind,.int .i64 ((nd 3 (aa l).line)).op,.int .i64 ((nd 3 (aa l).line)).line,.int .i64 ((nd 3 (aa l).line)).p,.int .i64 ((nd 3 (aa l).line)).q,.string ((nd 3 (aa l).line)).str,.slice ((⟨none,0,none,0⟩:EA)).a ((nd 3 (aa l).line)).args.length ((⟨none,0,none,0⟩:EA)).c,.slice ((⟨none,0,none,0⟩:EA)).fa ((nd 3 (aa l).line)).funcs.length ((⟨none,0,none,0⟩:EA)).fc]) (by have k8:=fun j=>ac (eL HRS.out (.int .i64 3) (.int .i64 0) (.int .i64 (aa l).line) (.int .i64 0) (.int .i64 0) (.string ⟨#[]⟩) (.slice none 0 0) (.slice none 0 0)) j;have s0:=k8 0;have s1:=k8 1;have s2:=k8 2;have s3:=k8 3;have s4:=k8 4;have s5:=k8 5;have s6:=k8 6;have s7:=k8 7;simp [results,Tryz.results126,go_sem,krz,s0,s1,s2,s3,s4,s5,s6,s7];(try exact ⟨rfl,rfl,rfl,rfl,rfl,rfl,rfl,rfl⟩)) rfl ?_;exact pO
  · refine bodyPost_ret (v:=.agg #[.int .i64 ((nd 6 (aa l).line)).kind,.int .i64 ((nd 6 (aa l).line)).op,.int .i64 ((nd 6 (aa l).line)).line,.int .i64 ((nd 6 (aa l).line)).p,.int .i64 ((nd 6 (aa l).line)).q,.string ((nd 6 (aa l).line)).str,.slice ((⟨none,0,none,0⟩:EA)).a ((nd 6 (aa l).line)).args.length ((⟨none,0,none,0⟩:EA)).c,.slice ((⟨none,0,none,0⟩:EA)).fa ((nd 6 (aa l).line)).funcs.length ((⟨none,0,none,0⟩:EA)).fc]) (by have k8:=fun j=>ac (eL HRS.out (.int .i64 6) (.int .i64 0) (.int .i64 (aa l).line) (.int .i64 0) (.int .i64 0) (.string ⟨#[]⟩) (.slice none 0 0) (.slice none 0 0)) j;have s0:=k8 0;have s1:=k8 1;have s2:=k8 2;have s3:=k8 3;have s4:=k8 4;have s5:=k8 5;have s6:=k8 6;have s7:=k8 7;simp [results,Tryz.results126,go_sem,krz,s0,s1,s2,s3,s4,s5,s6,s7];(try exact ⟨rfl,rfl,rfl,rfl,rfl,rfl,rfl,rfl⟩)) rfl ?_;exact pO
  · refine bodyPost_ret (v:=.agg #[.int .i64 x.kind,.int .i64 x.op,.int .i64 x.line,.int .i64 x.p,.int .i64 x.q,.string x.str,.slice d.a x.args.length d.c,.slice d.fa x.funcs.length d.fc]) (by have k8:=fun j=>ac (eL HRS.out (.int .i64 x.kind) (.int .i64 x.op) (.int .i64 x.line) (.int .i64 x.p) (.int .i64 x.q) (.string x.str) (.slice d.a x.args.length d.c) (.slice d.fa x.funcs.length d.fc)) j;have s0:=k8 0;have s1:=k8 1;have s2:=k8 2;have s3:=k8 3;have s4:=k8 4;have s5:=k8 5;have s6:=k8 6;have s7:=k8 7;simp [results,Tryz.results126,go_sem,krz,s0,s1,s2,s3,s4,s5,s6,s7];(try exact ⟨rfl,rfl,rfl,rfl,rfl,rfl,rfl,rfl⟩)) rfl ?_;exact ai.yes HR gw (HA.out.ca kw) ⟨d,rfl,HX9.out.keep kx (fr (gw:Gs C.p w w7).size)⟩
  · refine bodyPost_ret (v:=.agg #[.int .i64 (x.1).kind,.int .i64 (x.1).op,.int .i64 (x.1).line,.int .i64 (x.1).p,.int .i64 (x.1).q,.string (x.1).str,.slice d.a (x.1).args.length d.c,.slice d.fa (x.1).funcs.length d.fc]) (by have k8:=fun j=>ac (ax (eL HRS.out (.int .i64 (x.1).kind) (.int .i64 (x.1).op) (.int .i64 (x.1).line) (.int .i64 (x.1).p) (.int .i64 (x.1).q) (.string (x.1).str) (.slice d.a (x.1).args.length d.c) (.slice d.fa (x.1).funcs.length d.fc)) (.cells #[.int .i64 (x.1).kind,.int .i64 (x.1).op,.int .i64 (x.1).line,.int .i64 (x.1).p,.int .i64 (x.1).q,.string (x.1).str,.slice d.a (x.1).args.length d.c,.slice d.fa (x.1).funcs.length d.fc] 37)) j;have s0:=k8 0;have s1:=k8 1;have s2:=k8 2;have s3:=k8 3;have s4:=k8 4;have s5:=k8 5;have s6:=k8 6;have s7:=k8 7;simp [results,Tryz.results126,go_sem,krz,s0,s1,s2,s3,s4,s5,s6,s7];(try exact ⟨rfl,rfl,rfl,rfl,rfl,rfl,rfl,rfl⟩)) rfl ?_;exact ai.yes HR gw (HA.out.ca kw) ⟨d,rfl,HX9.out.keep kx (fr (gw:Gs C.p w w8).size)⟩
theorem AM {C:PC} {E:EF} {n:Nat} (hE:EC C E n) (hL:SE E) (hN:dO C.L):tn C E n:=by
  intro l w hc hb hl h;exfalso;unfold eX at hc;rw [hb,xb (s:=[123]) hN h (by simp [ij])] at hc;have h9:=xc hN h;simp at hc;exact h9 hc
abbrev lQ (E:EF) (x:Ex × Bool) (l:List Tk):az (Ex × Bool):=ez E (l.length+1) x.1 x.2 l
theorem Hn (E:EF) (l:List Tk):fj E l=if ar [40] l=true then (E 0 l.tail).bind fun e l1=>(bz [41] l1).bind fun _ l2=>lQ E (if jI e.kind=true then ck 19 (aa l).line [e] else e,true) l2
    else (bI l).bind fun n l1=>lQ E (bE 7 n.line n.text,false) l1:=by
  unfold fj oF;rw [jo];by_cases h:ar [40] l=true
  · rw [if_pos h,if_pos h,fS];refine jn fun e l1=>?_;rw [fS];rfl
  · rw [if_neg h,if_neg h,fS];rfl
theorem Jb (E:EF) (n:Nat) (e:Ex) (b:Bool) (l:List Tk):ez E (n+1) e b l =
    if ar [46] l=true then (bI l.tail).bind fun k l1=>ez E n (ck 8 (aa l).line [e,bE 5 k.line k.text]) false l1
    else if ar [91] l=true then (E 0 l.tail).bind fun k l1=>(bz [93] l1).bind fun _ l2=>ez E n (ck 8 (aa l).line [e,k]) false l2
    else if ar [58] l=true then (bI l.tail).bind fun k l1=>if eX l1=true then (gA E e l1).bind fun a l2=>ez E n (.mk 10 0 (aa l1).line 0 0 k.text a []) false l2 else .bad l1
    else if eX l=true then (gA E e l).bind fun a l1=>ez E n (ck 9 (aa l).line a) false l1
    else .ok (e,b) l:=by rw [ez]
structure dB (C:PC) (w wr:World) (x:Ex) (d:EA):Prop where
  gs:Gs C.p w wr
  p1:C.p<w.heap.size
  bw:w.heap.size+1<wr.heap.size
  res:wr.heap[w.heap.size]?=some (.cells kO 37)
  box:wr.heap[w.heap.size+1]?=some (.cells #[.int .i64 x.kind,.int .i64 x.op,.int .i64 x.line,.int .i64 x.p,.int .i64 x.q,.string x.str,.slice d.a x.args.length d.c,.slice d.fa x.funcs.length d.fc] 37)
  at_:x.At (ay (w.heap.size+2)) wr d
theorem dB.go {C:PC} {w wr w':World} {x:Ex} {d:EA} (h:dB C w wr x d) (hg:Gs C.p wr w'):dB C w w' x d:=by
  have h1:=h.p1;exact ⟨hg.thru h.gs,h1,KS h.bw hg.size,hg.box h.res (by omega),hg.box h.box (by omega),h.at_.keep (hg.keep (by simp [ay];omega)) (fun _ h=>h)⟩
abbrev st8 (w:World) (b:Nat) (v0 v1 v2 v3 v4 v5 v6 v7:Value):World :=
  ((((((((w.setCell ⟨b,0,none⟩ v0).setCell ⟨b,1,none⟩ v1).setCell ⟨b,2,none⟩ v2).setCell ⟨b,3,none⟩ v3).setCell ⟨b,4,none⟩ v4).setCell ⟨b,5,none⟩ v5).setCell ⟨b,6,none⟩ v6).setCell ⟨b,7,none⟩ v7)
theorem dJ (w:World) (b:Nat) (v0 v1 v2 v3 v4 v5 v6 v7:Value):(st8 w b v0 v1 v2 v3 v4 v5 v6 v7).heap.size=w.heap.size:=by simp [st8]
theorem Gs.st8 {p b:Nat} {w w':World} (h:Gs p w w') (hb:w.heap.size≤b) (v0 v1 v2 v3 v4 v5 v6 v7:Value):Gs p w (st8 w' b v0 v1 v2 v3 v4 v5 v6 v7) :=
  Gs.set (Gs.set (Gs.set (Gs.set (Gs.set (Gs.set (Gs.set (Gs.set h (.inr hb) _) (.inr hb) _) (.inr hb) _) (.inr hb) _) (.inr hb) _) (.inr hb) _) (.inr hb) _) (.inr hb) _
theorem af.st8 {F:Nat→Prop} {b:Nat} {w w':World} (h:af F w w') (hb:¬ F b) (v0 v1 v2 v3 v4 v5 v6 v7:Value):af F w (st8 w' b v0 v1 v2 v3 v4 v5 v6 v7) :=
  af.set (af.set (af.set (af.set (af.set (af.set (af.set (af.set h hb _) hb _) hb _) hb _) hb _) hb _) hb _) hb _
theorem ki {w:World} {b c:Nat} {o:Option Obj} (h:w.heap[c]?=o) (hne:b≠c) (v0 v1 v2 v3 v4 v5 v6 v7:Value):(st8 w b v0 v1 v2 v3 v4 v5 v6 v7).heap[c]?=o :=
  bS (bS (bS (bS (bS (bS (bS (bS h hne) hne) hne) hne) hne) hne) hne) hne
theorem dB.set {C:PC} {w wr:World} {x y:Ex} {d dy:EA} (h:dB C w wr x d) (hy:y.At (ay (w.heap.size+2)) wr dy) :
    dB C w (st8 wr (w.heap.size+1) (.int .i64 y.kind) (.int .i64 y.op) (.int .i64 y.line) (.int .i64 y.p) (.int .i64 y.q) (.string y.str) (.slice dy.a y.args.length dy.c) (.slice dy.fa y.funcs.length dy.fc)) y dy:=by
  refine ⟨h.gs.st8 (Nat.le_succ _) _ _ _ _ _ _ _ _,h.p1,by rw [dJ];exact h.bw,ki h.res (by omega) _ _ _ _ _ _ _ _,eL h.box _ _ _ _ _ _ _ _,hy.keep (af.st8 (af.refl _ _) (by simp [ay]) _ _ _ _ _ _ _ _) (fun _ h=>h)⟩
theorem dB.put {C:PC} {w wr W:World} {x y:Ex} {d dy:EA} (h:dB C w wr x d)
    (hW:Gs C.p (st8 wr (w.heap.size+1) (.int .i64 y.kind) (.int .i64 y.op) (.int .i64 y.line) (.int .i64 y.p) (.int .i64 y.q) (.string y.str) (.slice dy.a y.args.length dy.c) (.slice dy.fa y.funcs.length dy.fc)) W) (hy:y.At (ay (w.heap.size+2)) W dy):dB C w W y dy:=by
  have h1:=h.p1;exact ⟨hW.thru (h.gs.st8 (Nat.le_succ _) _ _ _ _ _ _ _ _),h1,KS (by rw [dJ];exact h.bw) hW.size,hW.box (ki h.res (by omega) _ _ _ _ _ _ _ _) (by omega),hW.box (eL h.box _ _ _ _ _ _ _ _) (by omega),hy⟩
theorem dB.alloc {C:PC} {w wr:World} {x:Ex} {d:EA} (h:dB C w wr x d) (o:Obj):dB C w (wr.alloc o) x d:=h.go ((Gs.refl _ _).alloc o)
theorem PC.At.alloc {C:PC} {w:World} {l:List Tk} (h:C.At w l) (o:Obj):C.At (w.alloc o) l:=h.ca ((af.refl _ _).alloc o)
theorem PC.At.st8 {C:PC} {w:World} {l:List Tk} (h:C.At w l) {b:Nat} (hb:C.p<b) (v0 v1 v2 v3 v4 v5 v6 v7:Value):C.At (st8 w b v0 v1 v2 v3 v4 v5 v6 v7) l :=
  h.ca (af.st8 (af.refl _ _) (by simp;omega) _ _ _ _ _ _ _ _)
theorem sd {C:PC} {E:EF} {n:Nat} (hE:EC C E n) (hL:SE E) (hN:dO C.L) (l:List Tk) (w:World) (hl:l.length≤n) (h:C.At w l) :
    Calls Tryz.prog 128 #[co C] w (ai C xy (fj E l) w):=by
  have HA:=hI h;have hp:=h.lt;have hl6:=h.len;have hpn:w.heap.size≠C.p:=by omega
  have HE:=hI hE;have HL:=hI hL;have HN:=hI hl;have HP:=hI (AM hE hL hN);have HW:=hI h.nextW;generalize hR:fj E l=R;have HR:=hI (hR.symm.trans (Hn E l));clear hR h hE hL hl hN;have tf1:=fun t=>iu t;have tf2:=fun t=>mg t;have mlt:=fun (y:Ex) (d:EA) (w:World)=>rI y d w
  go_enter Tryz.func128,Tryz.ntmps128
  go_upto_if 16 with (first
    | (go_at_call 87;(with_reducible refine (cP C l _ (HA.out.ca kw)).mono ?_);rintro e w2 ⟨rfl,hb2⟩;have HA:=hI ((HA.out.ca kw).mv hb2);have hz2:=hb2.size;simp at hz2;have HRS:=hI (aD hb2 (ax (aA rfl) _));have HEB:=hI (aD hb2 (aA (b:=w.heap.size+1) (by simp))))
    | (go_at_call 57;(with_reducible refine (pm C [40] l _ (HA.out.ca kw)).mono ?_);rintro e w3 ⟨rfl,hA3,hg3⟩;have HA:=hI hA3;clear hA3;have hz3:=hg3.size;simp at hz3;have HRS:=hI (hg3.box (ax HRS.out _) (by omega));have HEB:=hI (hg3.box (ax HEB.out _) (by omega));have HTK:=hI (hg3.box (aA rfl) (by omega))))
  go_cut [5] (fun v wx=>∃ (x:Ex) (b:Bool) (l1:List Tk) (d:EA),v=.bool b∧Hid (dB C w wx x d)∧Hid (R=ez E (l1.length+1) x b l1)∧Hid (C.At wx l1)∧l1.length+1≤l.length)
  case first =>
    have hPH:=hI (show dB C w w3 default ⟨none,0,none,0⟩ from ⟨gw,hp,by omega,HRS.out,HEB.out,jF ⟨aT,aT,aT,aT,aT,cm⟩⟩);cases hb:ar [40] l
    · rw [hb] at HR HA
      replace HR:=hI (show R=(bI l).bind fun n l1=>lQ E (bE 7 n.line n.text,false) l1 from HR.out)
      replace HA:=hI (show C.At w3 l from HA.out)
      clear hb
      go_wp2_with (first
        | (go_at_call 97;(with_reducible refine (ai.step HR (ii C l _ (HA.out.ca kw))).mono ?_);rintro e w4 (⟨l4,rfl,HR,hg4⟩|⟨x4,l4,u,rfl,⟨rfl,hw4⟩,HM4,HR,HA,hg4⟩);rotate_left);(have HW4:=hI hw4;clear hw4;have hPH:=hI (hPH.out.go hg4);have hz4:=hg4.size;have HEB:=hI hPH.out.box;have ke:=fun i=>ac HEB.out i;have kef:=fun i=>ag HEB.out i;have kez:=ae HEB.out))
      case inl=>exact ⟨rfl,ai.no HR gw⟩
      go_meet
      have hs:=du _ _ _ HM4.out
      case rel=>exact ⟨_,_,l4,⟨none,0,none,0⟩,rfl,hI ((hPH.out.set (y:=bE 7 x4.line x4.text) (dy:=⟨none,0,none,0⟩) (jF ⟨⟨by decide,by decide⟩,aT,HW4.out.2.2,aT,aT,HW4.out.1⟩)).alloc _),HR,hI ((HA.out.st8 (by omega) _ _ _ _ _ _ _ _).alloc _),hs⟩
    · rw [hb] at HR HA
      replace HR:=hI (show R=(E 0 l.tail).bind fun e l1=>(bz [41] l1).bind fun x l2=>lQ E (if jI e.kind=true then ck 19 (aa l).line [e] else e,true) l2 from HR.out)
      replace HA:=hI (show C.At w3 l.tail from HA.out)
      have ht:=bO hb;clear hb
      go_wp2_with (first
        | (go_at_call 94;(with_reducible refine (ai.step HR (HE.out 0 l.tail _ (by omega) (by omega) (by have:=HN.out;omega) (HA.out.ca kw))).mono ?_);rintro e w4 (⟨l4,rfl,HR,hg4⟩|⟨x4,l4,u,rfl,⟨d4,rfl,hx4⟩,HM4,HR,HA,hg4⟩);rotate_left);(have HX4:=hI hx4;clear hx4;have hPH:=hI (hPH.out.go hg4);have HTK:=hI (hg4.box HTK.out (by omega));have hz4:=hg4.size;have HEB:=hI hPH.out.box;have ke:=fun i=>ac HEB.out i;have kef:=fun i=>ag HEB.out i;have kez:=ae HEB.out)
        | (go_at_call 95;(with_reducible refine (ai.step HR (gi C [41] l4 _ (HA.out.st8 (b:=w.heap.size+1) (by omega) _ _ _ _ _ _ _ _))).mono ?_);rintro e w5 (⟨l5,rfl,HR,hg5⟩|⟨x5,l5,u,rfl,⟨rfl,-⟩,HM5,HR,HA,hg5⟩);rotate_left);(have HQ:=hI ((hPH.out.set (HX4.out.keep (af.refl _ _) (fr (by omega)))).go hg5);have HTK:=hI (hg5.box (ki HTK.out (by omega) _ _ _ _ _ _ _ _) (by omega));have hz5:=hg5.size;rw [dJ] at hz5;have HEB:=hI HQ.out.box;have ke:=fun i=>ac HEB.out i;have kef:=fun i=>ag HEB.out i;have kez:=ae HEB.out;have kt:=fun i=>ac HTK.out i;have ktf:=fun i=>ag HTK.out i;have ktz:=ae HTK.out;have hPH:=HQ;clear HQ)
        | (go_at_call 159;(with_reducible refine (rI x4 d4 _).mono ?_);rintro e w6 ⟨rfl,hb6⟩;have HA:=hI (HA.out.mv hb6);have hPH:=hI (hPH.out.go (Gs.of_below hb6));have HEB:=hI hPH.out.box;have HTK:=hI (aD hb6 HTK.out);have hz6:=hb6.size;have ke:=fun i=>ac HEB.out i;have kef:=fun i=>ag HEB.out i;have kez:=ae HEB.out;have kt:=fun i=>ac HTK.out i;have ktf:=fun i=>ag HTK.out i;have ktz:=ae HTK.out;cases hm:jI x4.kind <;> (have HMU:=hI hm;clear hm)))
      case inl=>exact ⟨rfl,ai.no HR gw⟩
      case inl=>exact ⟨rfl,ai.no HR gw⟩
      · go_meet
        have hs4:l4.length+1≤l.tail.length:=HL.out 0 _ _ _ HM4.out;have hs5:l5.length+1≤l4.length:=bZ _ _ _ _ HM5.out
        case rel=>exact ⟨x4,true,l5,d4,rfl,hPH,hI (show R=lQ E (x4,true) l5 from by rw [HR.out,HMU.out];rfl),HA,by omega⟩
      · go_meet
        have hs4:l4.length+1≤l.tail.length:=HL.out 0 _ _ _ HM4.out;have hs5:l5.length+1≤l4.length:=bZ _ _ _ _ HM5.out
        case rel=>exact ⟨ck 19 (aa l).line [x4],true,l5,⟨some ⟨w6.heap.size,0,none⟩,1,none,0⟩,rfl,hI (hPH.out.put ((Gs.refl _ _).alloc _) (jK (xs:=[x4]) ⟨⟨by decide,by decide⟩,aT,HW.out.2.2,aT,aT,cm⟩ (KU _) (by unfold MX;decide) (by simp) (fX (dJ _ _ _ _ _ _ _ _ _ _).symm (by rw [dJ];show _≤_;omega) (hPH.out.at_.keep (af.st8 (af.refl _ _) (by simp [ay]) _ _ _ _ _ _ _ _) (fun _ h=>h))))),hI (show R=lQ E (ck 19 (aa l).line [x4],true) l5 from by rw [HR.out,HMU.out];rfl),hI ((HA.out.st8 (by omega) _ _ _ _ _ _ _ _).alloc _),by omega⟩
  case rest =>
    obtain ⟨x,b,l1,d,rfl,hPH,HR,HA,hl1⟩:=hcut;clear HRS HEB HTK hg3 hz3;have hzw:=hPH.out.bw
    go_wp2_with fail
    go_loopg [5,8,9,10,11,12] (l1.length+1) (fun gk v5 _ _ _ _ _ wr=>∃ (x:Ex) (b:Bool) (l':List Tk) (d:EA),v5=.bool b∧l'.length<gk∧Hid (R=ez E gk x b l')∧Hid (C.At wr l')∧Hid (dB C w wr x d)∧l'.length<n)
    case atStart=>exact ⟨x,b,l1,d,rfl,Nat.lt_succ_self _,HR,HA,hPH,by have:=HN.out;omega⟩
    case round =>
    clear HA HR hPH;obtain ⟨x,b,l',d,rfl,hgk,HR,HA,hPH,hln⟩:=hrel;obtain ⟨k,rfl⟩:∃ k,gk=k+1:=⟨gk - 1,by omega⟩
    have HR:=hI (HR.out.trans (Jb E k x b l'));have hzr:=hPH.out.bw;have hgT:=hPH.out.gs;have HW:=hI HA.out.nextW;have htl:=cN l';have hl6:=HA.out.len
    go_wp2_with (first
      | (go_at_call 87;(with_reducible refine (cP C l' _ (HA.out.ca kw)).mono ?_);rintro e w4 ⟨rfl,hb4⟩;have HA:=hI (HA.out.mv hb4);have hPH:=hI (hPH.out.go (Gs.of_below hb4));have hz4:=hb4.size;have hg4:Gs C.p wr w4:=Gs.of_below hb4;clear hb4;have hPA:=hI (hPH.out.alloc (.cells #[.int .i64 (aa l').kind,.string (aa l').text,.int .i64 (aa l').line,.int .i64 (aa l').pos] 163));
          have HSB:=hI (show ∀ w',Gs C.p (w4.alloc (.cells #[.int .i64 (aa l').kind,.string (aa l').text,.int .i64 (aa l').line,.int .i64 (aa l').pos] 163)) w'→w'.heap[w4.heap.size]?=some (.cells #[.int .i64 (aa l').kind,.string (aa l').text,.int .i64 (aa l').line,.int .i64 (aa l').pos] 163) from fun w' hg=>hg.box (aA rfl) (by omega)))
      | (go_at_call 57;(with_reducible refine (dI C [46] l' _ HR (HA.out.ca kw)).mono ?_);rintro e w5 (⟨rfl,HB5,HR,HA,hg5⟩|⟨rfl,-,HR,HA,hg5⟩) <;> (have HTK:=hI (HSB.out w5 gw);have hPH:=hI (hPA.out.go (gw:Gs C.p _ w5));have HEB:=hI hPH.out.box;have ke:=fun i=>ac HEB.out i;have kef:=fun i=>ag HEB.out i;have kez:=ae HEB.out;have kt:=fun i=>ac HTK.out i;have ktf:=fun i=>ag HTK.out i;have ktz:=ae HTK.out))
      | (go_at_call 57;(with_reducible refine (dI C [91] l' _ HR (HA.out.ca kw)).mono ?_);rintro e w6 (⟨rfl,HB6,HR,HA,hg6⟩|⟨rfl,-,HR,HA,hg6⟩) <;> (have HTK:=hI (HSB.out w6 gw);have hPH:=hI (hPA.out.go (gw:Gs C.p _ w6));have HEB:=hI hPH.out.box;have ke:=fun i=>ac HEB.out i;have kef:=fun i=>ag HEB.out i;have kez:=ae HEB.out;have kt:=fun i=>ac HTK.out i;have ktf:=fun i=>ag HTK.out i;have ktz:=ae HTK.out))
      | (go_at_call 57;(with_reducible refine (dI C [58] l' _ HR (HA.out.ca kw)).mono ?_);rintro e w7 (⟨rfl,HB7,HR,HA,hg7⟩|⟨rfl,-,HR,HA,hg7⟩) <;> (have HTK:=hI (HSB.out w7 gw);have hPH:=hI (hPA.out.go (gw:Gs C.p _ w7));have HEB:=hI hPH.out.box;have ke:=fun i=>ac HEB.out i;have kef:=fun i=>ag HEB.out i;have kez:=ae HEB.out;have kt:=fun i=>ac HTK.out i;have ktf:=fun i=>ag HTK.out i;have ktz:=ae HTK.out))
      | (go_at_call 160;(with_reducible refine (tU C l' _ HR (HA.out.ca kw)).mono ?_);rintro e w8 (⟨rfl,HB8,HR,HA,hg8⟩|⟨rfl,HB8,HR,HA,hg8⟩) <;> (have HTK:=hI (HSB.out w8 gw);have hPH:=hI (hPA.out.go (gw:Gs C.p _ w8));have HEB:=hI hPH.out.box;have HRS:=hI hPH.out.res;have ke:=fun i=>ac HEB.out i;have kef:=fun i=>ag HEB.out i;have kez:=ae HEB.out;have kt:=fun i=>ac HTK.out i;have ktf:=fun i=>ag HTK.out i;have ktz:=ae HTK.out;have kr:=fun i=>ac HRS.out i;have krf:=fun i=>ag HRS.out i;have krz:=ae HRS.out))
      | (go_at_call 97;(with_reducible refine (ai.step HR (ii C l'.tail _ (HA.out.ca kw))).mono ?_);rintro e w9 (⟨l9,rfl,HR,hg9⟩|⟨x9,l9,u,rfl,⟨rfl,hw9⟩,HM9,HR,HA,hg9⟩);rotate_left);(have HW9:=hI hw9;clear hw9;have HW2:=hI HA.out.nextW;have HTK:=hI (hg9.box HTK.out (by omega));have hPH:=hI (hPH.out.go hg9);have HEB:=hI hPH.out.box;have hz9:=hg9.size;have ke:=fun i=>ac HEB.out i;have kef:=fun i=>ag HEB.out i;have kez:=ae HEB.out;have kew:=Nat.lt_of_succ_lt kez;have kt:=fun i=>ac HTK.out i;have ktf:=fun i=>ag HTK.out i;have ktz:=ae HTK.out;have hs9:l9.length+1≤l'.tail.length:=du _ _ _ HM9.out)
      | (go_at_call 94;(with_reducible refine (ai.step HR (HE.out 0 l'.tail _ (by omega) (by omega) (Nat.lt_of_le_of_lt (cN _) hln) (HA.out.ca kw))).mono ?_);rintro e w10 (⟨l10,rfl,HR,hg10⟩|⟨x10,l10,u,rfl,⟨d10,rfl,hx10⟩,HM10,HR,HA,hg10⟩);rotate_left);(have HX10:=hI hx10;clear hx10;have HTK:=hI (hg10.box HTK.out (by omega));have hPH:=hI (hPH.out.go hg10);have HEB:=hI hPH.out.box;have hz10:=hg10.size;have ke:=fun i=>ac HEB.out i;have kef:=fun i=>ag HEB.out i;have kez:=ae HEB.out;have kew:=Nat.lt_of_succ_lt kez;have kt:=fun i=>ac HTK.out i;have ktf:=fun i=>ag HTK.out i;have ktz:=ae HTK.out;have hs10:l10.length+1≤l'.tail.length:=HL.out 0 _ _ _ HM10.out)
      | (go_at_call 95;(with_reducible refine (ai.step HR (gi C [93] l10 _ (HA.out.ca kw))).mono ?_);rintro e w11 (⟨l11,rfl,HR,hg11⟩|⟨x11,l11,u,rfl,⟨rfl,-⟩,HM11,HR,HA,hg11⟩);rotate_left);(have HKB:=hI (hg11.box (aA rfl) (by omega));have HTK:=hI (hg11.box (ax HTK.out _) (by omega));have hPH:=hI ((hPH.out.alloc _).go hg11);have HEB:=hI hPH.out.box;have hz11:=hg11.size;simp at hz11;have ke:=fun i=>ac HEB.out i;have kef:=fun i=>ag HEB.out i;have kez:=ae HEB.out;have kt:=fun i=>ac HTK.out i;have ktf:=fun i=>ag HTK.out i;have ktz:=ae HTK.out;have kk:=fun i=>ac HKB.out i;have kkf:=fun i=>ag HKB.out i;have kkz:=ae HKB.out;have hs11:l11.length+1≤l10.length:=bZ _ _ _ _ HM11.out)
      | (go_at_call 160;(with_reducible refine (tU C l9 _ HR (HA.out.ca kw)).mono ?_);rintro e w12 (⟨rfl,HB12,HR,HA,hg12⟩|⟨rfl,HB12,HR,HA,hg12⟩) <;> (have HTK:=hI (hg12.box HTK.out (by omega));have hPH:=hI (hPH.out.go hg12);have HEB:=hI hPH.out.box;have hz12:=hg12.size;have ke:=fun i=>ac HEB.out i;have kef:=fun i=>ag HEB.out i;have kez:=ae HEB.out;have kew:=Nat.lt_of_succ_lt kez;have kt:=fun i=>ac HTK.out i;have ktf:=fun i=>ag HTK.out i;have ktz:=ae HTK.out))
      | (go_at_call 55;(with_reducible refine (i7 C l9 _ (HA.out.ca kw)).mono ?_);rintro e w13 ⟨rfl,hb13⟩)
      | (go_at_call 87;(with_reducible refine (cP C l9 _ (HA.out.ca kw)).mono ?_);rintro e w14 ⟨rfl,hb14⟩;have HA:=hI (HA.out.mv hb14);have hg14:Gs C.p w12 w14:=Gs.of_below hb14;have HTK:=hI (hg14.box HTK.out (by omega));have hPH:=hI (hPH.out.go hg14);have HEB:=hI hPH.out.box;have hz14:=hg14.size;have ke:=fun i=>ac HEB.out i;have kef:=fun i=>ag HEB.out i;have kez:=ae HEB.out;have kew:=Nat.lt_of_succ_lt kez;have kt:=fun i=>ac HTK.out i;have ktf:=fun i=>ag HTK.out i;have ktz:=ae HTK.out)
      | (go_at_call 161;(with_reducible refine (ai.step HR (ty HE.out HL.out HP.out x d (w.heap.size+2) l9 _ HB12.out (by omega) (HA.out.ca kw) (by omega) (by omega) hPH.out.at_)).mono ?_);rintro e w15 (⟨l15,rfl,HR,hg15⟩|⟨x15,l15,u,rfl,⟨a15,c15,rfl,h1,h2,hx15⟩,HM15,HR,HA,hg15⟩);rotate_left);(have HX15:=hI hx15;have HC15:=hI (And.intro h1 h2);clear hx15 h1 h2;have HTK:=hI (hg15.box HTK.out (by omega));have hPH:=hI (hPH.out.go hg15);have HEB:=hI hPH.out.box;have hz15:=hg15.size;have ke:=fun i=>ac HEB.out i;have kef:=fun i=>ag HEB.out i;have kez:=ae HEB.out;have kew:=Nat.lt_of_succ_lt kez;have kt:=fun i=>ac HTK.out i;have ktf:=fun i=>ag HTK.out i;have ktz:=ae HTK.out;have hs15:=qa HL.out _ _ (lq HB12.out) _ _ HM15.out;have ha15:l15.length+x15.length≤l9.length+1:=p9 HL.out _ _ (lq HB12.out) _ _ HM15.out))
    case inl=>exact ⟨rfl,ai.no HR gw⟩
    case inl=>exact ⟨rfl,ai.no HR gw⟩
    case inl=>exact ⟨rfl,ai.no HR gw⟩
    case inl=>exact ⟨rfl,ai.no HR gw⟩
    case inl=>exact ⟨rfl,ai.no HR gw⟩
    · go_roundg k
      case rel=>exact ⟨ck 8 (aa l').line [x,bE 5 x9.line x9.text],false,l9,⟨some ⟨w9.heap.size+1,0,none⟩,2,none,0⟩,rfl,by omega,HR,hI (((HA.out.st8 (by omega) _ _ _ _ _ _ _ _).alloc _).alloc _),hI (hPH.out.put (((Gs.refl _ _).alloc _).alloc _) (jK (xs:=[x,bE 5 x9.line x9.text]) ⟨⟨by decide,by decide⟩,aT,HW.out.2.2,aT,aT,cm⟩ (KU _) (by unfold MX;decide) (by simp)
        (mX (y:=bE 5 x9.line x9.text) (dy:=⟨none,0,none,0⟩) (by simp [dJ]) (by simp [ay,dJ];omega) (hPH.out.at_.keep (af.alloc (af.st8 (af.refl _ _) (by simp [ay]) _ _ _ _ _ _ _ _) _) (fun _ h=>h)) (jF ⟨⟨by decide,by decide⟩,aT,HW9.out.2.2,aT,aT,HW9.out.1⟩)))),by omega⟩
      case measure=>omega
    · go_roundg k
      case rel=>exact ⟨ck 8 (aa l').line [x,x10],false,l11,⟨some ⟨w11.heap.size,0,none⟩,2,none,0⟩,rfl,by omega,HR,hI ((HA.out.st8 (by omega) _ _ _ _ _ _ _ _).alloc _),hI (hPH.out.put ((Gs.refl _ _).alloc _) (jK (xs:=[x,x10]) ⟨⟨by decide,by decide⟩,aT,HW.out.2.2,aT,aT,cm⟩ (KU _) (by unfold MX;decide) (by simp)
        (mX (by simp [dJ]) (by simp [ay,dJ];omega) (hPH.out.at_.keep (af.st8 (af.refl _ _) (by simp [ay]) _ _ _ _ _ _ _ _) (fun _ h=>h)) (HX10.out.keep (af.st8 kx (by simp [ay];omega) _ _ _ _ _ _ _ _) (fr (by omega)))))),by omega⟩
      case measure=>omega
    · go_roundg k
      case rel=>exact ⟨.mk 10 0 (aa l9).line 0 0 x9.text x15 [],false,l15,⟨a15,c15,none,0⟩,rfl,by omega,HR,hI (HA.out.st8 (by omega) _ _ _ _ _ _ _ _),hI (hPH.out.put (y:=.mk 10 0 (aa l9).line 0 0 x9.text x15 []) (Gs.refl _ _) (jK ⟨⟨by decide,by decide⟩,aT,HW2.out.2.2,aT,aT,HW9.out.1⟩ HC15.out.1 HC15.out.2 (by omega) (HX15.out.keep (af.st8 (af.refl _ _) (by simp [ay]) _ _ _ _ _ _ _ _) (fun _ h=>h)))),by omega⟩
      case measure=>omega
    · exact ⟨rfl,ai.no HR gw⟩
    · have HTC:=hI (show ∀ w',Gs C.p w8 w'→((∀ i,w'.cell? ⟨w4.heap.size,i,none⟩=#[.int .i64 (aa l').kind,.string (aa l').text,.int .i64 (aa l').line,.int .i64 (aa l').pos][i]?)∧(∀ i,w'.cell? ⟨w.heap.size+1,i,none⟩=#[.int .i64 x.kind,.int .i64 x.op,.int .i64 x.line,.int .i64 x.p,.int .i64 x.q,.string x.str,.slice d.a x.args.length d.c,.slice d.fa x.funcs.length d.fc][i]?)) from
        fun w' hg=>⟨fun i=>ac (hg.box HTK.out (by omega)) i,fun i=>ac (hg.box HEB.out (by omega)) i⟩)
      refine cX (c:=6) (T:=(fun w'=>((∀ i,w'.cell? ⟨w4.heap.size,i,none⟩=#[.int .i64 (aa l').kind,.string (aa l').text,.int .i64 (aa l').line,.int .i64 (aa l').pos][i]?)∧(∀ i,w'.cell? ⟨w.heap.size+1,i,none⟩=#[.int .i64 x.kind,.int .i64 x.op,.int .i64 x.line,.int .i64 x.p,.int .i64 x.q,.string x.str,.slice d.a x.args.length d.c,.slice d.fa x.funcs.length d.fc][i]?)))) (by kernel_rfl) ?s101 ?r101
      case s101=>exact HTC.out _ gw
      intro hHeld;refine tG 0 ?_;refine lG 1 [5,6] ?_;refine tG 2 ?_;refine lG 3 [4,5,6] ?_;have hdz:w.heap.size+2≤w8.drew.heap.size:=kez;refine aC (rs:=[4]) (by kernel_rfl) (by simp) ?_;refine ah.cons rfl (fun K hK=>?_) ah.nil
      go_simp
      go_at_call 161;(with_reducible refine (ai.step HR (ty HE.out HL.out HP.out x d (w.heap.size+2) l' w8.drew HB8.out hln (HA.out.ca kw) (by omega) hdz (hPH.out.at_.keep kx (fun _ h=>h)))).mono ?_);rintro e w15 (⟨l15,rfl,HR,hg15⟩|⟨x15,l15,u,rfl,⟨a15,c15,rfl,h1,h2,hx15⟩,HM15,HR,HA,hg15⟩)
      · go_wp2_with fail
        exact ⟨rfl,ai.no HR gw⟩
      have HX15:=hI hx15;have HC15:=hI (And.intro h1 h2);clear hx15 h1 h2;have hPH:=hI (hPH.out.go (gw:Gs C.p w8 w15));have HEB:=hI hPH.out.box;have hs15:=qa HL.out _ _ (lq HB8.out) _ _ HM15.out;have ha15:l15.length+x15.length≤l'.length+1:=p9 HL.out _ _ (lq HB8.out) _ _ HM15.out;have ke:=fun i=>ac HEB.out i;have kef:=fun i=>ag HEB.out i;have kez:=ae HEB.out
      go_wp2_with fail
      refine hK.out _ _ ?s106 ?r106
      case s106=>exact HTC.out _ gw
      intro hHeld;clear hK K
      try simp only [Act.put,al,am,ap]
      refine aC (rs:=[5]) (by kernel_rfl) (by simp) ?_;refine ah.cons rfl (fun K hK=>?_) ah.nil
      go_simp
      refine hK.out _ _ ?s107 ?r107
      case s107=>exact HTC.out _ gw
      intro hHeld;clear hK K
      try simp only [Act.put,al,am,ap]
      refine aC (rs:=[6]) (by kernel_rfl) (by simp) ?_;refine ah.late rfl (by kernel_rfl) (fun K hK=>?_) ah.nil
      go_simp
      refine hK.out _ _ ?_;clear hK K
      try simp only [Act.put,al,am,ap]
      refine cJ (by kernel_rfl) ?_ _
      go_wp2_with fail
      go_roundg k
      case rel=>exact ⟨ck 9 (aa l').line x15,false,l15,⟨a15,c15,none,0⟩,rfl,by omega,HR,hI (HA.out.st8 (by omega) _ _ _ _ _ _ _ _),hI (hPH.out.put (y:=ck 9 (aa l').line x15) (Gs.refl _ _) (jK ⟨⟨by decide,by decide⟩,aT,HW.out.2.2,aT,aT,cm⟩ HC15.out.1 HC15.out.2 (by omega) (HX15.out.keep (af.st8 (af.refl _ _) (by simp [ay]) _ _ _ _ _ _ _ _) (fun _ h=>h)))),by omega⟩
      case measure=>omega
    · refine bodyPost_ret (v:=.tuple #[.agg #[.int .i64 x.kind,.int .i64 x.op,.int .i64 x.line,.int .i64 x.p,.int .i64 x.q,.string x.str,.slice d.a x.args.length d.c,.slice d.fa x.funcs.length d.fc],.bool b]) (by have k8:=fun j=>ac (eL HRS.out (.int .i64 x.kind) (.int .i64 x.op) (.int .i64 x.line) (.int .i64 x.p) (.int .i64 x.q) (.string x.str) (.slice d.a x.args.length d.c) (.slice d.fa x.funcs.length d.fc)) j;have s0:=k8 0;have s1:=k8 1;have s2:=k8 2;have s3:=k8 3;have s4:=k8 4;have s5:=k8 5;have s6:=k8 6;have s7:=k8 7;simp [results,Tryz.results128,go_sem,krz,s0,s1,s2,s3,s4,s5,s6,s7];(try exact ⟨rfl,rfl,rfl,rfl,rfl,rfl,rfl,rfl⟩)) rfl ?_;exact ai.yes HR gw (HA.out.ca kw) ⟨d,rfl,hPH.out.at_.keep (af.st8 (af.refl _ _) (by simp [ay]) _ _ _ _ _ _ _ _) (fr (by omega))⟩
