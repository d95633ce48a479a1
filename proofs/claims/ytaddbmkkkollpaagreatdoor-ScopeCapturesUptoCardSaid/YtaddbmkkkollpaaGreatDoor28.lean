import Derived.Test.YtaddbmkkkollpaaGreatDoor30
import Derived.Test.YtaddbmkkkollpaaGreatDoorT8
import Derived.Test.YtaddbmkkkollpaaGreatDoorJ0
set_option linter.all false
namespace Go.Proofs.YtaddbmkkkollpaaGreatDoor
set_option maxHeartbeats 4000000
set_option maxRecDepth 100000
open Go.RowKit
theorem Jl (x:Ex):(bn x).length=(aQ x.args).length+(x.funcs.flatMap cW).length:=by rw [yq,List.length_append]
theorem Jq (f:Fn):(cW f).length=1+(aF f.body).length:=by rw [su,List.length_cons];omega
theorem nR:∀ a b:List (List Nat),(cY a b).length=a.flatten.length+b.flatten.length
  | [],[]=>by simp [cY]
  | x::r,[]=>by have:=nR r [];simp [cY] at this ⊢;omega
  | [],y::s=>by have:=nR [] s;simp [cY] at this ⊢;omega
  | x::r,y::s=>by have:=nR r s;simp [cY] at this ⊢;omega
theorem Ju (s:St):(dY s).length=(aQ s.left).length+(aQ s.right).length+(s.blocks.flatMap aF).length:=by
  rw [yu,List.length_append];split
  · rw [List.length_append];omega
  · split
    · rw [List.length_append];omega
    · rw [nR,←List.flatMap_def,←List.flatMap_def];simp only [aQ];omega
theorem kj {α:Type} {g:α→List Nat} {l:List α} {k:Nat} {x:α} (h:l[k]?=some x):((l.take (k+1)).flatMap g).length=((l.take k).flatMap g).length+(g x).length:=by
  rw [iY h,List.flatMap_append,List.length_append];simp
theorem lw {α:Type} {g:α→List Nat} (l:List α) (k:Nat):((l.take k).flatMap g).length≤(l.flatMap g).length:=by
  have h:l.flatMap g=(l.take k).flatMap g++(l.drop k).flatMap g:=by rw [←List.flatMap_append,List.take_append_drop]
  rw [h,List.length_append];omega
abbrev Ow (base m:Nat) (v:Value) (w:World):Prop:=∃ ys,w.ownsRow base 81 5 v m ys
structure Fw (base m:Nat) (v0:Value) (w0:World) (v:Value) (w:World):Prop where
  own:Ow base m v w
  gr:Gr v0.ownBlock w0 w
  ob:∀ j,v.ownBlock=some j→v0.ownBlock=some j∨w0.heap.size≤j
theorem Fw.thru {base m m':Nat} {v0 v1 v2:Value} {w0 w1 w2:World} (k:Fw base m' v1 w1 v2 w2) (h:Fw base m v0 w0 v1 w1):Fw base m' v0 w0 v2 w2 :=
  ⟨k.own,⟨k.gr.os.trans h.gr.os,k.gr.tape.trans h.gr.tape,k.gr.output.trans h.gr.output,KT h.gr.size k.gr.size,fun i hi hn=>(k.gr.block i (KS hi h.gr.size) (fun he=>by
    rcases h.ob i he.symm with h1|h1
    · exact hn h1.symm
    · omega)).trans (h.gr.block i hi hn)⟩,fun j hj=>by
    rcases k.ob j hj with h1|h1
    · exact h.ob j h1
    · exact .inr (KT h.gr.size h1)⟩
theorem Fw.of {base m:Nat} {v:Value} {w:World} (h:Ow base m v w):Fw base m v w v w:=⟨h,Gr.refl _ _,fun j hj=>.inl hj⟩
theorem Fw.below {base m:Nat} {v0 v:Value} {w0 w w':World} (h:Fw base m v0 w0 v w) (hb:Below w.heap.size w w'):Fw base m v0 w0 v w':=by
  obtain ⟨ys,h1⟩:=h.own;exact ⟨⟨ys,own_below h1 hb⟩,Gr.below hb h.gr,h.ob⟩
theorem Fw.box {base m b:Nat} {v0 v:Value} {w0 w:World} {o:Obj} (h:Fw base m v0 w0 v w) (hb:w0.heap[b]?=some o) (hne:some b≠v0.ownBlock):w.heap[b]?=some o:=h.gr.box hb hne
theorem GS {base m b:Nat} {v:Value} {w:World} (h:Ow base m v w) (hb:w.heap.size≤b):some b≠v.ownBlock:=fun he=>by
  obtain ⟨ys,h1⟩:=h;have:=(h1.lt b he.symm).2;omega
theorem Fw.keep {base m m0:Nat} {v0 v:Value} {w0 w:World} (h:Fw base m v0 w0 v w) (h0:Ow base m0 v0 w0):af (fun k=>k<base) w0 w:=by
  obtain ⟨ys,h1⟩:=h0;exact ⟨h.gr.size,fun k hk hl=>h.gr.block k hl (fun he=>by have:=(h1.lt k he.symm).1;have hk':k<base:=hk;omega)⟩
theorem xi {base m:Nat} {e:TypeId} {sz:Nat} {v:Value} {w:World} {ys:List Value} (h:w.ownsRow base e sz v m ys):∃ a c,v=.slice a m c:=by
  rcases h.2 with ⟨rfl,rfl⟩|⟨g,cap,cur,rfl,-⟩
  · exact ⟨none,0,rfl⟩
  · exact ⟨_,_,rfl⟩
theorem Hw {base m:Nat} {v:Value} {w w2:World} {y:Fn} {dy:FA} {ops:Array Oper} {rest:List Oper} {o:Oper} {a:Act} {Q:Exit→Act→World→Prop} (HO:Ow base m v w) (hb:base≤w.heap.size) (hm:m≤1073741824) (hw2:w2=w.alloc (.cells #[.string y.name,.slice dy.a y.params.length dy.c,.bool y.vararg,.slice dy.ba y.body.length dy.bc,.int .i64 y.line] 81))
    (hgd:o.guard=none) (s x:Operand) (hop:o.op=.call { callee:=.builtin .append,args:=#[s,x],argTypes:=#[35,35] }) (hs:a.eval s=v) (hx:a.eval x=.slice (some ⟨w.heap.size,0,none⟩) 1 1)
    (h:∀ v' w',Fw base (m+1) v w v' w'→wpList Tryz.prog ops Q rest (a.put o.dst v') w'):wpList Tryz.prog ops Q (o::rest) a w2:=by
  subst hw2;obtain ⟨ys,h1⟩:=HO;obtain ⟨i0,hi,hz0,hz1,hz2⟩:=info_parts vK;refine ms _ hgd s x 35 hop base 81 i0 _ 5 80 Tryz.underlying35 hi hz0 hz1 hz2 rfl (by decide) v m ys hs (own_below h1 (aH (Below.refl _ _) _)) ⟨w.heap.size,0,none⟩ 1 1 (y.cells dy) hx rfl (fun j u hu=>lK rfl j u hu) ?_ (by decide) (by unfold maxLen;omega) (by omega) (by simp;omega) ?_
  · intro u hu;simp only [Fn.cells,List.mem_cons,List.not_mem_nil,or_false] at hu;rcases hu with rfl|rfl|rfl|rfl|rfl <;> rfl
  · intro v' w' h2 h3 h4;refine h v' w' ⟨⟨_,h2⟩,(⟨h3.os,h3.tape,h3.output,h3.size,h3.block⟩:Gr v.ownBlock _ w').thru (Gr.of_below (aH (Below.refl _ _) _)),fun j hj=>?_⟩;rcases h4 j hj with h5|h5
    · exact .inl h5.symm
    · right;simp at h5;omega
def mA (n:Nat):Prop:=∀ (b:List St) (a:Option Addr) (c base m:Nat) (v:Value) (w:World),(∀ x ∈ b,x.sz≤n)→b.length≤c→c≤MX→St.Ats (fun k=>k<base) w b a→Ow base m v w→base≤w.heap.size→m+(aF b).length≤1073741824→Calls Tryz.prog 33 #[v,.slice a b.length c] w fun e w'=>∃ v',e=.returned v'∧Fw base (m+(aF b).length) v w v' w'
def nV (n:Nat):Prop:=∀ (l:List Ex) (a:Option Addr) (c base m:Nat) (v:Value) (w:World),(∀ x ∈ l,x.sz≤n)→l.length≤c→c≤MX→Ex.Ats (fun k=>k<base) w l a→Ow base m v w→base≤w.heap.size→m+(aQ l).length≤1073741824→Calls Tryz.prog 48 #[v,.slice a l.length c] w fun e w'=>∃ v',e=.returned v'∧Fw base (m+(aQ l).length) v w v' w'
def zQ (n:Nat):Prop:=∀ (l:List (List St)) (a:Option Addr) (c base m:Nat) (v:Value) (w:World),(∀ b ∈ l,∀ x ∈ b,x.sz≤n)→l.length≤c→c≤MX→St.Atss (fun k=>k<base) w l a→Ow base m v w→base≤w.heap.size→m+(l.flatMap aF).length≤1073741824→Calls Tryz.prog 49 #[v,.slice a l.length c] w fun e w'=>∃ v',e=.returned v'∧Fw base (m+(l.flatMap aF).length) v w v' w'
theorem sH {P:Prop} (h:P:=by
  have hke:k=l.length:=by have:=HK.out;omega
  subst hke
  go_wp2_with fail
  go_ret;exact ⟨_,rfl,by have:=HF.out;rw [List.take_length] at this;exact this⟩):P:=h
theorem CW {n:Nat} (hS:mA n):zQ n:=by
  intro l a c base m v w hsz hlc hcm hat hO hbs hbd;have hrow:=St.atss_iff.1 hat;clear hat;have HSZ:=hI hsz;have HROW:=hI hrow;have HO:=hI hO;have HBD:=hI hbd;have HBS:=hI hbs;unfold MX at hcm;have hlen:l.length≤9223372036854775807:=by omega
  clear hsz hrow hO hbd hbs
  go_enter Tryz.func49,Tryz.ntmps49
  go_wp2_with fail
  go_loopg [0,5] l.length (fun gk u i wr=>∃ k:Nat,gk+k=l.length∧i=.int .i64 k∧Hid (Fw base (m+((l.take k).flatMap aF).length) v w u wr))
  case atStart=>exact ⟨0,by omega,rfl,hI (Fw.of HO.out)⟩
  case round =>
    obtain ⟨k,hkk,rfl,HF⟩:=hrel;have HK:=hI hkk;clear hkk;by_cases hlt:k<l.length
    · obtain ⟨y,hy⟩:∃ y,l[k]?=some y:=⟨_,KP hlt⟩
      obtain ⟨ab,ao,h1,h2⟩:=HROW.out;obtain ⟨hda,hF,hlb⟩:=h1 (by intro h0;rw [h0] at hlt;simp at hlt);subst hda;obtain ⟨cs,hr,fa,fc,rfl,hq,haty⟩:=h2 k y hy;have hk:=HF.out.keep HO.out;have c0:=(hk.range hF hlb hr) 0 _ rfl;simp only [Nat.mul_one,Nat.add_zero] at c0;have hle:=lw (g:=aF) l (k+1);have hct:=kj (g:=aF) hy;have HC:=hI (hS y fa fc base _ u0 wr (fun s hs=>HSZ.out y (KR hy) s hs) hq.1 hq.2.1 (St.Ats.keep hk (fun _ h=>h) haty) HF.out.own (KT HBS.out HF.out.gr.size) (by have:=HBD.out;omega));have HT:=hI hct;clear h1 h2 hr haty hq hy hk hle hct
      go_wp2_with (go_at_call 33;(with_reducible refine HC.out.mono ?_);rintro e w1 ⟨v1,rfl,hf1⟩;have HF1:=hI (hf1.thru HF.out);clear hf1)
      go_roundg (gk - 1)
      case rel=>exact ⟨k+1,by have:=HK.out;omega,by go_num,hI (by rw [HT.out,←Nat.add_assoc];exact HF1.out)⟩
      case measure=>have:=HK.out;omega
    · exact sH
theorem vx {n':Nat} (H:∀ n,n'=n+1→nV n∧mA n):nV n':=by
  intro l a c base m v w hsz hlc hcm hat hO hbs hbd;have hrow:=Ex.ats_iff.1 hat;clear hat;have HSZ:=hI hsz;have HROW:=hI hrow;have HO:=hI hO;have HBD:=hI hbd;have HBS:=hI hbs;unfold MX at hcm;have hlen:l.length≤9223372036854775807:=by omega
  clear hsz hrow hO hbd hbs
  go_enter Tryz.func48,Tryz.ntmps48
  go_wp2_with fail
  go_loopg [0,5] l.length (fun gk u i wr=>∃ k:Nat,gk+k=l.length∧i=.int .i64 k∧Hid (Fw base (m+((l.take k).flatMap bn).length) v w u wr))
  case atStart=>exact ⟨0,by omega,rfl,hI (Fw.of HO.out)⟩
  case round =>
    obtain ⟨k,hkk,rfl,HF⟩:=hrel;have HK:=hI hkk;clear hkk;by_cases hlt:k<l.length
    · obtain ⟨y,hy⟩:∃ y,l[k]?=some y:=⟨_,KP hlt⟩
      obtain ⟨ab,ao,h1,h2⟩:=HROW.out;obtain ⟨hda,hF,hlb⟩:=h1 (by intro h0;rw [h0] at hlt;simp at hlt);subst hda;obtain ⟨cs,hr,dy,rfl,haty⟩:=h2 k y hy;have hk:=HF.out.keep HO.out;have hr':=hk.range hF hlb hr;have c6:=hr' 6 _ rfl;have c7:=hr' 7 _ rfl;have HRG:=hI hr';have haty2:=haty.keep hk (fun _ h=>h);obtain ⟨-,⟨hl1,hl2,hf1,hf2,-⟩,hra,hrf⟩:=Ex.at_iff.1 haty2;have hysz:=HSZ.out y (KR hy);obtain ⟨n,hn⟩:∃ n,n'=n+1:=⟨n' - 1,by have:=y.sz_eq;omega⟩
      obtain ⟨hE,hS⟩:=H n hn;rw [hn] at hysz;have hle:=lw (g:=bn) l (k+1);have hct:=kj (g:=bn) hy;have hln:=Jl y;have hbd:=HBD.out;have HT:=hI hct;have HLN:=hI hln;have hm1:m+((l.take k).flatMap bn).length+(aQ y.args).length+(y.funcs.flatMap cW).length≤1073741824:=by unfold aQ at *;omega
      have HM1:=hI hm1;have HC:=hI (hE y.args dy.a dy.c base _ u0 wr (fun z hz=>by have:=Ex.args_lt hz;omega) hl1 hl2.1 (Ex.ats_iff.2 hra) HF.out.own (KT HBS.out HF.out.gr.size) (by omega));have hflen:y.funcs.length≤9223372036854775807:=by unfold MX at hf2;omega
      have HFR:=hI hrf;have HLB:=hI (KS hlb HF.out.gr.size);have HBF:=hI hF;obtain ⟨m1,hm1e⟩:∃ m1,m1=m+((l.take k).flatMap bn).length:=⟨_,rfl⟩
      rw [←hm1e] at HC HF;have HM1E:=hI hm1e;clear hn h1 h2 hr hr' haty haty2 hra hrf hy hk hle hct hln hbd hm1 hm1e;obtain ⟨g0,rfl⟩:∃ g0:Nat,g0=gk:=⟨_,rfl⟩
      obtain ⟨vo,rfl⟩:∃ vo:Value,vo=u0:=⟨_,rfl⟩
      obtain ⟨wo,rfl⟩:∃ wo:World,wo=wr:=⟨_,rfl⟩
      go_wp2_with (go_at_call 48;(with_reducible refine HC.out.mono ?_);rintro e w1 ⟨v1,rfl,hf1⟩;have HF1:=hI hf1;clear hf1)
      clear HC
      go_loopg [0,6] y.funcs.length (fun gk u i wi=>∃ j:Nat,gk+j=y.funcs.length∧i=.int .i64 j∧Hid (Fw base (m1+(aQ y.args).length+((y.funcs.take j).flatMap cW).length) vo wo u wi))
      case atStart=>exact ⟨0,by omega,rfl,hI HF1.out⟩
      case round =>
        obtain ⟨j,hjj,rfl,HI⟩:=hrel;have HJ:=hI hjj;clear hjj;have hk2:=HI.out.keep HF.out.own;have hr2:=hk2.range HBF.out HLB.out HRG.out;have e7:=hr2 7 _ rfl;have HK2:=hI hk2;have HR7:=hI hr2;have HLB2:=hI (KS HLB.out HI.out.gr.size);clear hr2 hk2;by_cases hlt2:j<y.funcs.length
        · obtain ⟨f,hf⟩:∃ f,y.funcs[j]?=some f:=⟨_,KP hlt2⟩
          obtain ⟨fb,fo,q1,q2⟩:=HFR.out;obtain ⟨hfa,hfF,hfb⟩:=q1 (by intro h0;rw [h0] at hlt2;simp at hlt2);obtain ⟨cs,hr,df,rfl,hatf⟩:=q2 j f hf;have hr':=HK2.out.range hfF hfb hr;have d0:=hr' 0 _ rfl;have d1:=hr' 1 _ rfl;have d2:=hr' 2 _ rfl;have d3:=hr' 3 _ rfl;have d4:=hr' 4 _ rfl;simp only [Nat.add_zero] at d0;obtain ⟨-,⟨-,-,hb1,hb2,-⟩,-,hrb⟩:=Fn.at_iff.1 hatf;have hfsz:∀ s ∈ f.body,s.sz≤n:=fun s hs=>by have:=Ex.body_lt (KR hf);have:=St.sz_mem hs;omega
          have hle:=lw (g:=cW) y.funcs (j+1);have hct:=kj (g:=cW) hf;have hln:=Jq f;have hm:=HM1.out;have hme:=HM1E.out;have hbz:=KT (KT HBS.out HF.out.gr.size) HI.out.gr.size;have HBZ:=hI hbz;have hmj:m1+(aQ y.args).length+((y.funcs.take j).flatMap cW).length+1+(aF f.body).length≤1073741824:=by omega
          have HMJ:=hI hmj;have HSB:=hI (show ∀ u' w',Fw base (m1+(aQ y.args).length+((y.funcs.take j).flatMap cW).length+1) u0 wr u' w'→Calls Tryz.prog 33 #[u',.slice df.ba f.body.length df.bc] w' fun e w''=>∃ v',e=.returned v'∧Fw base (m1+(aQ y.args).length+((y.funcs.take j).flatMap cW).length+1+(aF f.body).length) u' w' v' w'' from fun u' w' h=>hS f.body df.ba df.bc base _ u' w' hfsz hb1 hb2 (St.ats_iff.2 (hrb.keep (HK2.out.trans (h.keep HI.out.own) (fun _ h _=>h)) (fun _ h=>h) (fun s cs _ ⟨d,e,ha⟩=>⟨d,e,ha.keep (HK2.out.trans (h.keep HI.out.own) (fun _ h _=>h)) (fun _ h=>h)⟩))) h.own (KT HBZ.out h.gr.size) HMJ.out);have HCT:=hI hct;have HLF:=hI hln;have HFA:=hI hfa;have HRF:=hI hr';have HFF:=hI hfF;have HFB:=hI (KS hfb HI.out.gr.size);clear q1 q2 hr hr' hatf hrb hf hle hct hln hm hme hbz hmj;rw [hfa] at e7;clear hfa
          go_wp2_with (first
            | (at_builtin;go_loud (refine Hw (y:=f) (dy:=df) HI.out.own HBZ.out (by have:=HMJ.out;omega) rfl rfl _ _ rfl rfl rfl ?_;intro v2 w2 hf2;have HF2:=hI hf2;clear hf2;have g7:=((HF2.out.keep HI.out.own).range HBF.out HLB2.out HR7.out) 7 _ rfl;have g3:=((HF2.out.keep HI.out.own).range HFF.out HFB.out HRF.out) 3 _ rfl;rw [HFA.out] at g7))
            | (go_at_call 33;(with_reducible refine (HSB.out _ _ HF2.out).mono ?_);rintro e w3 ⟨v3,rfl,hf3⟩;have HF3:=hI hf3;clear hf3))
          go_roundg (gk - 1)
          case rel=>exact ⟨j+1,by have:=HJ.out;omega,by go_num,hI (by
            rw [show m1+(aQ y.args).length+((y.funcs.take (j+1)).flatMap cW).length=m1+(aQ y.args).length+((y.funcs.take j).flatMap cW).length+1+(aF f.body).length from by rw [HCT.out,HLF.out];omega];exact (HF3.out.thru HF2.out).thru HI.out)⟩
          case measure=>have:=HJ.out;omega
        · have hje:j=y.funcs.length:=by have:=HJ.out;omega
          have HJE:=hI hje;clear hje
          go_wp2_with fail
          go_roundg (g0 - 1)
          case rel=>exact ⟨k+1,by have:=HK.out;omega,by go_num,hI (by
            have h9:=HI.out;rw [HJE.out,List.take_length] at h9;have h8:=h9.thru HF.out;rw [show m+((l.take (k+1)).flatMap bn).length=m1+(aQ y.args).length+(y.funcs.flatMap cW).length from by rw [HT.out,HLN.out,HM1E.out];omega];exact h8)⟩
          case measure=>have:=HK.out;omega
    · exact sH
theorem qr {α:Type} {g:α→List Nat} {l:List α} {k:Nat} (h:l.length≤k):((l.take (k+1)).flatMap g).length=((l.take k).flatMap g).length:=by
  rw [List.take_of_length_le h,List.take_of_length_le (by omega)]
theorem vm {n':Nat} (H:∀ n,n'=n+1→nV n∧mA n):mA n':=by
  intro l a c base m v w hsz hlc hcm hat hO hbs hbd;have hrow:=St.ats_iff.1 hat;clear hat;have HSZ:=hI hsz;have HROW:=hI hrow;have HO:=hI hO;have HBD:=hI hbd;have HBS:=hI hbs;unfold MX at hcm;have hlen:l.length≤9223372036854775807:=by omega
  clear hsz hrow hO hbd hbs
  go_enter Tryz.func33,Tryz.ntmps33
  go_wp2_with fail
  go_loopg [0,5] l.length (fun gk u i wr=>∃ k:Nat,gk+k=l.length∧i=.int .i64 k∧Hid (Fw base (m+((l.take k).flatMap dY).length) v w u wr))
  case atStart=>exact ⟨0,by omega,rfl,hI (Fw.of HO.out)⟩
  case round =>
    obtain ⟨k,hkk,rfl,HF⟩:=hrel;have HK:=hI hkk;clear hkk;by_cases hlt:k<l.length
    · obtain ⟨y,hy⟩:∃ y,l[k]?=some y:=⟨_,KP hlt⟩
      obtain ⟨ab,ao,h1,h2⟩:=HROW.out;obtain ⟨hda,hF,hlb⟩:=h1 (by intro h0;rw [h0] at hlt;simp at hlt);subst hda;obtain ⟨cs,hr,d,rfl,haty⟩:=h2 k y hy;have hk:=HF.out.keep HO.out;have hr':=hk.range hF hlb hr;have c0:=hr' 0 _ rfl;have c1:=hr' 1 _ rfl;have c2:=hr' 2 _ rfl;have c3:=hr' 3 _ rfl;have c4:=hr' 4 _ rfl;have c5:=hr' 5 _ rfl;have c6:=hr' 6 _ rfl;simp only [Nat.add_zero] at c0;have haty2:=haty.keep hk (fun _ h=>h);obtain ⟨-,⟨-,-,hl1,hl2,hr1,hr2,hb1,hb2,-⟩,-,hrl,hrr,hrb⟩:=St.at_iff.1 haty2;have hysz:=HSZ.out y (KR hy);obtain ⟨n,hn⟩:∃ n,n'=n+1:=⟨n' - 1,by have:=y.sz_eq;omega⟩
      obtain ⟨hE,hS⟩:=H n hn;rw [hn] at hysz;have hB:=CW hS;have hle:=lw (g:=dY) l (k+1);have hct:=kj (g:=dY) hy;have hln:=Ju y;have hbd:=HBD.out;have hm1:m+((l.take k).flatMap dY).length+(aQ y.left).length+(aQ y.right).length+(y.blocks.flatMap aF).length≤1073741824:=by unfold aF at hbd;omega
      obtain ⟨m1,hm1e⟩:∃ m1,m1=m+((l.take k).flatMap dY).length:=⟨_,rfl⟩
      have hfin:m+((l.take (k+1)).flatMap dY).length=m1+(aQ y.left).length+(aQ y.right).length+(y.blocks.flatMap aF).length:=by omega
      rw [←hm1e] at hm1 HF;have HM1:=hI hm1;have HFIN:=hI hfin;obtain ⟨g0,rfl⟩:∃ g0:Nat,g0=gk:=⟨_,rfl⟩
      obtain ⟨vo,rfl⟩:∃ vo:Value,vo=u0:=⟨_,rfl⟩
      obtain ⟨wa,hwa⟩:∃ wa:World,wa=wr.alloc (.cells #[.int .i64 y.kind,.int .i64 y.line,.slice d.na y.names.length d.nc,.slice d.la y.left.length d.lc,.slice d.ra y.right.length d.rc,.slice d.ba y.blocks.length d.bc,.string y.label] 64):=⟨_,rfl⟩
      have hab:Below wr.heap.size wr wa:=by rw [hwa];exact aH (Below.refl _ _) _
      have hFa:=HF.out.below hab;have HBX:=hI (show wa.heap[wr.heap.size]?=some (.cells #[.int .i64 y.kind,.int .i64 y.line,.slice d.na y.names.length d.nc,.slice d.la y.left.length d.lc,.slice d.ra y.right.length d.rc,.slice d.ba y.blocks.length d.bc,.string y.label] 64) from by rw [hwa];exact aA rfl);have HNE:=hI (GS HF.out.own (KU wr.heap.size));have HF0:=hI (Fw.of hFa.own:Fw base m1 vo wa vo wa);have HBZ:=hI (KT HBS.out hFa.gr.size);have hka:af (fun k=>k<base) wr wa:=(aq hab).weak (fun _ _=>trivial);have hka2:∀ {m' v' w'},Fw base m' vo wa v' w'→af (fun k=>k<base) wr w':=fun h=>hka.trans (h.keep HF0.out.own) (fun _ h _=>h);have HL:=hI (show ∀ m' v' w',Fw base m' vo wa v' w'→m'+(aQ y.left).length≤1073741824→Calls Tryz.prog 48 #[v',.slice d.la y.left.length d.lc] w' fun e w''=>∃ v'',e=.returned v''∧Fw base (m'+(aQ y.left).length) v' w' v'' w'' from fun m' v' w' h hm=>hE y.left d.la d.lc base m' v' w' (fun z hz=>by have:=St.left_lt hz;omega) hl1 hl2.1 (Ex.ats_iff.2 (hrl.keep (hka2 h) (fun _ h=>h) (fun s cs _ ⟨d,e,ha⟩=>⟨d,e,ha.keep (hka2 h) (fun _ h=>h)⟩))) h.own (KT HBZ.out h.gr.size) hm);have HR:=hI (show ∀ m' v' w',Fw base m' vo wa v' w'→m'+(aQ y.right).length≤1073741824→Calls Tryz.prog 48 #[v',.slice d.ra y.right.length d.rc] w' fun e w''=>∃ v'',e=.returned v''∧Fw base (m'+(aQ y.right).length) v' w' v'' w'' from fun m' v' w' h hm=>hE y.right d.ra d.rc base m' v' w' (fun z hz=>by have:=St.right_lt hz;omega) hr1 hr2.1 (Ex.ats_iff.2 (hrr.keep (hka2 h) (fun _ h=>h) (fun s cs _ ⟨d,e,ha⟩=>⟨d,e,ha.keep (hka2 h) (fun _ h=>h)⟩))) h.own (KT HBZ.out h.gr.size) hm);have HB:=hI (show ∀ m' v' w',Fw base m' vo wa v' w'→m'+(y.blocks.flatMap aF).length≤1073741824→Calls Tryz.prog 49 #[v',.slice d.ba y.blocks.length d.bc] w' fun e w''=>∃ v'',e=.returned v''∧Fw base (m'+(y.blocks.flatMap aF).length) v' w' v'' w'' from fun m' v' w' h hm=>hB y.blocks d.ba d.bc base m' v' w' (fun b hb s hs=>by have:=St.blocks_lt hb;have:=St.sz_mem hs;omega) hb1 hb2 (St.atss_iff.2 (hrb.keep (hka2 h) (fun _ h=>h) (fun s cs _ ⟨a9,c9,e9,q9,h9⟩=>⟨a9,c9,e9,q9,St.Ats.keep (hka2 h) (fun _ h=>h) h9⟩))) h.own (KT HBZ.out h.gr.size) hm)
      have HFA:=hI hFa;have HRR:=hI hrr;have HRB:=hI hrb;have HKA:=hI hka;have HLS:=hI (show y.right.length≤9223372036854775807∧y.blocks.length≤9223372036854775807 from by unfold MX at hr2 hb2;omega);have hrc:y.right.length≤d.rc:=hr1;have hrm:d.rc≤9223372036854775807:=hr2.1;have T1:True:=trivial;clear hn h1 h2 hr hr' haty haty2 hy hk hle hct hln hbd hm1 hm1e hfin hab hFa hka hrl hrr hrb
      go_upto_region 5 with fail
      rw [←hwa];clear hwa c0 c1 c2 c3 c4 c5 c6;have kx:=fun i=>ac HBX.out i;have kxz:=ae HBX.out;by_cases hk7:y.kind=7
      · have g7:=kT 7 hk7;clear hk7
        go_wp2_with (first
          | (go_at_call 48;have _t:=T1;(refine (HL.out _ _ _ HF0.out (by have:=HM1.out;omega)).mono ?_);rintro e w1 ⟨v1,rfl,hf1⟩;clear T1 _t;have HF1:=hI (hf1.thru HF0.out);clear hf1;have hb1:=HF1.out.box HBX.out HNE.out;have ks1:=fun i=>ac hb1 i;have kz1:=ae hb1;clear hb1)
          | (go_at_call 49;(refine (HB.out _ _ _ HF1.out (by have:=HM1.out;omega)).mono ?_);rintro e w2 ⟨v2,rfl,hf2⟩;have HF2:=hI (hf2.thru HF1.out);clear hf2;have hb2:=HF2.out.box HBX.out HNE.out;have ks2:=fun i=>ac hb2 i;have kz2:=ae hb2;clear hb2)
          | (go_at_call 48;(refine (HR.out _ _ _ HF2.out (by have:=HM1.out;omega)).mono ?_);rintro e w3 ⟨v3,rfl,hf3⟩;have HF3:=hI (hf3.thru HF2.out);clear hf3;have hb3:=HF3.out.box HBX.out HNE.out;have ks3:=fun i=>ac hb3 i;have kz3:=ae hb3;clear hb3))
        go_roundg (g0 - 1)
        case rel=>exact ⟨k+1,by have:=HK.out;omega,by go_num,hI (by rw [HFIN.out];exact (show m1+(aQ y.left).length+(y.blocks.flatMap aF).length+(aQ y.right).length=m1+(aQ y.left).length+(aQ y.right).length+(y.blocks.flatMap aF).length from by omega) ▸ HF3.out.thru HFA.out)⟩
        case measure=>have:=HK.out;omega
      by_cases hk8:y.kind=8
      rotate_left
      · have g7:(y.kind==7)=false:=by simp [hk7]
        have g8:(y.kind != 8)=true:=by simp [hk8]
        clear hk7 hk8
        go_wp2_with (first
          | (go_at_call 48;have _t:=T1;(refine (HL.out _ _ _ HF0.out (by have:=HM1.out;omega)).mono ?_);rintro e w1 ⟨v1,rfl,hf1⟩;clear T1 _t;have HF1:=hI (hf1.thru HF0.out);clear hf1;have hb1:=HF1.out.box HBX.out HNE.out;have ks1:=fun i=>ac hb1 i;have kz1:=ae hb1;clear hb1)
          | (go_at_call 48;(refine (HR.out _ _ _ HF1.out (by have:=HM1.out;omega)).mono ?_);rintro e w2 ⟨v2,rfl,hf2⟩;have HF2:=hI (hf2.thru HF1.out);clear hf2;have hb2:=HF2.out.box HBX.out HNE.out;have ks2:=fun i=>ac hb2 i;have kz2:=ae hb2;clear hb2)
          | (go_at_call 49;(refine (HB.out _ _ _ HF2.out (by have:=HM1.out;omega)).mono ?_);rintro e w3 ⟨v3,rfl,hf3⟩;have HF3:=hI (hf3.thru HF2.out);clear hf3;have hb3:=HF3.out.box HBX.out HNE.out;have ks3:=fun i=>ac hb3 i;have kz3:=ae hb3;clear hb3))
        go_roundg (g0 - 1)
        case rel=>exact ⟨k+1,by have:=HK.out;omega,by go_num,hI (by rw [HFIN.out];exact HF3.out.thru HFA.out)⟩
        case measure=>have:=HK.out;omega
      · have g7:(y.kind==7)=false:=by simp [hk7]
        have g8:(y.kind != 8)=false:=by simp [hk8]
        clear hk7 hk8
        go_wp2_with (go_at_call 48;have _t:=T1;(refine (HL.out _ _ _ HF0.out (by have:=HM1.out;omega)).mono ?_);rintro e w1 ⟨v1,rfl,hf1⟩;clear T1 _t;have HF1:=hI (hf1.thru HF0.out);clear hf1;have hb1:=HF1.out.box HBX.out HNE.out;have ks1:=fun i=>ac hb1 i;have kz1:=ae hb1;clear hb1)
        obtain ⟨N,hN⟩:∃ N,N=max y.right.length y.blocks.length:=⟨_,rfl⟩
        have HN:=hI hN;clear hN
        go_loopg [0,7] N (fun gk u i wi=>∃ j:Nat,gk+j=N∧i=.int .i64 j∧Hid (Fw base (m1+(aQ y.left).length+((y.right.take j).flatMap bn).length+((y.blocks.take j).flatMap aF).length) vo wa u wi))
        case atStart=>exact ⟨0,by omega,rfl,hI (by simpa using HF1.out)⟩
        case round =>
        clear ks1 kz1;obtain ⟨j,hjj,rfl,HI⟩:=hrel;have HJ:=hI hjj;clear hjj;have hbI:=HI.out.box HBX.out HNE.out;have ksI:=fun i=>ac hbI i;have kzI:=ae hbI;clear hbI;have hl1:=HLS.out.1;have hl2:=HLS.out.2;by_cases hlt2:j<N
        · have hmx:(j:Int)<max (y.right.length:Int) (y.blocks.length:Int):=by have:=HN.out;omega
          have hle1:=lw (g:=bn) y.right (j+1);have hle2:=lw (g:=aF) y.blocks (j+1);have HLE:=hI (And.intro hle1 hle2);clear hle1 hle2;by_cases hrj:j<y.right.length
          · obtain ⟨z,hz⟩:∃ z,y.right[j]?=some z:=⟨_,KP hrj⟩
            obtain ⟨rb,ro,p1,p2⟩:=HRR.out;obtain ⟨hra,hrF,hrbk⟩:=p1 (by intro h0;rw [h0] at hrj;simp at hrj);obtain ⟨cs,hrg,dz,rfl,hatz⟩:=p2 j z hz
            have HRZ:=hI (show ∀ m' v' w',Fw base m' vo wa v' w'→m'+(bn z).length≤1073741824→Calls Tryz.prog 48 #[v',.slice (some ⟨rb,ro+j*8,none⟩) 1 (d.rc - j)] w' fun e w''=>∃ v'',e=.returned v''∧Fw base (m'+(bn z).length) v' w' v'' w'' from fun m' v' w' h hm=>by
              have h9:=hE [z] (some ⟨rb,ro+j*8,none⟩) (d.rc - j) base m' v' w' (fun q hq=>by rw [List.mem_singleton] at hq;subst hq;have:=St.right_lt (KR hz);omega) (by simp;omega) (by unfold MX;omega) ⟨rb,ro+j*8,dz,rfl,hrF,KS hrbk (hka2 h).size,(hka2 h).range hrF hrbk hrg,hatz.keep (hka2 h) (fun _ h=>h),trivial⟩ h.own (KT HBZ.out h.gr.size) (by simpa [aQ] using hm);simpa [aQ] using h9)
            have HCR:=hI (kj (g:=bn) hz);have HRA:=hI hra;clear p1 p2 hrg hatz hra;by_cases hbj:j<y.blocks.length
            · obtain ⟨f,hf⟩:∃ f,y.blocks[j]?=some f:=⟨_,KP hbj⟩
              obtain ⟨fb,fo,q1,q2⟩:=HRB.out;obtain ⟨hfa,hfF,hfb⟩:=q1 (by intro h0;rw [h0] at hbj;simp at hbj);obtain ⟨cs,hr,fa,fc,rfl,hq,hatf⟩:=q2 j f hf;have HBJ:=hI (show ∀ m' v' w',Fw base m' vo wa v' w'→m'+(aF f).length≤1073741824→Calls Tryz.prog 33 #[v',.slice fa f.length fc] w' fun e w''=>∃ v'',e=.returned v''∧Fw base (m'+(aF f).length) v' w' v'' w'' from fun m' v' w' h hm=>hS f fa fc base m' v' w' (fun q hq=>by have:=St.blocks_lt (KR hf);have:=St.sz_mem hq;omega) hq.1 hq.2.1 (St.Ats.keep (hka2 h) (fun _ h=>h) hatf) h.own (KT HBZ.out h.gr.size) hm);have HRGB:=hI (show ∀ m' v' w',Fw base m' vo wa v' w'→w'.cell? ⟨fb,fo+j,none⟩=some (.slice fa f.length fc) from fun m' v' w' h=>by have h9:=((hka2 h).range hfF hfb hr) 0 _ rfl;simpa using h9);have HCB:=hI (kj (g:=aF) hf);have HBA:=hI hfa;clear q1 q2 hr hatf hfa;have HMJ:=hI (show m1+(aQ y.left).length+((y.right.take j).flatMap bn).length+((y.blocks.take j).flatMap aF).length+(bn z).length+(aF f).length≤1073741824 from by have h1:=HLE.out.1;have h2:=HLE.out.2;have h3:=HCR.out;have h4:=HCB.out;have h5:=HM1.out;simp only [aQ] at h5 ⊢;omega);have g0c:=HRGB.out _ _ _ HI.out;have tr:(j:Int)<y.right.length:=by omega
              rw [HRA.out,HBA.out] at ksI
              go_wp2_with (first
                | (go_at_call 48;go_loud ((refine (HRZ.out _ _ _ HI.out (by have:=HMJ.out;omega)).mono ?_);rintro e w5 ⟨v5,rfl,hf5⟩;have HF5:=hI (hf5.thru HI.out);clear hf5;have hb5:=HF5.out.box HBX.out HNE.out;have ks5:=fun i=>ac hb5 i;have kz5:=ae hb5;clear hb5;rw [HRA.out,HBA.out] at ks5;have g5c:=HRGB.out _ _ _ HF5.out))
                | (go_at_call 33;go_loud ((refine (HBJ.out _ _ _ HF5.out (by have:=HMJ.out;omega)).mono ?_);rintro e w6 ⟨v6,rfl,hf6⟩;have HF6:=hI (hf6.thru HF5.out);clear hf6;have hb6:=HF6.out.box HBX.out HNE.out;have ks6:=fun i=>ac hb6 i;have kz6:=ae hb6;clear hb6;rw [HRA.out,HBA.out] at ks6)))
              go_roundg (gk - 1)
              case rel=>exact ⟨j+1,by have:=HJ.out;omega,by go_num,hI (by
                rw [show m1+(aQ y.left).length+((y.right.take (j+1)).flatMap bn).length+((y.blocks.take (j+1)).flatMap aF).length=m1+(aQ y.left).length+((y.right.take j).flatMap bn).length+((y.blocks.take j).flatMap aF).length+(bn z).length+(aF f).length from by rw [HCR.out,HCB.out];omega];exact HF6.out)⟩
              case measure=>have:=HJ.out;omega
            · have HMJ:=hI (show m1+(aQ y.left).length+((y.right.take j).flatMap bn).length+((y.blocks.take j).flatMap aF).length+(bn z).length≤1073741824 from by have h1:=HLE.out.1;have h2:=HLE.out.2;have h3:=HCR.out;have h4:=qr (g:=aF) (Nat.le_of_not_lt hbj);have h5:=HM1.out;simp only [aQ] at h5 ⊢;omega);have HCB:=hI (qr (g:=aF) (Nat.le_of_not_lt hbj));rw [HRA.out] at ksI
              go_wp2_with (go_at_call 48;go_loud ((refine (HRZ.out _ _ _ HI.out (by have:=HMJ.out;omega)).mono ?_);rintro e w5 ⟨v5,rfl,hf5⟩;have HF5:=hI (hf5.thru HI.out);clear hf5;have hb5:=HF5.out.box HBX.out HNE.out;have ks5:=fun i=>ac hb5 i;have kz5:=ae hb5;clear hb5;rw [HRA.out] at ks5))
              go_roundg (gk - 1)
              case rel=>exact ⟨j+1,by have:=HJ.out;omega,by go_num,hI (by
                rw [show m1+(aQ y.left).length+((y.right.take (j+1)).flatMap bn).length+((y.blocks.take (j+1)).flatMap aF).length=m1+(aQ y.left).length+((y.right.take j).flatMap bn).length+((y.blocks.take j).flatMap aF).length+(bn z).length from by rw [HCR.out,HCB.out];omega];exact HF5.out)⟩
              case measure=>have:=HJ.out;omega
          · have HCR:=hI (qr (g:=bn) (Nat.le_of_not_lt hrj));by_cases hbj:j<y.blocks.length
            · obtain ⟨f,hf⟩:∃ f,y.blocks[j]?=some f:=⟨_,KP hbj⟩
              obtain ⟨fb,fo,q1,q2⟩:=HRB.out;obtain ⟨hfa,hfF,hfb⟩:=q1 (by intro h0;rw [h0] at hbj;simp at hbj);obtain ⟨cs,hr,fa,fc,rfl,hq,hatf⟩:=q2 j f hf;have HBJ:=hI (show ∀ m' v' w',Fw base m' vo wa v' w'→m'+(aF f).length≤1073741824→Calls Tryz.prog 33 #[v',.slice fa f.length fc] w' fun e w''=>∃ v'',e=.returned v''∧Fw base (m'+(aF f).length) v' w' v'' w'' from fun m' v' w' h hm=>hS f fa fc base m' v' w' (fun q hq=>by have:=St.blocks_lt (KR hf);have:=St.sz_mem hq;omega) hq.1 hq.2.1 (St.Ats.keep (hka2 h) (fun _ h=>h) hatf) h.own (KT HBZ.out h.gr.size) hm);have HRGB:=hI (show ∀ m' v' w',Fw base m' vo wa v' w'→w'.cell? ⟨fb,fo+j,none⟩=some (.slice fa f.length fc) from fun m' v' w' h=>by have h9:=((hka2 h).range hfF hfb hr) 0 _ rfl;simpa using h9);have HCB:=hI (kj (g:=aF) hf);have HBA:=hI hfa;clear q1 q2 hr hatf hfa;have HMJ:=hI (show m1+(aQ y.left).length+((y.right.take j).flatMap bn).length+((y.blocks.take j).flatMap aF).length+(aF f).length≤1073741824 from by have h1:=HLE.out.1;have h2:=HLE.out.2;have h3:=HCR.out;have h4:=HCB.out;have h5:=HM1.out;simp only [aQ] at h5 ⊢;omega);have g0c:=HRGB.out _ _ _ HI.out;rw [HBA.out] at ksI
              go_wp2_with (go_at_call 33;go_loud ((refine (HBJ.out _ _ _ HI.out (by have:=HMJ.out;omega)).mono ?_);rintro e w6 ⟨v6,rfl,hf6⟩;have HF6:=hI (hf6.thru HI.out);clear hf6;have hb6:=HF6.out.box HBX.out HNE.out;have ks6:=fun i=>ac hb6 i;have kz6:=ae hb6;clear hb6;rw [HBA.out] at ks6))
              go_roundg (gk - 1)
              case rel=>exact ⟨j+1,by have:=HJ.out;omega,by go_num,hI (by
                rw [show m1+(aQ y.left).length+((y.right.take (j+1)).flatMap bn).length+((y.blocks.take (j+1)).flatMap aF).length=m1+(aQ y.left).length+((y.right.take j).flatMap bn).length+((y.blocks.take j).flatMap aF).length+(aF f).length from by rw [HCR.out,HCB.out];omega];exact HF6.out)⟩
              case measure=>have:=HJ.out;omega
            · exact absurd hlt2 (by have:=HN.out;omega)
        · have hmx:¬ (j:Int)<max (y.right.length:Int) (y.blocks.length:Int):=by have:=HN.out;omega
          have HFE:=hI (by
            have h1:=HI.out;have h2:=HN.out;rw [List.take_of_length_le (show y.right.length≤j by omega),List.take_of_length_le (show y.blocks.length≤j by omega)] at h1;exact h1.thru HFA.out:Fw base (m1+(aQ y.left).length+(y.right.flatMap bn).length+(y.blocks.flatMap aF).length) v w u0 wr)
          go_wp2_with fail
          go_roundg (g0 - 1)
          case rel=>exact ⟨k+1,by have:=HK.out;omega,by go_num,hI (by rw [HFIN.out];exact HFE.out)⟩
          case measure=>have:=HK.out;omega
    · exact sH
theorem H9 (n:Nat):nV n∧mA n:=by
  induction n with
  | zero=>exact ⟨vx fun n h=>by omega,vm fun n h=>by omega⟩
  | succ n ih =>
    have h9:∀ m,n+1=m+1→nV m∧mA m:=fun m h=>by
      obtain rfl:n=m:=by omega
      exact ih
    exact ⟨vx h9,vm h9⟩
theorem Ie (b:List St) (a:Option Addr) (c:Nat) (w:World) (h1:b.length≤c) (h2:c≤MX) (hat:St.Ats ak w b a) (hn:1+(aF b).length≤1073741824) :
    Calls Tryz.prog 22 #[.slice a b.length c] w fun e w'=>(∃ a' c',e=.returned (.slice a' (1+(aF b).length) c'))∧Below w.heap.size w w':=by
  have hat1:St.Ats (fun k=>k<w.heap.size) w b a:=St.Ats.mono (fun j _ hl=>hl) hat
  have ho:Ow w.heap.size 1 (.slice (some ⟨w.heap.size,0,none⟩) 1 1) (w.alloc (.cells #[.string ⟨#[109,97,105,110]⟩,.slice none 0 0,.bool true,.slice a b.length c,.int .i64 0] 81)) :=
    ⟨_,by simp,.inr ⟨w.heap.size,1,_,rfl,KU _,heap_alloc_new w _,KU _,by unfold maxLen;decide,by simp,rfl⟩⟩
  have HC:=hI ((H9 (St.szs b)).2 b a c w.heap.size 1 _ _ (fun x hx=>St.sz_mem hx) h1 h2 (St.Ats.keep ((aq (aH (Below.refl _ _) _)).weak (fun _ _=>trivial)) (fun _ h=>h) hat1) ho (by simp) hn);clear hat hat1 ho
  go_enter Tryz.func22,Tryz.ntmps22
  go_wp2_with (go_at_call 33;(with_reducible refine HC.out.mono ?_);rintro e w1 ⟨v1,rfl,hf1⟩)
  go_ret;obtain ⟨ys,ho⟩:=hf1.own;obtain ⟨a',c',rfl⟩:=xi ho;exact ⟨⟨a',c',rfl⟩,Gr.own_below hf1.gr (aH (Below.refl _ _) _) (KU _)⟩
theorem Rw.free {α:Type} {f:α→List Value} {e:TypeId} {n g m c:Nat} {D:Nat→Prop} {w:World} {l:List α} (h:Rw f e n D w (.slice (some ⟨g,0,none⟩) m c) l) (i:Nat):w.frozen? ⟨g,i,none⟩=false:=by
  rcases h.own.2 with ⟨h1,-⟩|⟨g',cap,cur,h1,hg,hh,-⟩
  · cases h1
  · cases h1;exact ag hh i
def dR (S:List Nat) (i k:Nat):List Int:=(List.range k).map (enc S i)
theorem mT (S:List Nat) (i k:Nat):(dR S i k).length=k:=by simp [dR]
theorem Ce (S:List Nat) {k:Nat} (hk:0<k):dR S 0 (k+1)=dR S 0 k++[0]:=by
  unfold dR;rw [List.range_succ,List.map_append];simp [enc,show k≠0 by omega]
def ep (S:List Nat) (i q k:Nat):List Int:=(List.range k).map fun r=>if i<r∧r<q∧r≤i+S.getD i 0 then (i:Int) else enc S i r
theorem uC (S:List Nat) (i q k:Nat):(ep S i q k).length=k:=by simp [ep]
theorem Ci (S:List Nat) (i k:Nat):ep S i (i+1) k=dR S i k:=by
  unfold ep dR;refine List.map_congr_left fun r _=>?_;rw [if_neg (by omega)]
theorem Ch (S:List Nat) {i q k:Nat} (h1:i<q) (h2:q≤i+S.getD i 0) (hk:q<k):(ep S i q k).set q (i:Int)=ep S i (q+1) k:=by
  refine List.ext_getElem? fun r=>?_;unfold ep;rw [List.getElem?_set];simp only [List.length_map,List.length_range,List.getElem?_map];rcases Nat.lt_or_ge r k with hr|hr
  · rw [List.getElem?_range hr];simp only [Option.map_some];by_cases e:q=r
    · subst e;rw [if_pos rfl,if_pos hk,if_pos ⟨h1,by omega,h2⟩]
    · rw [if_neg e];congr 1;by_cases hc:i<r∧r<q∧r≤i+S.getD i 0
      · rw [if_pos hc,if_pos ⟨hc.1,by omega,hc.2.2⟩]
      · rw [if_neg hc,if_neg (by rintro ⟨a,b,c⟩;exact hc ⟨a,by omega,c⟩)]
  · rw [if_neg (by omega),List.getElem?_eq_none (by simpa using hr)];simp
theorem Cf (S:List Nat) {i q k:Nat} (h:i+S.getD i 0<q∨k≤q):ep S i q k=dR S (i+1) k:=by
  unfold ep dR;refine List.map_congr_left fun r hr=>?_;have hr':=List.mem_range.1 hr;show _=if i<r∧r≤i+S.getD i 0 then (i:Int) else enc S i r
  by_cases hc:i<r∧r≤i+S.getD i 0
  · rw [if_pos hc,if_pos ⟨hc.1,by omega,hc.2⟩]
  · rw [if_neg hc,if_neg (by rintro ⟨a,b,c⟩;exact hc ⟨a,c⟩)]
theorem Rw.pick {α:Type} {f:α→List Value} {e:TypeId} {n:Nat} {D:Nat→Prop} {w:World} {v:Value} {l:List α} {i:Nat} {x:α} (h:Rw f e n D w v l) (hf:∀ x,(f x).length=n) (hi:l[i]?=some x):∃ g c,v=.slice (some ⟨g,0,none⟩) l.length c∧g<w.heap.size∧l.length≤c∧c≤maxLen∧w.rangeAt g (i*n) (f x):=by
  rcases h.at_ hf with ⟨-,rfl⟩|⟨g,c,h1,-,h2,h3,h4,h5⟩
  · cases hi
  · exact ⟨g,c,h1,h2,h3,h4,h5 i x hi⟩
theorem El:(Tryz.prog.info? 3).map (fun i=>(i.zero,i.size,i.bytes))=some (some (.int .i64 0),1,8):=by kernel_rfl
theorem D7 {w0 w w':World} {v:Value} (h:w.grownBy w' v.ownBlock) (hb:Below w0.heap.size w0 w) (hv:∀ j,v.ownBlock=some j→w0.heap.size≤j):Below w0.heap.size w0 w' :=
  ⟨h.os.trans hb.os,h.tape.trans hb.tape,h.output.trans hb.output,KT hb.size h.size,fun i hi=>(h.block i (KS hi hb.size) (fun h9=>by have:=hv i h9.symm;omega)).trans (hb.block i hi)⟩
theorem uB (S:List Nat) (i k:Nat) {r:Nat} (h:r<k):(dR S i k)[r]?=some (enc S i r):=by unfold dR;rw [List.getElem?_map,List.getElem?_range h];rfl
theorem Cg (S:List Nat) (i q k:Nat) {r:Nat} (h:r<k):∃ z,(ep S i q k)[r]?=some z:=⟨_,KP (by rw [uC];exact h)⟩
theorem zd {P:Prop} (h:P:=by
  go_wp2_with fail
  go_roundg (g0 - 1)
  case rel=>exact ⟨j+1,by have:=HJ.out;omega,by go_num,hI (by rw [←HE.out];exact HRq.out),HBq⟩
  case measure=>have:=HJ.out;omega):P:=h
theorem Ck (l:List Fn) (a:Option Addr) (c:Nat) (w:World) (h1:l.length≤c) (h2:c≤MX) (hl:l.length≤1073741824) (hne:0<l.length) (hat:Fn.Ats ak w l a) (hn:∀ f ∈ l,1+(aF f.body).length≤1073741824) :
    Calls Tryz.prog 11 #[.slice a l.length c] w fun e w'=>∃ v,e=.returned v∧Rw zF 3 1 (fun j=>w.heap.size≤j) w' v (dR (l.map fun f=>(aF f.body).length) l.length l.length)∧Below w.heap.size w w':=by
  have hrow:=Fn.ats_iff.1 hat;clear hat;have HROW:=hI hrow;have HNN:=hI hn;have HC:=hI (And.intro h1 h2);clear hrow hn h1 h2;obtain ⟨S,hS⟩:∃ S,S=l.map fun f=>(aF f.body).length:=⟨_,rfl⟩
  rw [←hS];have HS:=hI hS;clear hS;have hlen:l.length≤9223372036854775807:=by omega
  have HRW0:=hI (show Rw zF 3 1 (fun j=>w.heap.size≤j) (w.alloc (.cells #[.int .i64 (-1)] 3)) (.slice (some ⟨w.heap.size,0,none⟩) 1 1) (dR S 0 1) from ⟨⟨rfl,.inr ⟨w.heap.size,1,_,rfl,Nat.zero_le _,heap_alloc_new w _,KU _,by unfold maxLen;decide,by simp,rfl⟩⟩,fun j hj=>by cases hj;exact KU _⟩)
  go_enter Tryz.func11,Tryz.ntmps11
  go_wp2_with fail
  go_loopg [3,4] l.length (fun gk u i wr=>∃ k:Nat,gk+k=l.length+1∧1≤k∧k≤l.length∧i=.int .i64 k∧Hid (Rw zF 3 1 (fun j=>w.heap.size≤j) wr u (dR S 0 k))∧Hid (Below w.heap.size w wr))
  case atStart=>exact ⟨1,by omega,by omega,by omega,rfl,HRW0,hI bw⟩
  case round =>
    obtain ⟨k,hkk,hk1,hk2,rfl,HR,HB⟩:=hrel;have HK:=hI hkk;clear hkk;by_cases hlt:k<l.length
    · go_wp2_with (at_builtin;go_loud (refine xG (y:=(0:Int)) HR.out Tryz.underlying44 El rfl (by decide) (by decide) (fun _=>rfl) (by intro u hu;simp [zF] at hu;subst hu;rfl) rfl (by rw [mT];omega) (fun j hj=>KT HB.out.size hj) rfl _ _ rfl rfl rfl rfl ?_;intro g3 c3 w3 hR3 hgr3 hlt3;have HB3:=hI (D7 hgr3 (aH HB.out _) HR.out.dom);have HR3:=hI hR3;rw [mT];clear hR3 hgr3))
      go_roundg (gk - 1)
      case rel=>exact ⟨k+1,by have:=HK.out;omega,by omega,by omega,by go_num,hI (by rw [Ce S (by omega)];have:=HR3.out;rw [mT] at this;exact this),HB3⟩
      case measure=>have:=HK.out;omega
    · obtain rfl:k=l.length:=by omega
      obtain ⟨g,c1,rfl,hg,hc1,hcm,-⟩:=HR.out.pick (fun _=>rfl) (uB S 0 l.length hne);rw [mT] at HR hc1 ⊢;have HG:=hI (HR.out.dom g rfl);clear hlt HRW0;unfold maxLen at hcm
      go_wp2_with fail
      go_loopg [20] l.length (fun gk i wi=>∃ j:Nat,gk+j=l.length∧i=.int .i64 j∧Hid (Rw zF 3 1 (fun j=>w.heap.size≤j) wi (.slice (some ⟨g,0,none⟩) l.length c1) (dR S j l.length))∧Hid (Below w.heap.size w wi))
      case atStart=>exact ⟨0,by omega,rfl,HR,HB⟩
      case round =>
        clear HR HB HK;obtain ⟨j,hjj,rfl,HR,HB⟩:=hrel;have HJ:=hI hjj;clear hjj;by_cases hlt:j<l.length
        · obtain ⟨f,hf⟩:∃ f,l[j]?=some f:=⟨_,KP hlt⟩
          obtain ⟨fb,fo,q1,q2⟩:=HROW.out;obtain ⟨hfa,-,hfb⟩:=q1 (by intro h0;rw [h0] at hlt;simp at hlt);obtain ⟨cs,hr,df,rfl,hatf⟩:=q2 j f hf;have hr':=(aq (F:=ak) HB.out).range trivial hfb hr;have d3:=hr' 3 _ rfl;obtain ⟨-,⟨-,-,hb1,hb2,-⟩,-,hrb⟩:=Fn.at_iff.1 hatf;have hnn:=HNN.out f (KR hf);have HF:=hI (Ie f.body df.ba df.bc wr hb1 hb2 (St.ats_iff.2 (hrb.keep (aq HB.out) (fun _ h=>h) (fun s cs _ ⟨d,e,ha⟩=>⟨d,e,ha.keep (aq HB.out) (fun _ h=>h)⟩))) hnn);have hS:S.getD j 0=(aF f.body).length:=by rw [HS.out,List.getD_eq_getElem?_getD,List.getElem?_map,hf];rfl
          obtain ⟨N,hN⟩:∃ N,N=(aF f.body).length:=⟨_,rfl⟩
          rw [←hN] at HF hS hnn;have HSJ:=hI hS;clear q1 q2 hr hr' hatf hrb hf hS hN;subst hfa
          go_wp2_with (go_at_call 22;(with_reducible refine HF.out.mono ?_);rintro e w1 ⟨⟨a1,c1',rfl⟩,hb1⟩;have HR1:=hI (HR.out.keep (aq hb1));have HB1:=hI (thru hb1 HB.out))
          clear HF;obtain ⟨g0,rfl⟩:∃ g0:Nat,g0=gk:=⟨_,rfl⟩
          go_loopg [7] (l.length+N) (fun gk i wk=>∃ q:Nat,gk+q=l.length+N+1+j∧j<q∧q≤l.length∧q≤j+N+1∧i=.int .i64 q∧Hid (Rw zF 3 1 (fun j=>w.heap.size≤j) wk (.slice (some ⟨g,0,none⟩) l.length c1) (ep S j q l.length))∧Hid (Below w.heap.size w wk))
          case atStart=>exact ⟨j+1,by omega,by omega,by omega,by omega,by go_num,hI (by rw [Ci];exact HR1.out),HB1⟩
          case round =>
            clear HR1 HB1;obtain ⟨q,hqq,hq1,hq2,hq3,rfl,HRq,HBq⟩:=hrel;have HQ:=hI hqq;clear hqq;by_cases hlq:q<l.length∧q≤j+N
            · obtain ⟨hl1,hl2⟩:=hlq;obtain ⟨z,hz⟩:=Cg S j q l.length hl1;have hlm:=uC S j q l.length
              have hc0:wr.cell? ⟨g,q,none⟩=some (.int .i64 z):=by
                obtain ⟨g',c',h1,-,-,-,h2⟩:=HRq.out.pick (fun _=>rfl) hz;injection h1 with e1 e2 e3
                injection e1 with e1
                injection e1 with e1
                subst e1;have:=h2 0 _ rfl;simpa using this
              have hfr:∀ i,wr.frozen? ⟨g,i,none⟩=false:=fun i=>HRq.out.free i;have t1:(q:Int)≤(j:Int)+(N:Int):=by omega
              have HRS:=hI (show Rw zF 3 1 (fun j=>w.heap.size≤j) (wr.setCell ⟨g,q,none⟩ (.int .i64 j)) (.slice (some ⟨g,0,none⟩) l.length c1) (ep S j (q+1) l.length) from by
                have h1:=HRq.out;have h2:∀ m,(ep S j q l.length).length=m→Rw zF 3 1 (fun j=>w.heap.size≤j) wr (.slice (some ⟨g,0,none⟩) m c1) (ep S j q l.length)→Rw zF 3 1 (fun j=>w.heap.size≤j) (wr.setCell ⟨g,q*1+0,none⟩ (.int .i64 j)) (.slice (some ⟨g,0,none⟩) m c1) ((ep S j q l.length).set q (j:Int)):=fun m hm h=>by subst hm;exact h.set (fun _=>rfl) hz (by decide) rfl
                have h3:=h2 _ hlm h1;rw [Ch S hq1 (by rw [HSJ.out];omega) hl1,Nat.mul_one,Nat.add_zero] at h3;exact h3)
              clear hz hlm
              go_wp2_with fail
              go_roundg (gk - 1)
              case rel=>exact ⟨q+1,by have:=HQ.out;omega,by omega,by omega,by omega,by go_num,HRS,hI (gZ HBq.out HG.out _)⟩
              case measure=>have:=HQ.out;omega
            · have HE:=hI (show ep S j q l.length=dR S (j+1) l.length from Cf S (by rw [HSJ.out];omega));by_cases t1:(q:Int)≤(j:Int)+(N:Int)
              · have t2:¬ (q:Int)<l.length:=by omega
                exact zd
              · exact zd
        · obtain rfl:j=l.length:=by have:=HJ.out;omega
          go_wp2_with fail
          go_ret;exact ⟨_,rfl,HR.out,HB.out⟩
