import Derived.Test.YtaddbmkkkollpaaGreatDoorJ0
import Derived.Maps.Own
import Derived.Maps.OwnSet
import Derived.Maps.Views
import Derived.Test.YtaddbmkkkollpaaGreatDoor0A
import Derived.Test.YtaddbmkkkollpaaGreatDoorP0
import Derived.StillTailTactics
import Derived.RegionTactic
set_option linter.all false
namespace Go.Proofs.YtaddbmkkkollpaaGreatDoor
open Go.RowKit
abbrev Tg:=Nat × Nat
def Dt (G:Nat→Tg) (p:Nat) (t:Tg):Nat→Prop:=fun b=>p≤b∧G b=t
structure Kt (G:Nat→Tg) (p:Nat) (S:Tg→Prop) (w w':World):Prop where
  os:w'.os=w.os
  tape:w'.tape=w.tape
  output:w'.output=w.output
  size:w.heap.size≤w'.heap.size
  block:∀ k,k<w.heap.size→(p≤k→¬ S (G k))→w'.heap[k]?=w.heap[k]?
section
variable {G G':Nat→Tg} {p:Nat} {S S':Tg→Prop} {w w1 w2:World}
theorem Kt.refl:Kt G p S w w:=⟨rfl,rfl,rfl,KU _,fun _ _ _=>rfl⟩
theorem Kt.of_below (h:Below w.heap.size w w1):Kt G p S w w1:=⟨h.os,h.tape,h.output,h.size,fun k hk _=>h.block k hk⟩
theorem Kt.thru (k:Kt G' p S w1 w2) (h:Kt G p S w w1) (hG:∀ b,b<w.heap.size→G' b=G b):Kt G p S w w2 :=
  ⟨k.os.trans h.os,k.tape.trans h.tape,k.output.trans h.output,KT h.size k.size,fun b hb hn=>(k.block b (KS hb h.size) (fun hp=>by rw [hG b hb];exact hn hp)).trans (h.block b hb hn)⟩
theorem Kt.trans (h:Kt G p S w w1) (k:Kt G p S w1 w2):Kt G p S w w2:=k.thru h fun _ _=>rfl
theorem Kt.mono (h:Kt G p S w w1) (hS:∀ t,S t→S' t):Kt G p S' w w1:=⟨h.os,h.tape,h.output,h.size,fun b hb hn=>h.block b hb fun hp hs=>hn hp (hS _ hs)⟩
theorem Kt.below (h:Kt G p S w w1) (k:Below w1.heap.size w1 w2):Kt G p S w w2:=h.trans (Kt.of_below k)
theorem Kt.alloc (h:Kt G p S w w1) (o:Obj):Kt G p S w (w1.alloc o):=h.below ((Below.refl _ _).alloc (KU _) o)
theorem Kt.drewN (h:Kt G p S w w1) (n:Nat):Kt G p S w (w1.drewN n):=h.below (dQ (Below.refl _ _) n)
theorem Kt.drew (h:Kt G p S w w1):Kt G p S w w1.drew:=h.below (Below.drew (Below.refl _ _))
theorem Kt.set (h:Kt G p S w w1) {a:Addr} (ha:w.heap.size≤a.block∨p≤a.block∧S (G a.block)) (v:Value):Kt G p S w (w1.setCell a v) :=
  ⟨h.os,h.tape,h.output,by simpa [World.setCell] using h.size,fun k hk hn=>by
    rw [Below.heap_setCell _ _ _ _ (fun e=>by
      rcases ha with ha|⟨h1,h2⟩
      · omega
      · subst e;exact hn h1 h2)]
    exact h.block k hk hn⟩
theorem Kt.grown {row:Option Nat} (h:Kt G p S w w1) (hg:w1.grownBy w2 row) (hr:∀ b,row=some b→w.heap.size≤b∨p≤b∧S (G b)):Kt G p S w w2 :=
  ⟨hg.os.trans h.os,hg.tape.trans h.tape,hg.output.trans h.output,KT h.size hg.size,fun k hk hn=>(hg.block k (KS hk h.size) (fun e=>by
    rcases hr k e.symm with ha|⟨h1,h2⟩
    · omega
    · exact hn h1 h2)).trans (h.block k hk hn)⟩
theorem Kt.keep {F:Nat→Prop} (h:Kt G p S w w1) (hF:∀ b,F b→b<w.heap.size→p≤b→¬ S (G b)):af F w w1:=⟨h.size,fun k hk hl=>h.block k hl (hF k hk hl)⟩
theorem Kt.keep_lt (h:Kt G p S w w1):af (Lt p) w w1:=h.keep fun b hb _ hp=>by have:b<p:=hb;omega
theorem Kt.to_below (h:Kt G p S w w1) (hp:p≤w.heap.size):Below p w w1:=⟨h.os,h.tape,h.output,h.size,fun k hk=>h.block k (by omega) (by omega)⟩
theorem Kt.box {b:Nat} {o:Obj} (h:Kt G p S w w1) (hb:w.heap[b]?=some o) (hS:p≤b→¬ S (G b)):w1.heap[b]?=some o:=(h.block b (ae hb) hS).trans hb
end
def Gn (G:Nat→Tg) (n:Nat) (t:Tg):Nat→Tg:=fun b=>if b<n then G b else t
theorem Gn.old {G:Nat→Tg} {n b:Nat} {t:Tg} (h:b<n):Gn G n t b=G b:=if_pos h
theorem Gn.new {G:Nat→Tg} {n b:Nat} {t:Tg} (h:n≤b):Gn G n t b=t:=if_neg (by omega)
theorem Kn {w w':World} {e:TypeId} {n:Nat} {v:Value} {k:Nat} {xs:List Value} (h:w.ownsRow 0 e n v k xs) (hk:∀ j,v.ownBlock=some j→w'.heap[j]?=w.heap[j]?):w'.ownsRow 0 e n v k xs:=by
  refine ⟨h.1,?_⟩;rcases h.2 with h2|⟨g,cap,cur,hv,hg,hh,hr⟩
  · exact .inl h2
  · exact .inr ⟨g,cap,cur,hv,hg,by rw [hk g (by rw [hv];rfl)];exact hh,hr⟩
structure Rw {α:Type} (f:α→List Value) (e:TypeId) (n:Nat) (D:Nat→Prop) (w:World) (v:Value) (l:List α):Prop where
  own:w.ownsRow 0 e n v l.length (l.flatMap f)
  dom:∀ j,v.ownBlock=some j→D j
section
variable {α:Type} {f:α→List Value} {e:TypeId} {n:Nat} {D D':Nat→Prop} {w w':World} {v:Value} {l:List α}
theorem Rw.nil:Rw f e n D w (.slice none 0 0) []:=⟨World.ownsRow_nil _ _ _ _,fun j h=>by cases h⟩
theorem Rw.keep (h:Rw f e n D w v l) (hk:af D w w'):Rw f e n D w' v l:=⟨Kn h.own fun j hj=>hk.block j (h.dom j hj) (h.own.lt j hj).2,h.dom⟩
theorem Rw.mono (h:Rw f e n D w v l) (hD:∀ j,D j→j<w.heap.size→D' j):Rw f e n D' w v l:=⟨h.own,fun j hj=>hD j (h.dom j hj) (h.own.lt j hj).2⟩
theorem Rw.kt {G:Nat→Tg} {p:Nat} {S:Tg→Prop} {t:Tg} (h:Rw f e n (Dt G p t) w v l) (hk:Kt G p S w w') (hS:¬ S t):Rw f e n (Dt G p t) w' v l:=h.keep (hk.keep fun b hb _ _ hs=>hS (hb.2 ▸ hs))
theorem Rw.tag {G G':Nat→Tg} {p:Nat} {t:Tg} (h:Rw f e n (Dt G p t) w v l) (hG:∀ b,b<w.heap.size→G' b=G b):Rw f e n (Dt G' p t) w v l:=h.mono fun j hj hl=>⟨hj.1,(hG j hl).trans hj.2⟩
theorem Rw.at_ (h:Rw f e n D w v l) (hf:∀ x,(f x).length=n):(v=.slice none 0 0∧l=[])∨∃ g c,v=.slice (some ⟨g,0,none⟩) l.length c∧D g∧g<w.heap.size∧l.length≤c∧c≤maxLen∧∀ (i:Nat) x,l[i]?=some x→w.rangeAt g (i*n) (f x):=by
  have hc:=fun g hg=>h.own.cells (g:=g) hg;have hl:=h.own.lt;rcases h.own.2 with ⟨rfl,hn⟩|⟨g,cap,cur,rfl,hg,hgg,hnc,hcm,hcs,htake⟩
  · exact .inl ⟨rfl,List.length_eq_zero_iff.1 hn⟩
  · refine .inr ⟨g,cap,rfl,h.dom g rfl,(hl g rfl).2,hnc,hcm,fun i x hx j u hu=>?_⟩;have hj:j<n:=by have:=(KQ hu).1;rwa [hf] at this
    have:=hc g rfl (i*n+j) u (by rw [kB hf l i x j hx hj];exact hu);rw [p8] at this;exact this
theorem Rw.cut {a:Option Addr} {c k:Nat} (h:Rw f e n D w (.slice a l.length c) l) (hf:∀ x,(f x).length=n) (hk:k≤l.length):Rw f e n D w (.slice a k c) (l.take k):=by
  refine ⟨⟨iP hf _,?_⟩,fun j hj=>h.dom j (by cases a <;> exact hj)⟩;have hlen:(l.take k).length=k:=by rw [List.length_take];omega
  rw [hlen];rcases h.own.2 with ⟨h1,h2⟩|⟨g,cap,cur,h1,hg,hgg,hnc,hcm,hcs,htake⟩
  · injection h1 with e1 e2 e3
    subst e1 e3;exact .inl ⟨by rw [show k=0 by omega],by omega⟩
  · injection h1 with e1 e2 e3
    subst e1 e3;refine .inr ⟨g,c,cur,rfl,hg,hgg,by omega,hcm,hcs,?_⟩
    have h5:(l.take k).flatMap f=(l.flatMap f).take (k*n):=by
      have h6:l.flatMap f=(l.take k).flatMap f++(l.drop k).flatMap f:=by rw [←List.flatMap_append,List.take_append_drop]
      rw [h6,List.take_left' (by rw [iP hf,hlen])]
    rw [h5,←htake,List.take_take,Nat.min_eq_left (Nat.mul_le_mul hk (KU n))]
theorem Rw.set {g c i j:Nat} {u:Value} {x x':α} (h:Rw f e n D w (.slice (some ⟨g,0,none⟩) l.length c) l) (hf:∀ x,(f x).length=n) (hi:l[i]?=some x) (hj:j<n) (hx:f x'=(f x).set j u) :
    Rw f e n D (w.setCell ⟨g,i*n+j,none⟩ u) (.slice (some ⟨g,0,none⟩) l.length c) (l.set i x'):=by
  have hil:=(KQ hi).1;refine ⟨⟨by rw [iP hf],?_⟩,h.dom⟩;rw [List.length_set];rcases h.own.2 with ⟨h1,h2⟩|⟨g',cap,cur,h1,hg,hgg,hnc,hcm,hcs,htake⟩
  · cases h1
  · injection h1 with e1 e2 e3
    injection e1 with e1
    injection e1 with e1
    subst e1 e3;refine .inr ⟨g,c,cur.setIfInBounds (i*n+j) u,rfl,hg,?_,hnc,hcm,by simpa using hcs,?_⟩
    · unfold World.setCell;simp [Array.getElem?_modify,hgg]
    · rw [Array.toList_setIfInBounds,List.take_set,htake];refine List.ext_getElem? fun q=>?_;have hn:0<n:=by omega
      rcases Nat.lt_or_ge q (l.length*n) with hq|hq
      · have hq2:q / n<l.length:=(Nat.div_lt_iff_lt_mul hn).2 hq;have hqe:q=q / n*n+q % n:=by have:=Nat.div_add_mod q n;rw [Nat.mul_comm] at this;exact this.symm
        have hqm:=Nat.mod_lt q hn;generalize q / n=a at *;generalize q % n=b at *;subst hqe;obtain ⟨y,hy⟩:∃ y,l[a]?=some y:=⟨_,KP hq2⟩
        rw [List.getElem?_set];rcases Nat.decEq i a with hne|rfl
        · have h7:¬ i*n+j=a*n+b:=by
            intro h8;rcases Nat.lt_or_gt_of_ne hne with h9|h9
            · have:=Nat.mul_le_mul_right n (show i+1≤a from h9);rw [Nat.add_mul] at this;omega
            · have:=Nat.mul_le_mul_right n (show a+1≤i from h9);rw [Nat.add_mul] at this;omega
          rw [if_neg h7,kB hf l a y b hy hqm,kB hf (l.set i x') a y b (by rw [List.getElem?_set,if_neg hne];exact hy) hqm]
        · rw [hi] at hy;cases hy;rw [kB hf (l.set i x') i x' b (by rw [List.getElem?_set,if_pos rfl,if_pos hil]) hqm,hx,List.getElem?_set];have hfl:(l.flatMap f).length=l.length*n:=iP hf l;by_cases hb:j=b
          · subst hb;rw [if_pos rfl,if_pos rfl,if_pos (by rw [hfl];exact hq),if_pos (by rw [hf];exact hj)]
          · rw [if_neg (by omega),if_neg hb,kB hf l i x b hi hqm]
      · rw [List.getElem?_eq_none (by rw [List.length_set,iP hf];exact hq),List.getElem?_eq_none (by rw [iP hf,List.length_set];exact hq)]
theorem Rw.push (h:Rw f e n D w v l) {v':Value} {x:α} (h1:w'.ownsRow 0 e n v' (l.length+1) (l.flatMap f++f x)) (h3:∀ b,v'.ownBlock=some b→some b=v.ownBlock∨w.heap.size≤b) (hD:∀ k,w.heap.size≤k→D k):Rw f e n D w' v' (l++[x]):=by
  refine ⟨by simpa using h1,fun j hj=>?_⟩;rcases h3 j hj with h9|h9
  · exact h.dom j h9.symm
  · exact hD j h9
end
theorem vM {P:Program} {e:TypeId} {z:Value} {n b:Nat} (h:(P.info? e).map (fun i=>(i.zero,i.size,i.bytes))=some (some z,n,b)):∃ i,P.info? e=some i∧i.zero=some z∧i.size=n∧i.bytes=b:=by
  cases hi:P.info? e with
  | none=>rw [hi] at h;cases h
  | some i=>rw [hi] at h;simp at h;exact ⟨i,rfl,h.1,h.2.1,h.2.2⟩
theorem jU {α:Type} {f:α→List Value} {t e:TypeId} {z:Value} {n bytes b0:Nat} {D:Nat→Prop} {w0:World} {v:Value} {l:List α} {y:α} {cs:Array Value}
    {ops:Array Oper} {o:Oper} {a:Act} {K:Act→World→Prop} {Q:Exit→Act→World→Prop} {E:Prop} (HR:Rw f e n D w0 v l) (ht:Tryz.prog.underlying t=some (.slice e)) (hinfo:(Tryz.prog.info? e).map (fun i=>(i.zero,i.size,i.bytes))=some (some z,n,bytes)) (hzs:z.cells.size=n) (hn:0<n) (hbt:bytes≤1000)
    (hf:∀ x,(f x).length=n) (h1:∀ u ∈ f y,u.oneCell'=true) (hcs:cs.toList=f y) (hlen:l.length≤70000000000) (hD:∀ k,w0.heap.size≤k→D k)
    (hgd:o.guard=none) (s x:Operand) (hop:o.op=.call { callee:=.builtin .append,args:=#[s,x],argTypes:=#[t,t] }) (hs:a.eval s=v) (hx:a.eval x=.slice (some ⟨b0,0,none⟩) 1 1) (hb0:b0=w0.heap.size)
    (h:∀ g cap w',Rw f e n D w' (.slice (some ⟨g,0,none⟩) (l.length+1) cap) (l++[y])→(w0.alloc (.cells cs e)).grownBy w' v.ownBlock→g<w'.heap.size→K (a.put o.dst (.slice (some ⟨g,0,none⟩) (l.length+1) cap)) w') :
    if Region.wanted o (yielded ops a.tmps)=true then Oper.wp Tryz.prog o a (w0.alloc (.cells cs e)) K Q else E:=by
  subst hb0;obtain ⟨i0,hi,hz0,hz1,hz2⟩:=vM hinfo;have HC0:=HR.keep (w':=w0.alloc (.cells cs e)) ((af.refl _ _).alloc _);refine step_append_lies _ hgd s x t hop 0 e i0 z n bytes ht hi hz0 hz1 hz2 hzs hn v l.length _ hs (HR.own.alloc _) ⟨w0.heap.size,0,none⟩ 1 1 (f y) hx (by rw [hf];omega) (fun j u hu=>lK rfl j u (by rw [hcs];exact hu)) h1 (by decide) (by unfold maxLen;omega) ?_ (Nat.zero_le _) _ rfl ?_
  · have:(l.length+1)*bytes≤70000000001*1000:=Nat.mul_le_mul (by omega) hbt;omega
  intro g cap w' r1 r2 r3 r4;refine h g cap w' (Rw.push HC0 r1 (fun b hb=>?_) (fun k hk=>hD k (by simp at hk;omega))) r2 r4;rcases r3 with h|h
  · exact .inl (hb.symm.trans h.symm)
  · have hbg:g=b:=Option.some.inj hb;exact .inr (by rw [←hbg,h];exact KU _)
theorem xG {α:Type} {f:α→List Value} {t e:TypeId} {z:Value} {n bytes b0:Nat} {D:Nat→Prop} {w0:World} {v:Value} {l:List α} {y:α} {cs:Array Value}
    {ops:Array Oper} {rest:List Oper} {o:Oper} {a:Act} {Q:Exit→Act→World→Prop} (HR:Rw f e n D w0 v l) (ht:Tryz.prog.underlying t=some (.slice e)) (hinfo:(Tryz.prog.info? e).map (fun i=>(i.zero,i.size,i.bytes))=some (some z,n,bytes)) (hzs:z.cells.size=n) (hn:0<n) (hbt:bytes≤1000)
    (hf:∀ x,(f x).length=n) (h1:∀ u ∈ f y,u.oneCell'=true) (hcs:cs.toList=f y) (hlen:l.length≤70000000000) (hD:∀ k,w0.heap.size≤k→D k)
    (hgd:o.guard=none) (s x:Operand) (hop:o.op=.call { callee:=.builtin .append,args:=#[s,x],argTypes:=#[t,t] }) (hs:a.eval s=v) (hx:a.eval x=.slice (some ⟨b0,0,none⟩) 1 1) (hb0:b0=w0.heap.size)
    (h:∀ g cap w',Rw f e n D w' (.slice (some ⟨g,0,none⟩) (l.length+1) cap) (l++[y])→(w0.alloc (.cells cs e)).grownBy w' v.ownBlock→g<w'.heap.size→wpList Tryz.prog ops Q rest (a.put o.dst (.slice (some ⟨g,0,none⟩) (l.length+1) cap)) w') :
    wpList Tryz.prog ops Q (o::rest) a (w0.alloc (.cells cs e)):=by
  subst hb0;obtain ⟨i0,hi,hz0,hz1,hz2⟩:=vM hinfo;have HC0:=HR.keep (w':=w0.alloc (.cells cs e)) ((af.refl _ _).alloc _);refine ms _ hgd s x t hop 0 e i0 z n bytes ht hi hz0 hz1 hz2 hzs hn v l.length _ hs (HR.own.alloc _) ⟨w0.heap.size,0,none⟩ 1 1 (f y) hx (by rw [hf];omega) (fun j u hu=>lK rfl j u (by rw [hcs];exact hu)) h1 (by decide) (by unfold maxLen;omega) ?_ (Nat.zero_le _) ?_
  · have:(l.length+1)*bytes≤70000000001*1000:=Nat.mul_le_mul (by omega) hbt;omega
  intro v' w' r1 r2 r3;have hC':=Rw.push HC0 r1 r3 (fun k hk=>hD k (by simp at hk;omega));rcases r1.2 with ⟨-,h9⟩|⟨g,cap,cur,rfl,-⟩
  · omega
  · exact h g cap w' hC' r2 (r1.lt g rfl).2
theorem xM {w:World} {b:Nat} {u0 u1 u2 u3:Value} {T:TypeId} (h:w.heap[b]?=some (.cells #[u0,u1,u2,u3] T)) (v0 v1 v2 v3:Value) :
    ((((w.setCell ⟨b,0,none⟩ v0).setCell ⟨b,1,none⟩ v1).setCell ⟨b,2,none⟩ v2).setCell ⟨b,3,none⟩ v3).heap[b]?=some (.cells #[v0,v1,v2,v3] T) :=
  aR (aR (aR (aR h 0 v0) 1 v1) 2 v2) 3 v3
def dr (l:List (Lit × Lit)):DataW Unit:=l.foldl (fun D p=>D.put p.1 (.lit p.2)) (.map [])
theorem kc (l:List (Lit × Lit)) (k v:Lit):dr (l++[(k,v)])=(dr l).put k (.lit v):=by unfold dr;rw [List.foldl_append];rfl
theorem mG:∀ l:List (Lit × Lit),Maps.IsMap (dr l):=fun l=>by
  unfold dr
  have h:∀ (l:List (Lit × Lit)) (D:DataW Unit),Maps.IsMap D→Maps.IsMap (l.foldl (fun D p=>D.put p.1 (.lit p.2)) D):=by
    intro l
    induction l with
    | nil=>intro D h;exact h
    | cons x r ih=>intro D h;exact ih _ (h.put _ _)
  exact h l _ Maps.isMap_empty
def Mp (k e:TypeId) (w:World) (b:Nat) (n:Nat) (l:List (Lit × Lit)):Prop:=w.ownsMap (H:=Unit) Tryz.prog k (plainElem Tryz.prog e) b n (dr l)
section
variable {k e:TypeId} {w w':World} {b n:Nat} {l:List (Lit × Lit)}
theorem Mp.lt (h:Mp k e w b n l):b<w.heap.size:=World.ownsMap.lt h
theorem Mp.of (h:Mp k e w b n l) (he:w'.heap[b]?=w.heap[b]?):Mp k e w' b n l:=by
  obtain ⟨es,clock,hb,h2⟩:=h;exact ⟨es,clock,he.trans hb,h2⟩
theorem Mp.kt {G:Nat→Tg} {p:Nat} {S:Tg→Prop} {t:Tg} (h:Mp k e w b n l) (hk:Kt G p S w w') (hG:G b=t) (hS:¬ S t):Mp k e w' b n l:=h.of (hk.block b h.lt fun _ hs=>hS (hG ▸ hs))
theorem Mp.made (h:w.heap[b]?=some (.map #[] 0)):Mp k e w b 0 []:=by
  obtain ⟨es,clock,hb,F,hs,hD⟩:=World.ownsMap_made (H:=Unit) w Tryz.prog k (plainElem Tryz.prog e);rw [aA rfl] at hb;cases hb;exact ⟨#[],0,h,F,hs,hD⟩
end
structure Fd where
  b:Nat
  vl:Value
  vu:Value
  mi:Nat
  mc:Nat
structure Rd where
  a:Option Addr
  c:Nat
  m:Option Nat
structure Wk where
  p:Nat
  vf:Value
  vs:Value
  vr:Value
  vu:Value
  vj:Value
  fs:List Fd
  rs:List Rd
def gK (x:Fd):List Value:=[.pointer (some ⟨x.b,0,none⟩)]
def j6 (x:Vr):List Value:=[.string x.name,.int .i64 x.fn,.int .i64 x.num,.int .i64 x.attr]
def kG (x:ByteArray × Int):List Value:=[.string x.1,.int .i64 x.2]
def gU (x:ByteArray × Bool × Nat):List Value:=[.string x.1,.bool x.2.1,.int .i64 x.2.2]
def ml (x:Us):List Value:=[.int .i64 x.line,.string x.name,.int .i64 x.fn,.int .i64 x.kind,.int .i64 x.ix,.bool x.set]
def lH (x:Jp):List Value:=[.int .i64 x.fn,.int .i64 x.line,.string x.label,.int .i64 x.out,.bool x.back]
def fy (x:Fr × Rd):List Value:=[.slice x.2.a x.1.list.length x.2.c,.int .i64 x.1.at_,.int .i64 x.1.fn,.bool x.1.loop,.bool x.1.rep,.int .i64 x.1.base,.map x.2.m]
def fi (q:Nat × Nat):Lit:=.string (keyBytes [.int .i64 q.1,.int .i64 q.2])
def fh (l:List (Nat × Nat)):List (Lit × Lit):=l.zipIdx.map fun q:(Nat × Nat) × Nat=>(fi q.1,.int .i64 (q.2:Int))
def cR (l:List Nat):List (Lit × Lit):=l.map fun n:Nat=>(.int .i64 (n:Int),.bool true)
def eW (l:List Nat):List (Lit × Lit):=l.zipIdx.map fun q:Nat × Nat=>(.int .i64 (q.2:Int),.int .i64 (q.1:Int))
structure dN (G:Nat→Tg) (p i:Nat) (w:World) (x:Fu) (y:Fd):Prop where
  box:w.heap[y.b]?=some (.cells #[.int .i64 x.up,.bool x.vararg,y.vl,y.vu,.map (some y.mi),.map (some y.mc)] 92)
  tb:p≤y.b∧G y.b=(6,i)
  rl:Rw kG 69 2 (Dt G p (7,i)) w y.vl x.locals
  ru:Rw gU 54 3 (Dt G p (8,i)) w y.vu x.ups
  ti:p≤y.mi∧G y.mi=(9,i)
  mi:Mp 138 3 w y.mi x.own.length (fh x.own)
  tc:p≤y.mc∧G y.mc=(10,i)
  mc:Mp 3 4 w y.mc x.cau.length (cR x.cau)
  nd:x.own.Nodup∧∀ q ∈ x.own,q.1≤68719476736∧q.2≤68719476736
structure gt (G:Nat→Tg) (p k:Nat) (w:World) (f:Fr) (y:Rd):Prop where
  row:f.list.length≤y.c∧y.c≤MX∧f.list.length*128≤LM∧St.Ats (Lt p) w f.list y.a
  mp:(f.list=[]∧f.loop=true∧y.m=none)∨f.loop=false∧∃ m,y.m=some m∧p≤m∧G m=(11,k)∧Mp 3 3 w m f.bef.length (eW f.bef)
structure av (G:Nat→Tg) (d:Wk) (w:World) (σ:Sc):Prop where
  box:w.heap[d.p]?=some (.cells #[d.vf,d.vs,d.vr,d.vu,d.vj] 78)
  tp:G d.p=(0,0)
  rf:Rw gK 82 1 (Dt G d.p (1,0)) w d.vf d.fs
  rs:Rw j6 140 4 (Dt G d.p (2,0)) w d.vs σ.scope
  rr:Rw fy 115 7 (Dt G d.p (3,0)) w d.vr (σ.frames.zip d.rs)
  ru:Rw ml 39 6 (Dt G d.p (4,0)) w d.vu σ.uses
  rj:Rw lH 212 5 (Dt G d.p (5,0)) w d.vj σ.jumps
  lf:d.fs.length=σ.funs.length
  lr:d.rs.length=σ.frames.length
  fu:∀ (i:Nat) x y,σ.funs[i]?=some x→d.fs[i]?=some y→dN G d.p i w x y
  fr:∀ (k:Nat) f y,σ.frames[k]?=some f→d.rs[k]?=some y→gt G d.p k w f y
section
variable {G G':Nat→Tg} {p i k:Nat} {w w':World} {x:Fu} {y:Fd} {f:Fr} {z:Rd} {d:Wk} {σ:Sc} {S:Tg→Prop}
theorem dN.kt (h:dN G p i w x y) (hk:Kt G p S w w') (hS:∀ m,6≤m→m≤10→¬ S (m,i)):dN G p i w' x y :=
  ⟨hk.box h.box fun _ hs=>hS 6 (by decide) (by decide) (h.tb.2 ▸ hs),h.tb,h.rl.kt hk (hS 7 (by decide) (by decide)),h.ru.kt hk (hS 8 (by decide) (by decide)),h.ti,h.mi.kt hk h.ti.2 (hS 9 (by decide) (by decide)),h.tc,h.mc.kt hk h.tc.2 (hS 10 (by decide) (by decide)),h.nd⟩
theorem gt.kt (h:gt G p k w f z) (hk:Kt G p S w w') (hS:¬ S (11,k)):gt G p k w' f z:=by
  refine ⟨⟨h.row.1,h.row.2.1,h.row.2.2.1,h.row.2.2.2.keep hk.keep_lt fun _ h=>h⟩,?_⟩;rcases h.mp with h1|⟨hl,m,h1,h2,h3,h4⟩
  · exact .inl h1
  · exact .inr ⟨hl,m,h1,h2,h3,h4.kt hk h3 hS⟩
theorem dN.tag (h:dN G p i w x y) (hG:∀ b,b<w.heap.size→G' b=G b):dN G' p i w x y :=
  ⟨h.box,⟨h.tb.1,(hG _ (ae h.box)).trans h.tb.2⟩,h.rl.tag hG,h.ru.tag hG,⟨h.ti.1,(hG _ h.mi.lt).trans h.ti.2⟩,h.mi,⟨h.tc.1,(hG _ h.mc.lt).trans h.tc.2⟩,h.mc,h.nd⟩
theorem gt.tag (h:gt G p k w f z) (hG:∀ b,b<w.heap.size→G' b=G b):gt G' p k w f z:=by
  refine ⟨h.row,?_⟩;rcases h.mp with h1|⟨hl,m,h1,h2,h3,h4⟩
  · exact .inl h1
  · exact .inr ⟨hl,m,h1,h2,(hG _ h4.lt).trans h3,h4⟩
theorem av.tag (h:av G d w σ) (hG:∀ b,b<w.heap.size→G' b=G b):av G' d w σ :=
  ⟨h.box,(hG _ (ae h.box)).trans h.tp,h.rf.tag hG,h.rs.tag hG,h.rr.tag hG,h.ru.tag hG,h.rj.tag hG,h.lf,h.lr,fun i x y hx hy=>(h.fu i x y hx hy).tag hG,fun k f y hf hy=>(h.fr k f y hf hy).tag hG⟩
theorem av.gn (h:av G d w σ) (t:Tg):av (Gn G w.heap.size t) d w σ:=h.tag fun _ hb=>Gn.old hb
theorem av.kt (h:av G d w σ) (hk:Kt G d.p S w w') (hS:∀ m j,m≤11→¬ S (m,j)):av G d w' σ :=
  ⟨hk.box h.box fun _ hs=>hS 0 0 (by decide) (h.tp ▸ hs),h.tp,h.rf.kt hk (hS _ _ (by decide)),h.rs.kt hk (hS _ _ (by decide)),h.rr.kt hk (hS _ _ (by decide)),h.ru.kt hk (hS _ _ (by decide)),h.rj.kt hk (hS _ _ (by decide)),h.lf,h.lr,
    fun i x y hx hy=>(h.fu i x y hx hy).kt hk fun m _ hm=>hS m i (by omega),fun k f y hf hy=>(h.fr k f y hf hy).kt hk (hS _ _ (by decide))⟩
theorem av.below (h:av G d w σ) (hb:Below w.heap.size w w'):av G d w' σ:=h.kt (S:=fun _=>False) (Kt.of_below hb) fun _ _ _ h=>h
theorem av.scope' {l:List Vr} {v:Value} (h:av G d w σ) (hk:Kt G d.p (fun t=>t=(0,0)∨t=(2,0)) w w') (hb:w'.heap[d.p]?=some (.cells #[d.vf,v,d.vr,d.vu,d.vj] 78)) (hr:Rw j6 140 4 (Dt G d.p (2,0)) w' v l):av G { d with vs:=v } w' { σ with scope:=l } :=
  ⟨hb,h.tp,h.rf.kt hk (by simp),hr,h.rr.kt hk (by simp),h.ru.kt hk (by simp),h.rj.kt hk (by simp),h.lf,h.lr,fun i x y hx hy=>(h.fu i x y hx hy).kt hk (fun m h1 h2=>by simp;omega),fun k f y hf hy=>(h.fr k f y hf hy).kt hk (by simp)⟩
theorem av.uses' {l:List Us} {v:Value} (h:av G d w σ) (hk:Kt G d.p (fun t=>t=(0,0)∨t=(4,0)) w w') (hb:w'.heap[d.p]?=some (.cells #[d.vf,d.vs,d.vr,v,d.vj] 78)) (hr:Rw ml 39 6 (Dt G d.p (4,0)) w' v l):av G { d with vu:=v } w' { σ with uses:=l } :=
  ⟨hb,h.tp,h.rf.kt hk (by simp),h.rs.kt hk (by simp),h.rr.kt hk (by simp),hr,h.rj.kt hk (by simp),h.lf,h.lr,fun i x y hx hy=>(h.fu i x y hx hy).kt hk (fun m h1 h2=>by simp;omega),fun k f y hf hy=>(h.fr k f y hf hy).kt hk (by simp)⟩
theorem av.jumps' {l:List Jp} {v:Value} (h:av G d w σ) (hk:Kt G d.p (fun t=>t=(0,0)∨t=(5,0)) w w') (hb:w'.heap[d.p]?=some (.cells #[d.vf,d.vs,d.vr,d.vu,v] 78)) (hr:Rw lH 212 5 (Dt G d.p (5,0)) w' v l):av G { d with vj:=v } w' { σ with jumps:=l } :=
  ⟨hb,h.tp,h.rf.kt hk (by simp),h.rs.kt hk (by simp),h.rr.kt hk (by simp),h.ru.kt hk (by simp),hr,h.lf,h.lr,fun i x y hx hy=>(h.fu i x y hx hy).kt hk (fun m h1 h2=>by simp;omega),fun k f y hf hy=>(h.fr k f y hf hy).kt hk (by simp)⟩
theorem av.frames' {l:List Fr} {rs:List Rd} {v:Value} (h:av G d w σ) (hk:Kt G d.p (fun t=>t=(0,0)∨t=(3,0)∨t.1=11) w w') (hb:w'.heap[d.p]?=some (.cells #[d.vf,d.vs,v,d.vu,d.vj] 78)) (hr:Rw fy 115 7 (Dt G d.p (3,0)) w' v (l.zip rs))
    (hl:rs.length=l.length) (hf:∀ (k:Nat) f y,l[k]?=some f→rs[k]?=some y→gt G d.p k w' f y):av G { d with vr:=v,rs:=rs } w' { σ with frames:=l } :=
  ⟨hb,h.tp,h.rf.kt hk (by simp),h.rs.kt hk (by simp),hr,h.ru.kt hk (by simp),h.rj.kt hk (by simp),h.lf,hl,fun i x y hx hy=>(h.fu i x y hx hy).kt hk (fun m h1 h2=>by simp;omega),hf⟩
theorem av.fun' {j:Nat} {x':Fu} {y':Fd} (h:av G d w σ) (hk:Kt G d.p (fun t=>6≤t.1∧t.1≤10∧t.2=j) w w') (hj:∃ y,d.fs[j]?=some y∧y'.b=y.b) (hf:dN G d.p j w' x' y'):av G { d with fs:=d.fs.set j y' } w' (σ.setF j x'):=by
  obtain ⟨y,hy,hyb⟩:=hj
  have e1:(d.fs.set j y').flatMap gK=d.fs.flatMap gK:=by
    have h9:∀ (l:List Fd) (j:Nat),l[j]?=some y→(l.set j y').flatMap gK=l.flatMap gK:=by
      intro l
      induction l with
      | nil=>intro j hj;cases hj
      | cons a r ih =>
        intro j hj;cases j with
        | zero=>cases hj;simp [gK,hyb]
        | succ j=>simp [ih j (by simpa using hj)]
    exact h9 _ _ hy
  have rf:=h.rf.kt hk (by simp);refine ⟨hk.box h.box fun _=>by rw [h.tp];simp,h.tp,⟨by rw [List.length_set,e1];exact rf.own,rf.dom⟩,h.rs.kt hk (by simp),h.rr.kt hk (by simp),h.ru.kt hk (by simp),h.rj.kt hk (by simp),by unfold Sc.setF;simpa using h.lf,h.lr,fun i x z hx hz=>?_,fun k f y hf hy=>(h.fr k f y hf hy).kt hk (by simp)⟩;have hx1:(σ.funs.set j x')[i]?=some x:=hx;have hz1:(d.fs.set j y')[i]?=some z:=hz;rw [List.getElem?_set] at hx1 hz1;rcases Nat.decEq j i with hne|rfl
  · rw [if_neg hne] at hx1 hz1;exact (h.fu i x z hx1 hz1).kt hk (fun m _ _ hs=>hne hs.2.2.symm)
  · rw [if_pos rfl] at hx1 hz1;split at hx1
    · split at hz1
      · cases hx1;cases hz1;exact hf
      · cases hz1
    · cases hx1
theorem av.push' {x':Fu} {y':Fd} {v:Value} (h:av G d w σ) (hk:Kt G d.p (fun t=>t=(0,0)∨t=(1,0)) w w') (hb:w'.heap[d.p]?=some (.cells #[v,d.vs,d.vr,d.vu,d.vj] 78)) (hr:Rw gK 82 1 (Dt G d.p (1,0)) w' v (d.fs++[y'])) (hf:dN G d.p σ.funs.length w' x' y') :
    av G { d with vf:=v,fs:=d.fs++[y'] } w' { σ with funs:=σ.funs++[x'] }:=by
  refine ⟨hb,h.tp,hr,h.rs.kt hk (by simp),h.rr.kt hk (by simp),h.ru.kt hk (by simp),h.rj.kt hk (by simp),by simp [h.lf],h.lr,fun i x z hx hz=>?_,fun k f y hf hy=>(h.fr k f y hf hy).kt hk (by simp)⟩;have hx1:(σ.funs++[x'])[i]?=some x:=hx;have hz1:(d.fs++[y'])[i]?=some z:=hz;rcases Nat.lt_or_ge i σ.funs.length with hi|hi
  · rw [List.getElem?_append_left hi] at hx1;rw [List.getElem?_append_left (by rw [h.lf];exact hi)] at hz1;exact (h.fu i x z hx1 hz1).kt hk (fun m h1 h2=>by simp;omega)
  · have hl:=(KQ hx1).1;simp at hl;have:i=σ.funs.length:=by omega
    subst this;rw [←h.lf] at hz1;simp at hx1 hz1;subst hx1 hz1;exact hf
end
def iO (q:Int × Int):List PanicEntry:=[{ v:=.iface 98 (.agg #[.int .i64 q.1,.int .i64 q.2]),recovered:=false }]
abbrev Own:Tg→Prop:=fun t=>t.1≤11
structure Bd (N:Nat) (σ:Sc):Prop where
  funs:σ.funs.length≤N
  scope:σ.scope.length≤N
  frames:σ.frames.length≤N
  uses:σ.uses.length≤N
  jumps:σ.jumps.length≤N
  fun_:∀ x ∈ σ.funs,x.locals.length≤N∧x.cau.length≤N∧x.own.length=x.ups.length∧x.ups.length≤60
def Bo (k:Nat) (σ σ':Sc):Prop:=∀ N,Bd N σ→Bd (N+k) σ'
theorem Bd.mono {N M:Nat} {σ:Sc} (h:Bd N σ) (hM:N≤M):Bd M σ:=⟨by have:=h.funs;omega,by have:=h.scope;omega,by have:=h.frames;omega,by have:=h.uses;omega,by have:=h.jumps;omega,fun x hx=>by obtain ⟨a,b,c,d⟩:=h.fun_ x hx;exact ⟨by omega,by omega,c,d⟩⟩
theorem Bo.refl {k:Nat} {σ:Sc}:Bo k σ σ:=fun N h=>h.mono (by omega)
theorem Bo.trans {j k m:Nat} {a b c:Sc} (h:Bo j a b) (h':Bo k b c) (hm:j+k≤m):Bo m a c:=fun N hN=>(h' _ (h N hN)).mono (by omega)
theorem Bo.mono {j m:Nat} {a b:Sc} (h:Bo j a b) (hm:j≤m):Bo m a b:=fun N hN=>(h N hN).mono (by omega)
theorem FM {σ:Sc} {fn:Nat} {x y:Fu} (h:y ∈ (σ.setF fn x).funs):y=x∨y ∈ σ.funs:=by
  rcases List.mem_or_eq_of_mem_set (show y ∈ σ.funs.set fn x from h) with h|h
  · exact .inr h
  · exact .inl h
theorem DU (σ:Sc) (fn:Nat):σ.fu fn ∈ σ.funs∨σ.fu fn=qP:=by
  unfold Sc.fu;rw [List.getD_eq_getElem?_getD];cases h:σ.funs[fn]? with
  | none=>exact .inr rfl
  | some x=>exact .inl (KR h)
theorem Bd.fu {N:Nat} {σ:Sc} (h:Bd N σ) (fn:Nat):(σ.fu fn).locals.length≤N∧(σ.fu fn).cau.length≤N∧(σ.fu fn).own.length=(σ.fu fn).ups.length∧(σ.fu fn).ups.length≤60:=by
  rcases DU σ fn with h1|h1
  · exact h.fun_ _ h1
  · rw [h1];simp [qP]
theorem Bd.setF {N:Nat} {σ:Sc} (h:Bd N σ) (fn:Nat) {x:Fu} (hx:x.locals.length≤N∧x.cau.length≤N∧x.own.length=x.ups.length∧x.ups.length≤60):Bd N (σ.setF fn x) :=
  ⟨by unfold Sc.setF;simpa using h.funs,h.scope,h.frames,h.uses,h.jumps,fun y hy=>by
    rcases FM hy with rfl|hy
    · exact hx
    · exact h.fun_ y hy⟩
theorem km {fn:Nat} {line:Int} {x:ByteArray × Int} {σ σ':Sc} (h:bv fn line x σ=.ok σ'):Bo 1 σ σ':=by
  intro N hN;unfold bv at h;split at h
  · cases h
  · cases h;have h1:=hN.fu fn;have h2:=(hN.mono (show N≤N+1 by omega)).setF fn (x:={ σ.fu fn with locals:=(σ.fu fn).locals++[x] }) ⟨by simp;omega,by simp;omega,h1.2.2⟩;exact ⟨h2.funs,by have:=hN.scope;simp;omega,h2.frames,h2.uses,h2.jumps,h2.fun_⟩
theorem mO {α:Type} {f:α→Sc→SR Sc} {m:α→Nat}:∀ {l:List α} {σ σ':Sc},(∀ x ∈ l,∀ σ σ':Sc,f x σ=.ok σ'→Bo (m x) σ σ')→aO f l σ=.ok σ'→Bo (l.map m).sum σ σ'
  | [],σ,σ',_,h=>by cases h;exact Bo.refl
  | x::r,σ,σ',hf,h=>by
    obtain ⟨σ1,h1,h2⟩:=aI h;exact (hf x (by simp) _ _ h1).trans (mO (fun y hy=>hf y (by simp [hy])) h2) (by simp)
theorem yi {α:Type} (l:List α):(l.map fun _=>1).sum=l.length:=by induction l with|nil=>rfl|cons x r ih=>simp [ih];omega
theorem uo {fn:Nat} {line:Int} {l:List (ByteArray × Int)} {σ σ':Sc} (h:aO (bv fn line) l σ=.ok σ'):Bo l.length σ σ' :=
  (mO (m:=fun _=>1) (fun x _ a b h=>km h) h).mono (by rw [yi];exact KU _)
theorem Br (σ:Sc) (fn num:Nat):Bo 1 σ (σ.catch fn num):=fun N hN=>by
  have h1:=hN.fu fn;exact (hN.mono (show N≤N+1 by omega)).setF fn ⟨by simp;omega,by simp;omega,h1.2.2⟩
theorem yE {v:Vr} {line:Int}:∀ {n fn:Nat} {σ:Sc} {r:Nat × Sc},cd n fn v line σ=.ok r→Bo 1 σ r.2
  | 0,_,_,_,h=>by cases h
  | n+1,fn,σ,r,h=>by
    unfold cd at h;split at h
    · cases h;exact Bo.refl
    · obtain ⟨q,h1,h2⟩:=aI h
      have hs:Bo 1 σ q.2:=by
        split at h1
        · cases h1;exact Br _ _ _
        · exact yE h1
      split at h2
      · cases h2
      · rename_i h60;cases h2;intro N hN;have h3:=hs N hN;have h4:=h3.fu fn;exact h3.setF fn ⟨h4.1,h4.2.1,by simp [h4.2.2.1],by simp;omega⟩
theorem ut {fn:Nat} {e:Ex} {set:Bool} {σ:Sc} {r:Int × Nat × Sc} (h1:eo fn e set σ=.ok r):Bo 1 σ r.2.2:=by
  unfold eo at h1;split at h1
  · cases h1;exact Bo.refl
  · split at h1
    · cases h1
    · split at h1
      · cases h1;exact Bo.refl
      · obtain ⟨q,h3,h4⟩:=aI h1;cases h4;exact yE h3
theorem F0 {fn:Nat} {e:Ex} {set:Bool} {σ σ':Sc} (h:gO fn e set σ=.ok σ'):Bo 2 σ σ':=by
  obtain ⟨r,h1,h2⟩:=aI h;have k:=ut h1;cases h2;intro N hN;have h3:=(k N hN).mono (show N+1≤N+2 by omega);exact ⟨h3.funs,h3.scope,h3.frames,by have:=(k N hN).uses;simp;omega,h3.jumps,h3.fun_⟩
theorem vB {fn:Nat} {e:Ex} {set:Bool} {σ σ':Sc} (h:dt fn set e σ=.ok σ'):Bo 2 σ σ':=by
  unfold dt at h;split at h
  · exact F0 h
  · split at h
    · cases h
    · cases h;exact Bo.refl
abbrev ft (E:WE):Prop:=∀ fn set e (σ σ':Sc),E fn set e σ=.ok σ'→Bo (3*e.wy) σ σ'
abbrev fq (B:WB):Prop:=∀ f c (σ σ':Sc),B f c σ=.ok σ'→Bo (3*(St.wys f.list+Ex.wys c)+1) σ σ'
theorem nN (l:List Ex):Ex.wys l=(l.map Ex.wy).sum:=by induction l with|nil=>rfl|cons x r ih=>simp [Ex.wys,ih]
theorem m8 (l:List Fn):Fn.wys l=(l.map Fn.wy).sum:=by induction l with|nil=>rfl|cons x r ih=>simp [Fn.wys,ih]
theorem lO (l:List (ByteArray × Int)):l.length≤jL l:=by
  unfold jL
  induction l with
  | nil=>simp
  | cons x r ih=>simp;omega
theorem xC (l:List ByteArray):l.length≤lU l:=by
  unfold lU
  induction l with
  | nil=>simp
  | cons x r ih=>simp;omega
theorem wI {α:Type} (m:α→Nat) (l:List α):(l.map fun x=>3*m x).sum=3*(l.map m).sum:=by induction l with|nil=>rfl|cons x r ih=>simp [ih];omega
section
variable {E:WE} {B:WB}
theorem fW (hE:ft E) {fn:Nat} {set:Bool} {l:List Ex} {σ σ':Sc} (h:aO (E fn set) l σ=.ok σ'):Bo (3*Ex.wys l) σ σ':=by
  have:=mO (m:=fun x=>3*Ex.wy x) (fun x _ a b h=>hE _ _ _ _ _ h) h
  rwa [wI,←nN] at this
theorem qR (hB:fq B) {up:Int} {f:Fn} {σ σ':Sc} (h:dU B up f σ=.ok σ'):Bo (3*f.wy) σ σ':=by
  obtain ⟨σ2,h1,h2⟩:=aI h;obtain ⟨σ3,h3,h4⟩:=aI h2;have g:Bo f.params.length _ σ2:=(mO (m:=fun _=>1) (fun x _ a b h=>km h) h1).mono (by rw [yi];exact KU _);have k:=hB _ _ _ _ h3;cases h4;intro N hN
  have h0:Bd (N+1) { σ with funs:=σ.funs++[⟨up,f.vararg,[],[],[],[]⟩] }:=by
    have h9:=hN.mono (show N≤N+1 by omega);refine ⟨by have:=hN.funs;simp;omega,h9.scope,h9.frames,h9.uses,h9.jumps,fun x hx=>?_⟩;rcases List.mem_append.1 hx with hx|hx
    · exact h9.fun_ x hx
    · rw [List.mem_singleton.1 hx];simp
  have h5:=k _ (g _ h0);have h6:=xC f.params;have h7:f.wy=1+f.name.size+lU f.params+St.wys f.body:=by cases f;rfl
  have h8:=h5.mono (show _≤N+3*f.wy by simp only [frame,Ex.wys];omega);exact ⟨h8.funs,by have:=h8.scope;simp only [List.length_take];omega,h8.frames,h8.uses,h8.jumps,h8.fun_⟩
theorem CN (hE:ft E) (hB:fq B):ft (jx E B):=by
  intro fn set e σ σ' h;obtain ⟨σ1,h1,h2⟩:=aI h;obtain ⟨σ2,h3,h4⟩:=aI h2;have k3:=mO (m:=fun x=>3*Fn.wy x) (fun x _ a b h=>qR hB h) h4;rw [wI,←m8] at k3;have h7:e.wy=1+e.str.size+Ex.wys e.args+Fn.wys e.funcs:=by cases e;rfl
  exact (vB h1).trans ((fW hE h3).trans k3 (KU _)) (by omega)
theorem yT {P:Prop} (h:P:=by
  exact ⟨h8.funs,by have:=h8.scope;simp only [List.length_take];omega,by have:=h8.frames;simp only [List.length_take];omega,h8.uses,h8.jumps,h8.fun_⟩):P:=h
theorem wt (hB:fq B) {fn:Nat} {s:St} {rep:Bool} {σ σ':Sc} (h:fz E B fn s rep σ=.ok σ'):Bo (2+jL s.names+3*(St.wys (s.blocks.headD [])+Ex.wys (if rep=true then s.right else []))) σ σ':=by
  obtain ⟨σ2,h1,h2⟩:=aI h;obtain ⟨σ3,h3,h4⟩:=aI h2;have g:=uo h1;have k:=hB _ _ _ _ h3;cases h4;intro N hN;have h9:=hN.mono (show N≤N+1 by omega);have h0:Bd (N+1) { σ with frames:=σ.frames++[⟨[],0,fn,true,false,σ.scope.length,[]⟩] }:=⟨h9.funs,h9.scope,by have:=hN.frames;simp;omega,h9.uses,h9.jumps,h9.fun_⟩
  have h5:=k _ (g _ h0);have h6:=lO s.names;have h8:=h5.mono (show _≤N+(2+jL s.names+3*(St.wys (s.blocks.headD [])+Ex.wys (if rep=true then s.right else []))) by simp only [frame];omega);exact yT
theorem rv {fn:Nat} {s:St} {σ σ':Sc}:∀ {l:List Fr},cj fn s σ l=.ok σ'→Bo 1 σ σ'
  | [],h=>by cases h
  | f::r,h=>by
    unfold cj at h
    have J:∀ j:Jp,Bo 1 σ { σ with jumps:=σ.jumps++[j] }:=fun j N hN=>by
      have h9:=hN.mono (show N≤N+1 by omega);exact ⟨h9.funs,h9.scope,h9.frames,h9.uses,by have:=hN.jumps;simp;omega,h9.fun_⟩
    split at h
    · cases h
    · split at h
      · split at h
        · cases h;exact J _
        · exact rv h
      · split at h
        · exact rv h
        · split at h
          · cases h
          · cases h;exact J _
theorem vG (hE:ft E) (hB:fq B) {fn:Nat} {rs:List Ex}:∀ {l:List (List St)} {i:Nat} {σ σ':Sc},fY E B fn rs i l σ=.ok σ'→Bo (3*St.wyss l+3*Ex.wys (rs.drop i)) σ σ'
  | [],_,_,_,h=>by cases h;exact Bo.refl
  | b::r,i,σ,σ',h=>by
    obtain ⟨σ1,h1,h2⟩:=aI h;obtain ⟨σ2,h3,h4⟩:=aI h2;have k2:=hB _ _ _ _ h3;have k3:=vG hE hB h4;simp only [frame,Ex.wys] at k2;cases hc:rs[i]? with
    | none =>
      rw [hc] at h1;cases h1;have h5:=List.getElem?_eq_none_iff.1 hc;have h6:rs.drop (i+1)=rs.drop i:=by rw [List.drop_eq_nil_of_le h5,List.drop_eq_nil_of_le (by omega)]
      rw [h6] at k3;exact k2.trans k3 (by simp only [St.wyss];omega)
    | some c =>
      rw [hc] at h1;have k1:=hE _ _ _ _ _ h1;obtain ⟨h5,h6⟩:=KQ hc;rw [List.drop_eq_getElem_cons h5,h6];exact k1.trans (k2.trans k3 (KU _)) (by simp only [St.wyss,Ex.wys];omega)
theorem xW (hE:ft E) (hB:fq B) {fn:Nat} {s:St} {σ σ':Sc} (h:cy E B fn s σ=.ok σ'):Bo (3*s.wy - 1) σ σ':=by
  have hw:s.wy=1+s.label.size+jL s.names+Ex.wys s.left+Ex.wys s.right+St.wyss s.blocks:=by cases s;rfl
  have hh:s.blocks≠[]→1+St.wys (s.blocks.headD [])≤St.wyss s.blocks:=by
    cases s.blocks with
    | nil=>intro h;exact absurd rfl h
    | cons b r=>intro _;simp only [List.headD_cons,St.wyss];omega
  have hh0:St.wys (s.blocks.headD [])≤St.wyss s.blocks:=by
    cases s.blocks with
    | nil=>simp [St.wys]
    | cons b r=>simp only [List.headD_cons,St.wyss];omega
  have hn:=lO s.names;unfold cy at h;split at h
  · obtain ⟨σ1,h1,h2⟩:=aI h;exact (fW hE h1).trans (uo h2) (by omega)
  split at h
  · obtain ⟨σ1,h1,h2⟩:=aI h;exact (km h1).trans (fW hE h2) (by omega)
  split at h
  · obtain ⟨σ1,h1,h2⟩:=aI h;exact (fW hE h1).trans (fW hE h2) (by omega)
  split at h
  · refine (hB _ _ _ _ h).mono ?_;simp only [frame,Ex.wys];omega
  split at h
  · refine (vG hE hB h).mono ?_;rw [List.drop_zero];omega
  split at h
  · obtain ⟨σ1,h1,h2⟩:=aI h;refine (fW hE h1).trans (wt hB h2) ?_;simp only [Bool.false_eq_true,if_false,Ex.wys];omega
  split at h
  · refine (wt hB h).mono ?_;simp only [if_true];omega
  split at h
  · unfold gM at h;split at h
    · cases h
    · cases h;exact Bo.refl
  split at h
  · exact (rv h).mono (by omega)
  · exact (fW hE h).mono (by omega)
theorem ya (hE:ft E) (hB:fq B) {fn n:Nat}:∀ {l:List St} {i:Nat} {σ σ':Sc},gS E B fn n i l σ=.ok σ'→Bo (3*St.wys l) σ σ'
  | [],_,_,_,h=>by cases h;exact Bo.refl
  | s::r,i,σ,σ',h=>by
    obtain ⟨σ1,h1,h2⟩:=aI h;have h0:Bo 0 σ (eM n i σ):=fun N hN=>⟨hN.funs,hN.scope,by unfold eM;simpa using hN.frames,hN.uses,hN.jumps,hN.fun_⟩;exact (h0.trans (xW hE hB h1) (KU _)).trans (ya hE hB h2) (by simp only [St.wys];omega)
theorem A6 (hE:ft E) (hB:fq B):fq (jp E B):=by
  intro f c σ σ' h;obtain ⟨σ1,h1,h2⟩:=aI h;obtain ⟨σ2,h3,h4⟩:=aI h2;have k:=(ya hE hB h1).trans (fW hE h3) (KU _);cases h4;intro N hN;have h9:=hN.mono (show N≤N+1 by omega);have h0:Bd (N+1) { σ with frames:=σ.frames++[{ f with base:=σ.scope.length,bef:=[] }] }:=⟨h9.funs,h9.scope,by have:=hN.frames;simp;omega,h9.uses,h9.jumps,h9.fun_⟩
  have h8:=(k _ h0).mono (show _≤N+(3*(St.wys f.list+Ex.wys c)+1) by omega);exact yT
end
theorem mo:∀ n,ft (WL n).1∧fq (WL n).2
  | 0=>⟨fun _ _ _ _ _ h=>(by cases h),fun _ _ _ _ h=>(by cases h)⟩
  | n+1=>⟨CN (mo n).1 (mo n).2,A6 (mo n).1 (mo n).2⟩
set_option maxHeartbeats 4000000
set_option maxRecDepth 100000
abbrev NB:Nat:=68719476736
theorem ko (line e:Int) (w:World):Calls Tryz.prog 71 #[.int .i64 line,.int .i64 e] w fun r w'=>r=.panicked (iO (line,e))∧w'=w:=by
  go_enter Tryz.func71,Tryz.ntmps71
  go_wp2_with fail
  exact ⟨rfl,rfl,rfl⟩
theorem xg (l:List Vr) (v:Vr) (fn:Nat):cC (l++[v]) fn=cC l fn+if v.fn=fn then 1 else 0:=by
  unfold cC;rw [List.filter_append,List.length_append];by_cases h:v.fn=fn <;> simp [h]
theorem mn (x:Vr):(j6 x).length=4:=rfl
theorem rU {G:Nat→Tg} {d:Wk} {σ:Sc} (frm fn:Nat) (w:World) (hf:frm≤σ.scope.length) (hN:σ.scope.length≤NB) (h:av G d w σ) :
    Calls Tryz.prog 70 #[.pointer (some ⟨d.p,0,none⟩),.int .i64 frm,.int .i64 fn] w fun e w'=>e=.returned (.int .i64 (cC (σ.scope.drop frm) fn))∧Below w.heap.size w w':=by
  unfold NB at hN;have kb:=fun j=>ac h.box j;have kz:=ae h.box;rcases h.rs.at_ mn with ⟨hv,h0⟩|⟨g,c,hv,hD,hg,hc,hcm,hr⟩
  · rw [hv] at kb;have e0:frm=0:=by rw [h0] at hf;simpa using hf
    have e1:cC (σ.scope.drop frm) fn=0:=by rw [h0];simp [cC]
    rw [e1];subst e0;clear h hv h0 hf hN e1
    go_enter Tryz.func70,Tryz.ntmps70
    go_wp2_with fail
    go_loopg [7,17] 0 (fun gk n i wr=>gk=0∧n=.int .i64 0∧i=.int .i64 0∧wr=w)
    case atStart=>exact ⟨rfl,rfl,rfl,rfl⟩
    case round =>
    obtain ⟨rfl,rfl,rfl,rfl⟩:=hrel
    go_wp2_with fail
    go_ret;exact ⟨rfl,Below.refl _ _⟩
  · rw [hv] at kb;obtain ⟨L,hL⟩:∃ L,L=σ.scope.length:=⟨_,rfl⟩
    rw [←hL] at kb hf hc hN;unfold maxLen at hcm;have i1:(frm:Int)≤(L:Int):=by omega
    have i2:(L:Int)≤(c:Int):=by omega
    rcases Nat.lt_or_ge frm L with hlt|hge
    · obtain ⟨R,hRR⟩:∃ R,R=cC (σ.scope.drop frm) fn:=⟨_,rfl⟩
      have HR:=hI (show ∀ (i:Nat) x,(σ.scope.drop frm)[i]?=some x→w.rangeAt g (frm*4+i*4) (j6 x) from fun i x hx=>by
        rw [List.getElem?_drop] at hx;have:=hr (frm+i) x hx
        rwa [Nat.add_mul] at this)
      have hdl:(σ.scope.drop frm).length=L - frm:=by rw [List.length_drop,hL]
      generalize hl:σ.scope.drop frm=l at *;rw [←hRR];have HRR:=hI hRR;have HDL:=hI hdl;clear h hv hr hL hRR hl hdl;have hcf:¬ c=frm:=by omega
      go_enter Tryz.func70,Tryz.ntmps70
      go_wp2_with fail
      go_loopg [7,17] l.length (fun gk n i wr=>∃ k:Nat,gk+k=l.length∧i=.int .i64 k∧n=.int .i64 (cC (l.take k) fn)∧Below w.heap.size w wr)
      case atStart=>exact ⟨0,by omega,rfl,rfl,Below.refl _ _⟩
      case round =>
      obtain ⟨k,hk,rfl,rfl,hb⟩:=hrel;have HK:=hI hk;have HB:=hI hb;by_cases hlt2:k<L - frm
      · obtain ⟨y,hy⟩:∃ y,l[k]?=some y:=⟨_,KP (by rw [HDL.out];exact hlt2)⟩
        have hr:=HR.out k y hy;have c0:=(hb.cell hg).trans (hr 0 _ rfl);have c1:=(hb.cell hg).trans (hr 1 _ rfl);have c2:=(hb.cell hg).trans (hr 2 _ rfl);have c3:=(hb.cell hg).trans (hr 3 _ rfl);simp only [Nat.add_zero] at c0;have hsz:=hb.size;have hgw:g<wr.heap.size:=KS hg hsz;have hgn:¬ wr.heap.size=g:=by omega
        have HT:=hI (show l.take (k+1)=l.take k++[y] from by rw [List.take_add_one,hy];rfl);have hon:cC (l.take k) fn≤k:=KT (List.length_filter_le _ _) (by rw [List.length_take];omega);clear hr hy hk;by_cases he:y.fn=fn
        · have hq:((y.fn:Int)==(fn:Int))=true:=by rw [he];simp
          have HE:=hI he;clear he
          go_wp2_with fail
          go_roundg (gk - 1)
          case rel=>exact ⟨k+1,by have:=HK.out;have:=HDL.out;omega,by go_num,by rw [HT.out,xg,if_pos HE.out];go_num,bw⟩
          case measure=>have:=HK.out;have:=HDL.out;omega
        · have hq:((y.fn:Int)==(fn:Int))=false:=by simp;omega
          have HE:=hI he;clear he
          go_wp2_with fail
          go_roundg (gk - 1)
          case rel=>exact ⟨k+1,by have:=HK.out;have:=HDL.out;omega,by go_num,by rw [HT.out,xg,if_neg HE.out];rfl,bw⟩
          case measure=>have:=HK.out;have:=HDL.out;omega
      · have hke:l.take k=l:=List.take_of_length_le (by rw [HDL.out];omega);have e2:cC (l.take k) fn=R:=by rw [hke];exact HRR.out.symm
        rw [e2];clear e2 hke
        go_wp2_with fail
        go_ret;exact ⟨rfl,HB.out⟩
    · have e0:frm=L:=by omega
      have e1:cC (σ.scope.drop frm) fn=0:=by rw [List.drop_eq_nil_of_le (by omega)];rfl
      rw [e1];subst e0;clear h hv hr hL e1
      go_enter Tryz.func70,Tryz.ntmps70
      go_wp2_with fail
      all_goals
        go_loopg [7,17] 0 (fun gk n i wr=>gk=0∧n=.int .i64 0∧i=.int .i64 0∧wr=w)
        case atStart=>exact ⟨rfl,rfl,rfl,rfl⟩
        case round =>
        obtain ⟨rfl,rfl,rfl,rfl⟩:=hrel
        go_wp2_with fail
        go_ret;exact ⟨rfl,Below.refl _ _⟩
theorem GM {G:Nat→Tg} {d:Wk} {σ:Sc} (fn:Nat) (w:World) (hN:σ.scope.length≤NB) (h:av G d w σ) :
    Calls Tryz.prog 70 #[.pointer (some ⟨d.p,0,none⟩),.int .i64 0,.int .i64 fn] w fun e w'=>e=.returned (.int .i64 (cC σ.scope fn))∧Below w.heap.size w w':=rU 0 fn w (Nat.zero_le _) hN h
theorem oe {a b:ByteArray} (h:a.data.toList=b.data.toList):a=b:=by cases a;cases b;simp at h;congr
def lz (name:ByteArray) (l:List Vr):Nat→Option Vr
  | 0=>none
  | k+1=>match l[k]? with
    | some v=>if v.name=name then some v else lz name l k
    | none=>none
theorem uV (name:ByteArray) (l:List Vr):∀ k,k≤l.length→lz name l k=gH name (l.take k)
  | 0,_=>rfl
  | k+1,h=>by
    obtain ⟨v,hv⟩:∃ v,l[k]?=some v:=⟨_,KP (by omega)⟩
    unfold lz gH;rw [hv,List.take_add_one,hv];simp only [Option.toList_some,List.reverse_append,List.reverse_cons,List.reverse_nil,List.nil_append,List.cons_append,List.find?_cons];by_cases he:v.name=name
    · rw [if_pos he,decide_eq_true he]
    · rw [if_neg he,uV name l k (by omega),decide_eq_false he];rfl
def yJ:Vr:=⟨⟨#[]⟩,0,0,0⟩
theorem yU {P:Prop} (h:P:=by
  go_wp2_with fail
  have hY:=xM HX.out (.string ⟨#[]⟩) (.int .i64 0) (.int .i64 0) (.int .i64 0);refine bodyPost_ret (v:=.tuple #[.agg #[.string ⟨#[]⟩,.int .i64 0,.int .i64 0,.int .i64 0],.bool false]) (by simp [results,Tryz.results173,go_sem,ac hY,ag hY]) rfl ?_;exact ⟨rfl,by have:=HB1.out;exact bw⟩):P:=h
theorem C1 {G:Nat→Tg} {d:Wk} {σ:Sc} (name:ByteArray) (w:World) (hN:σ.scope.length≤NB) (h:av G d w σ) :
    Calls Tryz.prog 173 #[.pointer (some ⟨d.p,0,none⟩),.string name] w fun e w'=>e=.returned (.tuple #[.agg (j6 ((gH name σ.scope).getD yJ)).toArray,.bool (gH name σ.scope).isSome])∧Below w.heap.size w w':=by
  unfold NB at hN;have HF:=hI (uV name σ.scope σ.scope.length (KU _));rw [List.take_length] at HF;obtain ⟨v0,hv0⟩:∃ v0,v0=gH name σ.scope:=⟨_,rfl⟩
  rw [←hv0];have HV:=hI (show lz name σ.scope σ.scope.length=v0 from HF.out.trans hv0.symm);clear hv0 HF;have kb:=fun j=>ac h.box j;have kz:=ae h.box;rcases h.rs.at_ mn with ⟨hv,h0⟩|⟨g,c,hv,hD,hg,hc,hcm,hr⟩
  · rw [hv] at kb;have hv1:v0=none:=by rw [←HV.out,h0];rfl
    subst hv1;clear h hv h0 hN HV
    go_enter Tryz.func173,Tryz.ntmps173
    go_wp2_with fail
    go_loopg [6] 0 (fun gk i wr=>gk=0∧i=.int .i64 (-1)∧wr=w.alloc (Obj.cells #[.string ⟨#[]⟩,.int .i64 0,.int .i64 0,.int .i64 0] 140))
    case atStart=>exact ⟨rfl,rfl,rfl⟩
    case round =>
    obtain ⟨rfl,rfl,hwr⟩:=hrel;have HX:wr.heap[w.heap.size]?=some (.cells #[.string ⟨#[]⟩,.int .i64 0,.int .i64 0,.int .i64 0] 140):=by rw [hwr];exact aA rfl
    have HB1:Below w.heap.size w wr:=by rw [hwr];exact bw
    have HX:=hI HX;have HB1:=hI HB1;clear hwr;have kx:=fun j=>ac HX.out j;have kxz:=ae HX.out;have kxf:=fun j=>ag HX.out j;exact yU
  · rw [hv] at kb;have HR:=hI hr;generalize hl:σ.scope=l at *;clear h hv hr hl hD;unfold maxLen at hcm
    go_enter Tryz.func173,Tryz.ntmps173
    go_wp2_with fail
    obtain ⟨w1,hw1⟩:∃ w1:World,w1=w.alloc (Obj.cells #[.string ⟨#[]⟩,.int .i64 0,.int .i64 0,.int .i64 0] 140):=⟨_,rfl⟩
    rw [←hw1];have HB1:=hI (show Below w.heap.size w w1 from by rw [hw1];exact bw);have HX:=hI (show w1.heap[w.heap.size]?=some (.cells #[.string ⟨#[]⟩,.int .i64 0,.int .i64 0,.int .i64 0] 140) from by rw [hw1];exact aA rfl);have kb1:=fun j=>((HB1.out).cell (p:=⟨d.p,j,none⟩) kz).trans (kb j);have kx:=fun j=>ac HX.out j;have kxz:=ae HX.out;have kxf:=fun j=>ag HX.out j;have kz1:=KS kz HB1.out.size;clear hw1 kb
    go_loopg [6] l.length (fun gk i wr=>∃ k:Nat,gk=k∧k≤l.length∧i=.int .i64 ((k:Int) - 1)∧lz name l k=v0∧wr=w1)
    case atStart=>exact ⟨l.length,rfl,KU _,by go_num,HV.out,rfl⟩
    case round =>
    obtain ⟨k0,rfl,hkl,rfl,hfk,rfl⟩:=hrel;have HFK:=hI hfk;clear hfk;rcases Nat.eq_zero_or_pos gk with hz|hz
    · have e0:v0=none:=by rw [←HFK.out,hz];rfl
      subst e0;rw [show (gk:Int) - 1 = -1 by omega];exact yU
    · obtain ⟨k,hgk⟩:∃ k,gk=k+1:=⟨gk - 1,by omega⟩
      rw [hgk] at HFK;obtain ⟨y,hy⟩:∃ y,l[k]?=some y:=⟨_,KP (by omega)⟩
      have hr:=HR.out k y hy;have c0:=(HB1.out.cell hg).trans (hr 0 _ rfl);have c1:=(HB1.out.cell hg).trans (hr 1 _ rfl);have c2:=(HB1.out.cell hg).trans (hr 2 _ rfl);have c3:=(HB1.out.cell hg).trans (hr 3 _ rfl);simp only [Nat.add_zero] at c0;have e1:(if y.name=name then some y else lz name l k)=v0:=by rw [←HFK.out];show _=(match l[k]? with|some v=>_|none=>_);rw [hy]
      have hgw:g<wr.heap.size:=KS hg HB1.out.size;have hgn:¬ w.heap.size=g:=by omega
      have ek:(gk:Int) - 1=(k:Int):=by omega
      rw [ek];clear hr hy HFK ek;by_cases he:y.name=name
      · rw [if_pos he] at e1;subst e1;have hq:(y.name.toList==name.toList)=true:=by rw [he];simp
        clear he
        go_wp2_with fail
        have hY:=xM HX.out (.string y.name) (.int .i64 y.fn) (.int .i64 y.num) (.int .i64 y.attr);refine bodyPost_ret (v:=.tuple #[.agg #[.string y.name,.int .i64 y.fn,.int .i64 y.num,.int .i64 y.attr],.bool true]) (by simp [results,Tryz.results173,go_sem,ac hY,ag hY]) rfl ?_;exact ⟨rfl,by have:=HB1.out;exact bw⟩
      · rw [if_neg he] at e1;have hq:(y.name.toList==name.toList)=false:=by simpa using fun e=>he (by rw [ByteArray.toList_eq,ByteArray.toList_eq] at e;exact oe e)
        clear he
        go_wp2_with fail
        go_roundg k
        case rel=>exact ⟨k,rfl,by omega,by go_num,e1,rfl⟩
        case measure=>omega
