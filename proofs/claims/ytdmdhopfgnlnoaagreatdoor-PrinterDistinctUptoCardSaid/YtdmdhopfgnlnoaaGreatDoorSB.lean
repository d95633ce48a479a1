/- law07's bare and plain: copies of trees without lines: rows gathered by append, parts of elements in the caller's blocks or in new ones. -/
import Derived.Test.YtdmdhopfgnlnoaaGreatDoorJ0
import Derived.Test.YtdmdhopfgnlnoaaGreatDoorX1
import Derived.Deep.DeepCutAuto
import Derived.Outline
import Derived.BigRegion
namespace Go.Proofs.YtdmdhopfgnlnoaaGreatDoor
open Go.RowKit
set_option linter.unusedVariables false
set_option linter.unusedSimpArgs false
abbrev LF (lo n:Nat):Nat→Prop:=fun b=>b<lo∨n≤b
abbrev Ott (lo n:Nat) (v:Value):Nat→Prop:=fun b=>(b<lo∨n≤b)∧some b≠v.ownBlock
structure jI {α δ:Type} (f:α→δ→List Value) (A:(Nat→Prop)→World→α→δ→Prop) (e:TypeId) (n lo base:Nat) (w:World) (v:Value) (l:List α) (ds:List δ):Prop where
  len:ds.length=l.length
  own:w.ownsRow base e n v l.length ((l.zip ds).flatMap fun p=>f p.1 p.2)
  at_:∀ (i:Nat) (x:α) (d:δ),l[i]?=some x→ds[i]?=some d→A (Ott lo base v) w x d
section
variable {α δ:Type} {f:α→δ→List Value} {A:(Nat→Prop)→World→α→δ→Prop} {e:TypeId} {n lo base:Nat} {w:World} {v:Value} {l:List α} {ds:List δ}
theorem jI.nil:jI f A e n lo base w (.slice none 0 0) [] []:=⟨rfl,World.ownsRow_nil _ _ _ _,fun i x d h=>by simp at h⟩
theorem jI.below (hA:ji A) (h:jI f A e n lo base w v l ds) {w':World} (hb:Below w.heap.size w w'):jI f A e n lo base w' v l ds :=
  ⟨h.len,own_below h.own hb,fun i x d hx hd=>hA _ _ w w' x d (Zb hb) (fun _ h _=>h) (h.at_ i x d hx hd)⟩
theorem jI.alloc (hA:ji A) (h:jI f A e n lo base w v l ds) (o:Obj):jI f A e n lo base (w.alloc o) v l ds:=h.below hA ((Below.refl _ _).alloc (Nat.le_refl _) o)
theorem jI.set (hA:ji A) (h:jI f A e n lo base w v l ds) {p:Addr} (hp:lo≤p.block∧p.block<base) (u:Value):jI f A e n lo base (w.setCell p u) v l ds :=
  ⟨h.len,ownsRow_setCell_below h.own hp.2 u,fun i x d hx hd=>hA _ _ w _ x d ((ZA.refl (Ott lo base v) w).set (by rintro ⟨h1|h1,-⟩ <;> omega) u) (fun _ h _=>h) (h.at_ i x d hx hd)⟩
theorem jI.push (hA:ji A) (h:jI f A e n lo base w v l ds) {w':World} {v':Value} {x:α} {d:δ} (hx:A (Ott lo base v) w x d)
    (h1:w'.ownsRow base e n v' (l.length+1) (((l.zip ds).flatMap fun p=>f p.1 p.2)++f x d)) (h2:w.grownBy w' v.ownBlock) (h3:∀ b,v'.ownBlock=some b→some b=v.ownBlock∨w.heap.size≤b) :
    jI f A e n lo base w' v' (l++[x]) (ds++[d]):=by
  have hG:∀ k,Ott lo base v k→k<w.heap.size→Ott lo base v' k:=fun k hk hl=>⟨hk.1,fun he=>by
    rcases h3 k he.symm with h|h
    · exact hk.2 h
    · omega⟩
  have K:ZA (Ott lo base v) w w':=ZA.grown h2 fun k hk=>hk.2;refine ⟨by simp [h.len],?_,fun i y d' hy hd=>?_⟩
  · rw [List.zip_append h.len.symm];simpa using h1
  · rcases Nat.lt_trichotomy i l.length with hi|rfl|hi
    · rw [List.getElem?_append_left hi] at hy;rw [List.getElem?_append_left (by rw [h.len];exact hi)] at hd;exact hA _ _ w w' y d' K hG (h.at_ i y d' hy hd)
    · rw [List.getElem?_append_right (Nat.le_refl _)] at hy;rw [List.getElem?_append_right (by rw [h.len];exact Nat.le_refl _)] at hd;simp [h.len] at hy hd;subst hy hd;exact hA _ _ w w' _ _ K hG hx
    · rw [List.getElem?_eq_none (by simp;omega)] at hy;cases hy
theorem jI.rows (hA:ji A) (h:jI f A e n lo base w v l ds) (hn:∀ x d,(f x d).length=n):∃ a c,v=.slice a l.length c∧l.length≤c∧c≤maxLen∧Rows (LF lo base) w n (fun x cs=>∃ d,cs=f x d∧A (LF lo base) w x d) l a:=by
  have hl:(l.zip ds).length=l.length:=by rw [List.length_zip,h.len];omega
  have hro:=own_rows (f:=fun p:α × δ=>f p.1 p.2) (l:=l.zip ds) (R:=fun p cs=>cs=f p.1 p.2) (by rw [hl];exact h.own) (fun p=>hn _ _) (fun _ _=>rfl);obtain ⟨a,c,hv,hc,hm,b,off,h1,h2⟩:=hro;rw [hl] at hv hc;refine ⟨a,c,hv,hc,hm,b,off,fun hne=>?_,fun i x hx=>?_⟩
  · have:=h1 (by intro h0;rw [h0] at hl;simp at hl;exact hne (List.length_eq_zero_iff.1 hl.symm));exact ⟨this.1,.inr this.2.1.1,this.2.2⟩
  · have hi:i<l.length:=(List.getElem?_eq_some_iff.1 hx).1;obtain ⟨d,hd⟩:∃ d,ds[i]?=some d:=⟨_,List.getElem?_eq_getElem (by rw [h.len];exact hi)⟩
    obtain ⟨cs,hc,hr⟩:=h2 i (x,d) (by rw [List.getElem?_zip_eq_some];exact ⟨hx,hd⟩);exact ⟨cs,hc,d,hr,hA _ _ w w x d (ZA.refl _ _) (fun _ h _=>h.1) (h.at_ i x d hx hd)⟩
end
theorem jI.app {α δ:Type} {f:α→δ→List Value} {A:(Nat→Prop)→World→α→δ→Prop} {e:TypeId} {n lo base:Nat} {w w3 w':World} {v v':Value} {l:List α} {ds:List δ} {o:Obj} {x:α} {d:δ}
    (hA:ji A) (h:jI f A e n lo base w v l ds) (hb:Below w.heap.size w w3) (hx:A (LF lo w.heap.size) w3 x d) (hbase:lo≤base∧base≤w.heap.size) {m:Nat} {X:List Value} (hm:l.length=m) (hX:X=(l.zip ds).flatMap fun p=>f p.1 p.2)
    (h1:w'.ownsRow base e n v' (m+1) (X++f x d)) (h2:(w3.alloc o).grownBy w' v.ownBlock) (h3:∀ b,v'.ownBlock=some b→some b=v.ownBlock∨w3.heap.size+1≤b) :
    jI f A e n lo base w' v' (l++[x]) (ds++[d]):=by
  subst hm hX;refine jI.push hA ((h.below hA hb).alloc hA o) ?_ h1 h2 (fun b hb=>by simpa using h3 b hb);refine hA (LF lo w.heap.size) _ w3 _ x d ((ZA.refl _ _).alloc o) (fun k hk _=>⟨hk.imp id (Nat.le_trans hbase.2),fun he=>?_⟩) hx;have h9:=h.own.lt k he.symm;rcases hk with h8|h8 <;> omega
theorem jI.lt {α δ:Type} {f:α→δ→List Value} {A:(Nat→Prop)→World→α→δ→Prop} {e:TypeId} {n lo base:Nat} {w w':World} {v:Value} {l:List α} {ds:List δ}
    (hA:ji A) (h:jI f A e n lo base w v l ds) (hk:ZA (Lt w.heap.size) w w'):jI f A e n lo base w' v l ds:=by
  refine ⟨h.len,⟨h.own.1,?_⟩,fun i x d hx hd=>hA (fun k=>Ott lo base v k∧k<w.heap.size) _ w w' x d (hk.weak fun k hk=>hk.2) (fun k h _=>h.1) (hA _ _ w w x d (ZA.refl _ _) (fun k h1 h2=>⟨h1,h2⟩) (h.at_ i x d hx hd))⟩;rcases h.own.2 with h2|⟨g,cap,cur,hv,hg,hh,hr⟩
  · exact .inl h2
  · have hgl:=(h.own.lt g (by rw [hv];rfl)).2;exact .inr ⟨g,cap,cur,hv,hg,by rw [hk.block g hgl hgl];exact hh,hr⟩
theorem jI.next {α δ:Type} {f:α→δ→List Value} {A:(Nat→Prop)→World→α→δ→Prop} {e:TypeId} {n lo base:Nat} {w w3 W w':World} {v v':Value} {l:List α} {ds:List δ} {x:α} {d:δ}
    (hA:ji A) (h:jI f A e n lo base w v l ds) (hb:Below w.heap.size w w3) (hx:A (LF lo w.heap.size) w3 x d) (hbase:lo≤base∧base≤w.heap.size) (hW:Below w3.heap.size w3 W) {m:Nat} {X:List Value} (hm:l.length=m) (hX:X=(l.zip ds).flatMap fun p=>f p.1 p.2)
    (h1:w'.ownsRow base e n v' (m+1) (X++f x d)) (h2:W.grownBy w' v.ownBlock) (h3:∀ b,v'.ownBlock=some b→some b=v.ownBlock∨W.heap.size≤b) :
    jI f A e n lo base w' v' (l++[x]) (ds++[d]):=by
  subst hm hX;refine jI.push hA ((h.below hA hb).below hA hW) ?_ h1 h2 h3;refine hA (LF lo w.heap.size) _ w3 W x d (Zb hW) (fun k hk _=>⟨hk.imp id (Nat.le_trans hbase.2),fun he=>?_⟩) hx;have h9:=h.own.lt k he.symm;rcases hk with h8|h8 <;> omega
theorem Xj {α β:Type} {f:α→β} {l:List α} {k:Nat} {y:α} (hy:l[k]?=some y):(l.take (k+1)).map f=(l.take k).map f++[f y]:=by
  rw [List.take_add_one,hy];simp
theorem XC {α β:Type} {f:α→β} {l:List α} {k:Nat} (hk:k≤l.length):((l.take k).map f).length=k:=by simp;omega
theorem set_set (cs:Array Value) (i:Nat) (a b:Value):(cs.setIfInBounds i a).setIfInBounds i b=cs.setIfInBounds i b:=by simp
structure Cpy {α δ:Type} (lo:Nat) (w wr:World) (gb:Nat) (cs:Array Value) (p:Nat) (T:TypeId) (R:World→Prop) (f:α→δ→List Value) (A:(Nat→Prop)→World→α→δ→Prop) (e:TypeId) (n:Nat) (v:World) (v6:Value) (l:List α) (ds:List δ):Prop where
  below:Below w.heap.size w v
  keep:ZA (Lt wr.heap.size) wr v
  hg:wr.heap.size<gb
  hv:gb≤v.heap.size
  box:v.heap[wr.heap.size]?=some (.cells (cs.setIfInBounds p v6) T)
  rest:R v
  gath:jI f A e n lo gb v v6 l ds
abbrev Par (lo b gb:Nat):Nat→Prop:=fun k=>k<lo∨Seg (b+1) gb k
section
variable {α δ:Type} {lo:Nat} {w wr:World} {gb:Nat} {cs:Array Value} {p:Nat} {T:TypeId} {R:World→Prop} {f:α→δ→List Value} {A:(Nat→Prop)→World→α→δ→Prop} {e:TypeId} {n:Nat} {v:World} {v6:Value} {l:List α} {ds:List δ}
theorem Cpy.step (hA:ji A) (hR:∀ a b,ZA (Par lo wr.heap.size gb) a b→R a→R b) (hlo:lo≤wr.heap.size) (hw:w.heap.size≤wr.heap.size) (h:Cpy lo w wr gb cs p T R f A e n v v6 l ds) {v1 W w8:World} {v8:Value} {x:α} {d:δ} (hb:Below v.heap.size v v1) (hx:A (LF lo v.heap.size) v1 x d)
    (hW:Below v1.heap.size v1 W) {m:Nat} {X:List Value} (hm:l.length=m) (hX:X=(l.zip ds).flatMap fun p=>f p.1 p.2) (hown:w8.ownsRow gb e n v8 (m+1) (X++f x d)) (hgrow:W.grownBy w8 v6.ownBlock) (hat:∀ b,v8.ownBlock=some b→some b=v6.ownBlock∨W.heap.size≤b) :
    Cpy lo w wr gb cs p T R f A e n (w8.setCell ⟨wr.heap.size,p,none⟩ v8) v8 (l++[x]) (ds++[d]):=by
  have hg:=h.hg;have hvv:=h.hv;have hvW:v.heap.size≤W.heap.size:=Nat.le_trans hb.size hW.size;have hW8:=hgrow.size;have hol:=h.gath.own.lt;have hbvW:Below v.heap.size v W:=thru hW hb;have K1:ZA (fun b=>b<gb) W w8:=ZA.grown hgrow (fun k hk he=>by have:=(hol k he.symm).1;omega);have K2:∀ F:Nat→Prop,(∀ k,F k→k<gb)→¬ F wr.heap.size→ZA F v (w8.setCell ⟨wr.heap.size,p,none⟩ v8):=fun F h1 h2=>((Zb hbvW:ZA F v W).trans (K1.weak h1) (fun _ h _=>h)).set h2 v8;have hbx8:=yb hgrow (VY hbvW h.box) (by intro he;have:=(hol _ he.symm).1;omega);refine ⟨ze (Below.grown (thru hbvW h.below) hgrow (by have:=h.below.size;omega) (fun k hk=>by have:=(hol k hk).1;omega)) (by show w.heap.size≤wr.heap.size;exact hw) _,h.keep.trans (K2 (Lt wr.heap.size) (fun k hk=>by have h9:k<wr.heap.size:=hk;omega) (by show ¬ wr.heap.size<wr.heap.size;omega)) (fun _ h _=>h),hg,by simp;omega,?_,?_,?_⟩
  · have:=Xk hbx8 p v8;rw [set_set] at this;exact this
  · exact hR _ _ (K2 _ (fun k hk=>by rcases hk with h|h;omega;exact h.2) (by rintro (h1|⟨h1,-⟩) <;> omega)) h.rest
  · refine jI.set hA ?_ ⟨hlo,hg⟩ _;exact h.gath.next hA hb hx ⟨by omega,hvv⟩ hW hm hX hown hgrow hat
end
def BareC (n:Nat):Prop:=∀ (l:List Ex) (a:Option Addr) (c lo:Nat) (w:World),(∀ x ∈ l,x.sz≤n)→l.length≤c→c≤MX→l.length*104≤LM→lo≤w.heap.size→Ex.Ats (Lt lo) w l a→Calls Tryz.prog 19 #[.slice a l.length c] w fun e w'=>∃ a' c',e=.returned (.slice a' l.length c')∧l.length≤c'∧c'≤MX∧Ex.Ats (LF lo w.heap.size) w' (l.map (Ex.ml Z)) a'∧Below w.heap.size w w'
def Um (n:Nat):Prop:=∀ (l:List St) (a:Option Addr) (c lo:Nat) (w:World),(∀ x ∈ l,x.sz≤n)→l.length≤c→c≤MX→l.length*128≤LM→lo≤w.heap.size→St.Ats (Lt lo) w l a→Calls Tryz.prog 8 #[.slice a l.length c] w fun e w'=>∃ a' c',e=.returned (.slice a' l.length c')∧l.length≤c'∧c'≤MX∧St.Ats (LF lo w.heap.size) w' (l.map (St.ml Z)) a'∧Below w.heap.size w w'
structure BaHead (lo:Nat) (w:World) (l:List Ex) (wr:World) (k:Nat) (v:Value) (ds:List EA):Prop where
  below:Below w.heap.size w wr
  gath:jI Ex.cells exA 37 8 lo w.heap.size wr v ((l.take k).map (Ex.ml Z)) ds
structure PlHead (lo:Nat) (w:World) (l:List St) (wr:World) (k:Nat) (v:Value) (ds:List SA):Prop where
  below:Below w.heap.size w wr
  gath:jI St.cells stA 44 7 lo w.heap.size wr v ((l.take k).map (St.ml Z)) ds
theorem Z_le (x:Int):QO (Z x):=by unfold Z QO;omega
theorem ml_len (x:Ex) (d:EA):(x.ml Z).cells d=[.int .i64 x.kind,.int .i64 x.op,.int .i64 0,.int .i64 x.p,.int .i64 x.q,.string x.str,.slice d.a x.args.length d.c,.slice d.fa x.funcs.length d.fc]:=by
  obtain ⟨k,o,l,p,q,s,a,f⟩:=x;simp only [Ex.ml,Ex.cells,Ex.kind,Ex.op,Ex.line,Ex.p,Ex.q,Ex.str,Ex.args,Ex.funcs,Ex.mls_map,Fn.mls_map,List.length_map,Z]
theorem mf_len (x:Fn) (d:FA):(x.ml Z).cells d=[.string x.name,.slice d.a x.params.length d.c,.bool x.vararg,.slice d.ba x.body.length d.bc,.int .i64 0]:=by
  obtain ⟨n,p,v,b,l⟩:=x;simp only [Fn.ml,Fn.cells,Fn.name,Fn.params,Fn.vararg,Fn.body,Fn.line,St.mls_map,List.length_map,Z]
theorem ms_len (x:St) (d:SA):(x.ml Z).cells d=[.int .i64 x.kind,.int .i64 0,.slice d.na x.names.length d.nc,.slice d.la x.left.length d.lc,.slice d.ra x.right.length d.rc,.slice d.ba x.blocks.length d.bc,.string x.label]:=by
  obtain ⟨k,l,n,a,b,c,t⟩:=x;simp only [St.ml,St.cells,St.kind,St.line,St.names,St.left,St.right,St.blocks,St.label,Ex.mls_map,St.mlss_map,List.length_map,Z]
theorem plain_done {lo:Nat} {w wr:World} {y:St} {gb:Nat} {cs:Array Value} {na:Option Addr} {nc:Nat} {la:Option Addr} {lc:Nat} {ra:Option Addr} {rc:Nat} {v:World} {v5:Value} {ds:List (Option Addr × Nat)} {d0:SA} {l:List St} {k:Nat} {vo:Value} {dso:List SA} (hlo:lo≤w.heap.size)
    (hh:PlHead lo w l wr k vo dso) (h:Cpy lo w wr gb cs 5 44 (fun u=>Rows (Lt lo) u 2 vY y.names na∧Ex.Ats (Par lo wr.heap.size gb) u (y.left.map (Ex.ml Z)) la∧Ex.Ats (Par lo wr.heap.size gb) u (y.right.map (Ex.ml Z)) ra) blC blA 22 1 v v5 (y.blocks.map (List.map (St.ml Z))) ds) (hay:y.At Ze wr d0) (hn:y.names.length≤nc∧nc≤MX) (hl:y.left.length≤lc∧lc≤MX) (hr:y.right.length≤rc∧rc≤MX) :
    ∃ ba bc,v5=.slice ba y.blocks.length bc∧(y.ml Z).At (Ott lo w.heap.size vo) v ⟨na,nc,la,lc,ra,rc,ba,bc⟩∧jI St.cells stA 44 7 lo w.heap.size v vo ((l.take k).map (St.ml Z)) dso:=by
  have hw:=hh.below.size;have hg:=h.hg;have hol:=hh.gath.own.lt;have ho:∀ b,b<lo∨wr.heap.size≤b→Ott lo w.heap.size vo b:=fun b hb=>⟨by omega,fun he=>by have:=hol b he.symm;omega⟩;obtain ⟨⟨hyk,hyl,hyb⟩,⟨hq1,hq2,hl1,hl2,hr1,hr2,hb1,hb2⟩,-⟩:=St.at_iff.1 hay;obtain ⟨ba,bc,hv,hc1,hc2,hrw⟩:=h.gath.rows Uj (fun _ _=>rfl);rw [List.length_map] at hv hc1;refine ⟨ba,bc,hv,?_,hh.gath.lt jR h.keep⟩;obtain ⟨g1,g2,g3⟩:=h.rest;have e2:=XH (g:=Z) y;have e3:=ju (g:=Z) y;have e4:=XX (g:=Z) y;refine St.at_iff.2 ⟨⟨by rw [XJ];exact hyk,by rw [ms_line];exact Z_le _,by rw [XI];exact hyb⟩,?_,?_,?_,?_,?_⟩
  · rw [e2,e3,e4,jc];simp only [List.length_map];exact ⟨hn.1,⟨hn.2,hq2.2⟩,hl.1,⟨hl.2,hl2.2⟩,hr.1,⟨hr.2,hr2.2⟩,hc1,by unfold maxLen at hc2;unfold MX;exact hc2,hb2.2⟩
  · rw [jc];exact g1.mono (fun b hb _=>ho b (.inl hb)) (fun _ _ _ h=>h)
  · rw [e2];exact Ex.ats_iff.1 (Ex.Ats.mono (fun b hb _=>ho b (by rcases hb with h|h;exact .inl h;exact .inr (by have:=h.1;omega))) g2)
  · rw [e3];exact Ex.ats_iff.1 (Ex.Ats.mono (fun b hb _=>ho b (by rcases hb with h|h;exact .inl h;exact .inr (by have:=h.1;omega))) g3)
  · rw [e4];refine hrw.mono (fun b hb _=>ho b (by rcases hb with h|h;exact .inl h;exact .inr (by omega))) ?_;rintro x cs - ⟨⟨xa,xc⟩,rfl,hq,hat⟩;exact ⟨xa,xc,rfl,hq,St.Ats.mono (fun b hb _=>ho b (by rcases hb with h|h;exact .inl h;exact .inr (by omega))) hat⟩
theorem bare_done {lo:Nat} {w wr:World} {y:Ex} {gb:Nat} {cs:Array Value} {ea:Option Addr} {ec:Nat} {v:World} {v5:Value} {ds:List FA} {d0:EA} {l:List Ex} {k:Nat} {vo:Value} {dso:List EA} (hlo:lo≤w.heap.size)
    (hh:BaHead lo w l wr k vo dso) (h:Cpy lo w wr gb cs 7 37 (fun u=>Ex.Ats (Par lo wr.heap.size gb) u (y.args.map (Ex.ml Z)) ea) Fn.cells fnA 74 5 v v5 (y.funcs.map (Fn.ml Z)) ds) (hay:y.At Ze wr d0) (hl:y.args.length≤ec∧ec≤MX) :
    ∃ ba bc,v5=.slice ba y.funcs.length bc∧(y.ml Z).At (Ott lo w.heap.size vo) v ⟨ea,ec,ba,bc⟩∧jI Ex.cells exA 37 8 lo w.heap.size v vo ((l.take k).map (Ex.ml Z)) dso:=by
  have hw:=hh.below.size;have hg:=h.hg;have hol:=hh.gath.own.lt;have ho:∀ b,b<lo∨wr.heap.size≤b→Ott lo w.heap.size vo b:=fun b hb=>⟨by omega,fun he=>by have:=hol b he.symm;omega⟩;obtain ⟨⟨hyk,hyo,hyl,hyp,hyq,hyb⟩,⟨hq1,hq2,hb1,hb2⟩,-⟩:=Ex.at_iff.1 hay;obtain ⟨ba,bc,hv,hc1,hc2,hrw⟩:=h.gath.rows Uh (fun _ _=>rfl);rw [List.length_map] at hv hc1;refine ⟨ba,bc,hv,?_,hh.gath.lt Xc h.keep⟩;refine Ex.at_iff.2 ⟨⟨by rw [Ex.kind_ml];exact hyk,by rw [Uz];exact hyo,by rw [ml_line];exact Z_le _,by rw [ml_p];exact hyp,by rw [ml_q];exact hyq,by rw [jW];exact hyb⟩,?_,?_,?_⟩
  · rw [jk,KO];simp only [List.length_map];exact ⟨hl.1,⟨hl.2,hq2.2⟩,hc1,by unfold maxLen at hc2;unfold MX;exact hc2,hb2.2⟩
  · rw [jk];exact Ex.ats_iff.1 (Ex.Ats.mono (fun b hb _=>ho b (by rcases hb with h|h;exact .inl h;exact .inr (by have:=h.1;omega))) h.rest)
  · rw [KO];refine hrw.mono (fun b hb _=>ho b (by rcases hb with h|h;exact .inl h;exact .inr (by omega))) ?_;rintro x cs - ⟨d,rfl,hat⟩;exact ⟨d,rfl,Fn.At.mono (fun b hb _=>ho b (by rcases hb with h|h;exact .inl h;exact .inr (by omega))) hat⟩
set_option maxRecDepth 100000 in
set_option maxHeartbeats 8000000 in
theorem plain_step {n:Nat} (hX:∀ m,m<n→BareC m) (hCh:∀ m,m<n→Um m):Um n:=by
  intro l a c lo w hsz hlc hcm hlm hlo hat;have hrow:=St.ats_iff.1 hat;clear hat;have HL:=hI hlm;have hlen:l.length≤9223372036854775807:=by unfold LM at hlm;omega
  unfold MX at hcm;obtain ⟨i1,hj,hy0,hy1,hy2⟩:=info_parts info_stat;obtain ⟨i2,ht,hx0,hx1,hx2⟩:=info_parts info_stats
  go_enter Tryz.func8,Tryz.ntmps8
  go_wp2_with fail
  go_loopg [3,4] l.length (fun gk v i wr=>∃ (k:Nat) (ds:List SA),gk+k=l.length∧i=.int .i64 k∧PlHead lo w l wr k v ds)
  case atStart=>exact ⟨0,[],by omega,rfl,⟨bw,jI.nil⟩⟩
  case round =>
    obtain ⟨k,ds,hkk,rfl,hh⟩:=hrel;obtain ⟨v,rfl⟩:∃ v:Value,v=u3:=⟨_,rfl⟩
    have hbw:=hh.below;have HH:=hI hh;clear hh;have HK:=hI hkk;clear hkk;by_cases hlt:k<l.length
    · obtain ⟨y,hy⟩:∃ y,l[k]?=some y:=⟨_,List.getElem?_eq_getElem hlt⟩
      obtain ⟨ab,ao,h1,h2⟩:=hrow;obtain ⟨rfl,hlb0,hlb⟩:=h1 (by intro h0;rw [h0] at hlt;simp at hlt);obtain ⟨cs,hr,⟨na,nc,la,lc,ra,rc,ba,bc⟩,rfl,haty⟩:=h2 k y hy;have hr':=(Zb hbw:ZA Ze w wr).range trivial hlb hr;have c0:=hr' 0 _ rfl;have c1:=hr' 1 _ rfl;have c2:=hr' 2 _ rfl;have c3:=hr' 3 _ rfl;have c4:=hr' 4 _ rfl;have c5:=hr' 5 _ rfl;have c6:=hr' 6 _ rfl;simp only [Nat.add_zero] at c0;have hay:=haty.keep (Zb hbw) (fun _ h=>h) (G:=Lt lo);have HAY:=hI (haty.keep (Zb hbw) (fun _ _=>trivial) (G:=Ze));obtain ⟨⟨hyk,hyl,hyb⟩,⟨hn1,hn2,hl1,hl2,hr1,hr2,hb1,hb2⟩,hrn,hrl,hrr,hrb⟩:=St.at_iff.1 hay;have hysz:y.sz≤n:=hsz y (List.mem_of_getElem? hy);have HY:=hI hy;clear hy;have hloz:lo≤wr.heap.size:=Nat.le_trans hlo hbw.size;have HR0:=hI hr';have hlbr:ab<wr.heap.size:=Nat.lt_of_lt_of_le hlb hbw.size;clear h1 h2 hr hr' haty hsz hay;have HRN:=hI hrn;clear hrn;have HRB:=hI hrb;clear hrb;have HN2:=hI hn2;have hszl:∀ x ∈ y.left,x.sz≤n - 1:=fun x hx'=>by have:=St.left_lt hx';omega
      have hszr:∀ x ∈ y.right,x.sz≤n - 1:=fun x hx'=>by have:=St.right_lt hx';omega
      have hn0:n - 1<n:=by have:=y.sz_eq;omega
      have HAL:=hI (Ex.ats_iff.2 hrl);clear hrl;have HAR:=hI (Ex.ats_iff.2 hrr);clear hrr;have HB3:=hI (Xd (w:=wr) (o:=.cells #[.int .i64 y.kind,.int .i64 0,.slice na y.names.length nc,.slice la y.left.length lc,.slice ra y.right.length rc,.slice ba y.blocks.length bc,.string y.label] 44) (b:=wr.heap.size) rfl);have tok1:True:=trivial
      go_wp2_with (go_at_call 19;first|(have tk:=tok1;go_loud (refine (hX _ hn0 y.left la lc lo _ hszl hl1 hl2.1 hl2.2 (by simp;omega) (Ex.Ats.keep (F:=Lt lo) (by (repeat with_reducible first|exact ZA.refl _ _|assumption|refine ZA.alloc ?_ _|refine ZA.set ?_ (by first|(simp [Xr];done)|(simp [Xr];omega)) _|refine ZA.drewN ?_ _|refine ZA.drew ?_|refine ZA.thru (by assumption) ?_)) (fun _ h=>h) HAL.out)).mono ?_;rintro e w4 ⟨la',lc',rfl,hlc1,hlc2,hatl,hb⟩;clear tok1;have hb4:=hb;have HB4:=hI (VY hb HB3.out);have HLT:=hI hatl;have hx4:=fun i=>zM HB4.out i;have hx4f:=fun i=>zW HB4.out i;have hx4z:=JK HB4.out))|(go_loud (refine (hX _ hn0 y.right ra rc lo _ hszr hr1 hr2.1 hr2.2 (by have h9:=hb4.size;simp at h9 ⊢;omega) (Ex.Ats.keep (F:=Lt lo) (by (repeat with_reducible first|exact ZA.refl _ _|assumption|refine ZA.alloc ?_ _|refine ZA.set ?_ (by first|(simp [Xr];done)|(simp [Xr];omega)) _|refine ZA.drewN ?_ _|refine ZA.drew ?_|refine ZA.thru (by assumption) ?_)) (fun _ h=>h) HAR.out)).mono ?_;rintro e w5 ⟨ra',rc',rfl,hrc1,hrc2,hatr,hb⟩;have HB5:=hI (VY hb (Xk HB4.out 3 (.slice la' y.left.length lc')));have hb5:=hb;have hx5:=fun i=>zM HB5.out i;have hx5f:=fun i=>zW HB5.out i;have hx5z:=JK HB5.out)))
      have hz0':=hbw.size;have hblen:y.blocks.length≤9223372036854775807:=by have h9:=hb2.2;unfold LM at h9;omega
      have hz4:wr.heap.size+1≤w4.heap.size:=by have h9:=hb4.size;simpa using h9
      have hz5:w4.heap.size≤w5.heap.size:=by have h9:=hb5.size;simpa using h9
      have HB6:=hI (Xk (Xk HB5.out 4 (.slice ra' y.right.length rc')) 5 (.slice none 0 0));obtain ⟨wo,rfl⟩:∃ wo:World,wo=wr:=⟨_,rfl⟩
      obtain ⟨g0,rfl⟩:∃ g0:Nat,g0=gk:=⟨_,rfl⟩
      have hl9:ZA (Lt wo.heap.size) wo ((w5.setCell ⟨wo.heap.size,4,none⟩ (.slice ra' y.right.length rc')).setCell ⟨wo.heap.size,5,none⟩ (.slice none 0 0)):=by (repeat with_reducible first|exact ZA.refl _ _|assumption|refine ZA.alloc ?_ _|refine ZA.set ?_ (by first|(simp [Xr];done)|(simp [Xr];omega)) _|refine ZA.drewN ?_ _|refine ZA.drew ?_|refine ZA.thru (by assumption) ?_)
      go_loopg [6] y.blocks.length (fun gk i v=>∃ (j:Nat) (v5:Value) (es:List (Option Addr × Nat)),gk+j=y.blocks.length∧i=.int .i64 j∧Cpy lo w wo w5.heap.size #[.int .i64 y.kind,.int .i64 0,.slice na y.names.length nc,.slice la' y.left.length lc',.slice ra' y.right.length rc',.slice none 0 0,.string y.label] 5 44 (fun u=>Rows (Lt lo) u 2 vY y.names na∧Ex.Ats (Par lo wo.heap.size w5.heap.size) u (y.left.map (Ex.ml Z)) la'∧Ex.Ats (Par lo wo.heap.size w5.heap.size) u (y.right.map (Ex.ml Z)) ra') blC blA 22 1 v v5 ((y.blocks.take j).map (List.map (St.ml Z))) es)
      case atStart =>
        refine ⟨0,.slice none 0 0,[],by omega,rfl,⟨bw,hl9,by omega,by simp,HB6.out,⟨?_,?_,?_⟩,jI.nil⟩⟩
        · exact HRN.out.keep (hl9.weak fun b (hb:b<lo)=>by show b<wo.heap.size;omega) (fun _ h=>h) (fun _ _ _ h=>h)
        · exact Ex.Ats.keep (F:=Par lo wo.heap.size w4.heap.size) (ZA.set (ZA.set (ZA.thru hb5 (ZA.set (ZA.refl _ _) (by rintro (h|h) <;> simp at h <;> omega) _)) (by rintro (h|h) <;> simp at h <;> omega) _) (by rintro (h|h) <;> simp at h <;> omega) _) (fun b h=>h.imp id fun h=>⟨h.1,by omega⟩) (Ex.Ats.mono (fun b h1 h2=>by rcases h1 with h|h;exact .inl h;exact .inr ⟨by simpa using h,h2⟩) HLT.out)
        · exact Ex.Ats.keep (F:=Par lo wo.heap.size w5.heap.size) (ZA.set (ZA.set (ZA.refl _ _) (by rintro (h|h) <;> simp at h <;> omega) _) (by rintro (h|h) <;> simp at h <;> omega) _) (fun _ h=>h) (Ex.Ats.mono (fun b h1 h2=>by rcases h1 with h|h;exact .inl h;exact .inr ⟨by simp at h;omega,h2⟩) hatr)
      case round =>
        obtain ⟨j,v5,es,hjj,rfl,hin⟩:=hrel;have hbwv:=hin.below;have hkv:=hin.keep;have hgb:=hin.hv;have HIN:=hI hin;clear hin;have HJ:=hI hjj;clear hjj;have d5:=(hkv.range (b:=ab) hlbr hlbr HR0.out) 5 _ rfl;have hlbv:ab<wr.heap.size:=by have:=hkv.size;omega
        have HEB:=hI (show wr.heap[wo.heap.size]?=some (.cells #[.int .i64 y.kind,.int .i64 0,.slice na y.names.length nc,.slice la' y.left.length lc',.slice ra' y.right.length rc',v5,.string y.label] 44) from HIN.out.box);have he:=fun i=>zM HEB.out i;have hef:=fun i=>zW HEB.out i;have hez:=JK HEB.out;by_cases hlt2:j<y.blocks.length
        · obtain ⟨x,hx'⟩:∃ x,y.blocks[j]?=some x:=⟨_,List.getElem?_eq_getElem hlt2⟩
          obtain ⟨bb,bo,p1,p2⟩:=HRB.out;obtain ⟨hba,hb0l,hbbl⟩:=p1 (by intro h0;rw [h0] at hlt2;simp at hlt2);subst hba;obtain ⟨cs,hr9,xa,xc,rfl,hq9,hat9⟩:=p2 j x hx';have hc0:=(hkv.range (b:=bb) hbbl hbbl hr9) 0 _ rfl;have hbbv:bb<wr.heap.size:=by have:=hkv.size;omega
          simp only [Nat.mul_one,Nat.add_zero] at hc0;have HAX:=hI (St.Ats.keep (F:=Lt lo) (hkv.weak fun b (hb:b<lo)=>by show b<wo.heap.size;omega) (fun _ h=>h) hat9);have hxsz:∀ s ∈ x,s.sz≤n - 1:=fun s hs=>by have h8:=St.blocks_lt (List.mem_of_getElem? hx');have h9:=St.sz_mem hs;omega
          have HX:=hI hx';clear hx';have HTL:=hI (XC (f:=List.map (St.ml Z)) (l:=y.blocks) (k:=j) (by omega));obtain ⟨X,hX9⟩:∃ X,X=(((y.blocks.take j).map (List.map (St.ml Z))).zip es).flatMap fun p=>blC p.1 p.2:=⟨_,rfl⟩
          have HXX:=hI hX9;clear hX9;have HB2:=hI hb2.2;have hlv:lo≤wr.heap.size:=by have:=hkv.size;omega
          clear p1 p2 hr9 hat9
          go_upto_region 13 with fail
          go_region_law (first|(go_loud (refine step_append_lies _ rfl (.tmp 38) (.tmp 48) 42 rfl w5.heap.size 22 i2 (.slice none 0 0) 1 24 Tryz.underlying42 ht hx0 hx1 hx2 rfl (by decide) v5 j X (by simp [Act.eval]) (HO.out.alloc _) ⟨w7.heap.size,0,none⟩ 1 1 [.slice xa' x.length xc'] (by simp [Act.eval]) rfl (World.news_of_block (cs:=#[.slice xa' x.length xc']) (by first|exact heap_alloc_new _ _|(simp;done))) (by simp [Value.oneCell']) (by omega) (by have h9:=HB2.out;unfold LM at h9;unfold maxLen;omega) (by have h9:=HB2.out;unfold LM at h9;omega) (by simp;omega) _ rfl ?_;intro g' cap' w8 hown hgrow hat hlt1;have HB8:=hI (yb hgrow (jx HB7.out _) (by intro he;have:=(HO.out.lt _ he.symm).1;omega));have HO8:=hI hown;have HG8:=hI hgrow;have HA8:=hI hat;clear hown hgrow hat;have h8:=fun i=>zM HB8.out i;have h8f:=fun i=>zW HB8.out i;have h8z:=JK HB8.out))|(go_simp;go_at_call 8;go_loud (refine (hCh _ hn0 x xa xc lo _ hxsz hq9.1 hq9.2.1 hq9.2.2 (by simp;omega) (St.Ats.keep (Zb bw) (fun _ h=>h) HAX.out)).mono ?_;rintro e w7 ⟨xa',xc',rfl,hxc1,hxc2,hatx,hb⟩;have HATX:=hI hatx;have hb7:=hI (show Below wr.heap.size wr w7 from bw);have hz7:=hb7.out.size;have HB7:=hI (VY hb HEB.out);have HO:=hI (show w7.ownsRow w5.heap.size 22 1 v5 j X by have h9:=(HIN.out.gath.below Uj hb7.out).own;rw [HTL.out,←HXX.out] at h9;exact h9);have h7:=fun i=>zM HB7.out i;have h7f:=fun i=>zW HB7.out i;have h7z:=JK HB7.out)))
          all_goals
            go_wp2_with fail
            go_roundg (gk - 1)
            case rel =>
              refine ⟨j+1,.slice (some ⟨g',0,none⟩) (j+1) cap',es++[(xa',xc')],by have:=HJ.out;omega,by go_num,?_⟩;rw [Xj HX.out];exact HIN.out.step Uj (fun a b hk h=>⟨h.1.keep (hk.weak fun b hb=>.inl hb) (fun _ h=>h) (fun _ _ _ h=>h),Ex.Ats.keep hk (fun _ h=>h) h.2.1,Ex.Ats.keep hk (fun _ h=>h) h.2.2⟩) hloz hz0' hb7.out ⟨by rw [List.length_map];exact ⟨hxc1,hxc2,hq9.2.2⟩,HATX.out⟩ (Zj (Below.refl _ _) _) HTL.out HXX.out (by rw [show blC (x.map (St.ml Z)) (xa',xc')=[.slice xa' x.length xc'] from by simp [blC]];exact HO8.out) HG8.out (fun b hb=>by cases hb;rcases HA8.out with h|h;exact .inl h.symm;exact .inr (by rw [h];exact Nat.le_refl _))
            case measure=>have:=HJ.out;omega
        · have hje:j=y.blocks.length:=by have:=HJ.out;omega
          subst hje;have hin:=HIN.out;rw [List.take_length] at hin;obtain ⟨ba',bc',hv5,hats,hgo⟩:=plain_done hlo HH.out hin HAY.out ⟨hn1,hn2.1⟩ ⟨hlc1,hlc2⟩ ⟨hrc1,hrc2⟩;subst hv5;have HTS:=hI hats;clear hats;have HGO:=hI hgo;clear hgo hin;have HTL:=hI (XC (f:=St.ml Z) (l:=l) (k:=k) (by omega));obtain ⟨X,hX9⟩:∃ X,X=(((l.take k).map (St.ml Z)).zip ds).flatMap fun p=>St.cells p.1 p.2:=⟨_,rfl⟩
          have HXX:=hI hX9;clear hX9;have HO:=hI (show wr.ownsRow w.heap.size 44 7 v k X by have h9:=HGO.out.own;rw [HTL.out,←HXX.out] at h9;exact h9)
          go_wp2_with (at_builtin;go_loud (refine Yc _ rfl _ _ 22 rfl w.heap.size 44 i1 (.agg #[.int .i64 0,.int .i64 0,.slice none 0 0,.slice none 0 0,.slice none 0 0,.slice none 0 0,.string ⟨#[]⟩]) 7 128 Tryz.underlying22 hj hy0 hy1 hy2 rfl (by decide) _ _ _ rfl (HO.out.alloc _) ⟨wr.heap.size,0,none⟩ 1 1 [.int .i64 y.kind,.int .i64 0,.slice na y.names.length nc,.slice la' y.left.length lc',.slice ra' y.right.length rc',.slice ba' y.blocks.length bc',.string y.label] rfl rfl ?c1 ?c2 (by decide) ?c3 ?c4 ?c5 ?_))
          case c2 =>
            repeat' apply And.intro
            all_goals rfl
          case c3=>have h9:=HL.out;unfold LM at h9;unfold maxLen;omega
          case c4=>have h9:=HL.out;unfold LM at h9;omega
          case c5=>have h9:=hbwv.size;simp;omega
          intro v' w9 hown hgrow hat9;have HO4:=hI hown;clear hown;have HG4:=hI hgrow;clear hgrow;have HA4:=hI hat9;clear hat9
          go_wp2_with fail
          go_roundg (g0 - 1)
          case rel =>
            refine ⟨k+1,ds++[⟨na,nc,la',lc',ra',rc',ba',bc'⟩],by have:=HK.out;omega,by go_num,⟨?_,?_⟩⟩
            · exact Below.grown (Zj hbwv _) HG4.out (by have h9:=hbwv.size;simp;omega) (fun k hk=>(HO.out.lt k hk).1)
            · rw [Xj HY.out];refine jI.push jR (HGO.out.alloc jR _) (jR _ _ _ _ _ _ ((ZA.refl _ _).alloc _) (fun _ h _=>h) HTS.out) ?_ HG4.out (fun b hb=>by simpa using HA4.out b hb);rw [HTL.out,←HXX.out,ms_len];exact HO4.out
          case measure=>have:=HK.out;omega
    · have hke:k=l.length:=by have:=HK.out;omega
      have HKE:=hI hke;clear hke;have hg:=HH.out.gath;rw [HKE.out,List.take_length] at hg;obtain ⟨a',c',hv,hc1,hc2,hrw⟩:=hg.rows jR (fun _ _=>rfl);rw [List.length_map] at hv hc1;subst hv;have HRW:=hI hrw;clear hrw hg
      go_wp2_with fail
      go_ret;exact ⟨_,_,rfl,hc1,by unfold maxLen at hc2;unfold MX;exact hc2,St.ats_iff.2 HRW.out,hbw⟩
theorem Fn.cells_one (x:Fn) (d:FA):∀ u ∈ x.cells d,u.oneCell'=true:=by
  intro u hu;simp only [Fn.cells,List.mem_cons,List.not_mem_nil,or_false] at hu;rcases hu with rfl|rfl|rfl|rfl|rfl <;> rfl
theorem mf_body (x:Fn):(x.ml Z).body=x.body.map (St.ml Z):=by cases x;exact St.mls_map Z _
theorem mf_at {F G:Nat→Prop} {w w0:World} {x:Fn} {pa xa xa':Option Addr} {pc xc xc':Nat} (h0:x.At G w0 ⟨pa,pc,xa,xc⟩) (hp:Rows F w 1 QR x.params pa) (hb:St.Ats F w (x.body.map (St.ml Z)) xa') (h1:x.body.length≤xc') (h2:xc'≤MX):(x.ml Z).At F w ⟨pa,pc,xa',xc'⟩:=by
  obtain ⟨⟨g1,g2⟩,⟨g3,g4,g5,g6⟩,-⟩:=Fn.at_iff.1 h0;have e:=mf_body x;refine Fn.at_iff.2 ⟨⟨by rw [yx];exact g1,by rw [mf_line];exact Z_le _⟩,⟨by rw [KZ];exact g3,by rw [KZ];exact g4,by rw [e,List.length_map];exact h1,h2,by rw [e,List.length_map];exact g6.2⟩,by rw [KZ];exact hp,by rw [e];exact St.ats_iff.1 hb⟩
set_option maxRecDepth 100000 in
set_option maxHeartbeats 8000000 in
theorem bare_step {n:Nat} (hX:∀ m,m<n→BareC m) (hCh:∀ m,m<n→Um m):BareC n:=by
  intro l a c lo w hsz hlc hcm hlm hlo hat;have hrow:=Ex.ats_iff.1 hat;clear hat;have HL:=hI hlm;have hlen:l.length≤9223372036854775807:=by unfold LM at hlm;omega
  unfold MX at hcm;obtain ⟨i1,hj,hy0,hy1,hy2⟩:=info_parts info_expr;obtain ⟨i2,ht,hx0,hx1,hx2⟩:=info_parts info_func
  go_enter Tryz.func19,Tryz.ntmps19
  go_wp2_with fail
  go_loopg [3,4] l.length (fun gk v i wr=>∃ (k:Nat) (ds:List EA),gk+k=l.length∧i=.int .i64 k∧BaHead lo w l wr k v ds)
  case atStart=>exact ⟨0,[],by omega,rfl,⟨bw,jI.nil⟩⟩
  case round =>
    obtain ⟨k,ds,hkk,rfl,hh⟩:=hrel;obtain ⟨v,rfl⟩:∃ v:Value,v=u3:=⟨_,rfl⟩
    have hbw:=hh.below;have HH:=hI hh;clear hh;have HK:=hI hkk;clear hkk;by_cases hlt:k<l.length
    · obtain ⟨y,hy⟩:∃ y,l[k]?=some y:=⟨_,List.getElem?_eq_getElem hlt⟩
      obtain ⟨ab,ao,h1,h2⟩:=hrow;obtain ⟨rfl,hlb0,hlb⟩:=h1 (by intro h0;rw [h0] at hlt;simp at hlt);obtain ⟨cs,hr,⟨ea,ec,fa,fc⟩,rfl,haty⟩:=h2 k y hy;have hr':=(Zb hbw:ZA Ze w wr).range trivial hlb hr;have c0:=hr' 0 _ rfl;have c1:=hr' 1 _ rfl;have c2:=hr' 2 _ rfl;have c3:=hr' 3 _ rfl;have c4:=hr' 4 _ rfl;have c5:=hr' 5 _ rfl;have c6:=hr' 6 _ rfl;have c7:=hr' 7 _ rfl;simp only [Nat.add_zero] at c0;have hay:=haty.keep (Zb hbw) (fun _ h=>h) (G:=Lt lo);have HAY:=hI (haty.keep (Zb hbw) (fun _ _=>trivial) (G:=Ze));obtain ⟨-,⟨hl1,hl2,hf1,hf2⟩,hra,hrf⟩:=Ex.at_iff.1 hay;have hysz:y.sz≤n:=hsz y (List.mem_of_getElem? hy);have HY:=hI hy;clear hy;have hloz:lo≤wr.heap.size:=Nat.le_trans hlo hbw.size;have HR0:=hI hr';have hlbr:ab<wr.heap.size:=Nat.lt_of_lt_of_le hlb hbw.size;clear h1 h2 hr hr' haty hsz hay;have HRF:=hI hrf;clear hrf;have hszl:∀ x ∈ y.args,x.sz≤n - 1:=fun x hx'=>by have:=Ex.args_lt hx';omega
      have hn0:n - 1<n:=by have:=y.sz_eq;omega
      have HAL:=hI (Ex.ats_iff.2 hra);clear hra;have HB3:=hI (Xd (w:=wr) (o:=.cells #[.int .i64 y.kind,.int .i64 y.op,.int .i64 0,.int .i64 y.p,.int .i64 y.q,.string y.str,.slice ea y.args.length ec,.slice fa y.funcs.length fc] 37) (b:=wr.heap.size) rfl)
      go_wp2_with (go_at_call 19;go_loud (refine (hX _ hn0 y.args ea ec lo _ hszl hl1 hl2.1 hl2.2 (by simp;omega) (Ex.Ats.keep (F:=Lt lo) (by (repeat with_reducible first|exact ZA.refl _ _|assumption|refine ZA.alloc ?_ _|refine ZA.set ?_ (by first|(simp [Xr];done)|(simp [Xr];omega)) _|refine ZA.drewN ?_ _|refine ZA.drew ?_|refine ZA.thru (by assumption) ?_)) (fun _ h=>h) HAL.out)).mono ?_;rintro e w5 ⟨ea',ec',rfl,hec1,hec2,hatl,hb⟩;have hb5:=hb;have HB5:=hI (VY hb HB3.out);have hx5:=fun i=>zM HB5.out i;have hx5f:=fun i=>zW HB5.out i;have hx5z:=JK HB5.out))
      have hz0':=hbw.size;have hblen:y.funcs.length≤9223372036854775807:=by have h9:=hf2.2;unfold LM at h9;omega
      have hz5:wr.heap.size+1≤w5.heap.size:=by have h9:=hb5.size;simpa using h9
      have HB6:=hI (Xk (Xk HB5.out 6 (.slice ea' y.args.length ec')) 7 (.slice none 0 0));obtain ⟨wo,rfl⟩:∃ wo:World,wo=wr:=⟨_,rfl⟩
      obtain ⟨g0,rfl⟩:∃ g0:Nat,g0=gk:=⟨_,rfl⟩
      have hl9:ZA (Lt wo.heap.size) wo ((w5.setCell ⟨wo.heap.size,6,none⟩ (.slice ea' y.args.length ec')).setCell ⟨wo.heap.size,7,none⟩ (.slice none 0 0)):=by (repeat with_reducible first|exact ZA.refl _ _|assumption|refine ZA.alloc ?_ _|refine ZA.set ?_ (by first|(simp [Xr];done)|(simp [Xr];omega)) _|refine ZA.drewN ?_ _|refine ZA.drew ?_|refine ZA.thru (by assumption) ?_)
      go_loopg [6] y.funcs.length (fun gk i v=>∃ (j:Nat) (v5:Value) (es:List FA),gk+j=y.funcs.length∧i=.int .i64 j∧Cpy lo w wo w5.heap.size #[.int .i64 y.kind,.int .i64 y.op,.int .i64 0,.int .i64 y.p,.int .i64 y.q,.string y.str,.slice ea' y.args.length ec',.slice none 0 0] 7 37 (fun u=>Ex.Ats (Par lo wo.heap.size w5.heap.size) u (y.args.map (Ex.ml Z)) ea') Fn.cells fnA 74 5 v v5 ((y.funcs.take j).map (Fn.ml Z)) es)
      case atStart =>
        refine ⟨0,.slice none 0 0,[],by omega,rfl,⟨bw,hl9,by omega,by simp,HB6.out,?_,jI.nil⟩⟩;exact Ex.Ats.keep (F:=Par lo wo.heap.size w5.heap.size) (ZA.set (ZA.set (ZA.refl _ _) (by rintro (h|h) <;> simp at h <;> omega) _) (by rintro (h|h) <;> simp at h <;> omega) _) (fun _ h=>h) (Ex.Ats.mono (fun b h1 h2=>by rcases h1 with h|h;exact .inl h;exact .inr ⟨by simp at h;omega,h2⟩) hatl)
      case round =>
        obtain ⟨j,v5,es,hjj,rfl,hin⟩:=hrel;have hbwv:=hin.below;have hkv:=hin.keep;have hgb:=hin.hv;have HIN:=hI hin;clear hin;have HJ:=hI hjj;clear hjj;have d7:=(hkv.range (b:=ab) hlbr hlbr HR0.out) 7 _ rfl;have hlbv:ab<wr.heap.size:=by have:=hkv.size;omega
        have HEB:=hI (show wr.heap[wo.heap.size]?=some (.cells #[.int .i64 y.kind,.int .i64 y.op,.int .i64 0,.int .i64 y.p,.int .i64 y.q,.string y.str,.slice ea' y.args.length ec',v5] 37) from HIN.out.box);have he:=fun i=>zM HEB.out i;have hef:=fun i=>zW HEB.out i;have hez:=JK HEB.out;by_cases hlt2:j<y.funcs.length
        · obtain ⟨x,hx'⟩:∃ x,y.funcs[j]?=some x:=⟨_,List.getElem?_eq_getElem hlt2⟩
          obtain ⟨bb,bo,p1,p2⟩:=HRF.out;obtain ⟨hba,hb0l,hbbl⟩:=p1 (by intro h0;rw [h0] at hlt2;simp at hlt2);subst hba;obtain ⟨cs,hr9,⟨pa,pc,xa,xc⟩,rfl,hat9⟩:=p2 j x hx';have hr8:=hkv.range (b:=bb) hbbl hbbl hr9;have f0:=hr8 0 _ rfl;have f1:=hr8 1 _ rfl;have f2:=hr8 2 _ rfl;have f3:=hr8 3 _ rfl;have f4:=hr8 4 _ rfl;have hbbv:bb<wr.heap.size:=by have:=hkv.size;omega
          simp only [Nat.add_zero] at f0;have HAX:=hI (Fn.At.keep (F:=Lt lo) (hkv.weak fun b (hb:b<lo)=>by show b<wo.heap.size;omega) (fun _ h=>h) hat9);obtain ⟨-,⟨hp1,hp2,hq1,hq2⟩,hrp,hrb⟩:=Fn.at_iff.1 HAX.out;have HRB:=hI (St.ats_iff.2 hrb);clear hrb;have HRP:=hI hrp;clear hrp;have hxsz:∀ s ∈ x.body,s.sz≤n - 1:=fun s hs=>by have h8:=Ex.body_lt (List.mem_of_getElem? hx');have h9:=St.sz_mem hs;omega
          have HX:=hI hx';clear hx';have HTL:=hI (XC (f:=Fn.ml Z) (l:=y.funcs) (k:=j) (by omega));obtain ⟨X,hX9⟩:∃ X,X=(((y.funcs.take j).map (Fn.ml Z)).zip es).flatMap fun p=>Fn.cells p.1 p.2:=⟨_,rfl⟩
          have HXX:=hI hX9;clear hX9;have hlv:lo≤wr.heap.size:=by have:=hkv.size;omega
          have hne:wo.heap.size≠wr.heap.size:=by omega
          have hne2:wr.heap.size≠wo.heap.size:=by omega
          have HF3:=hI (Xd (w:=wr) (o:=.cells #[.string x.name,.slice pa x.params.length pc,.bool x.vararg,.slice xa x.body.length xc,.int .i64 0] 74) (b:=wr.heap.size) rfl);clear p1 p2 hr9 hat9 hr8
          go_wp2_with (first|(go_at_call 8;go_loud (refine (hCh _ hn0 x.body xa xc lo _ hxsz hq1 hq2.1 hq2.2 (by simp;omega) (St.Ats.keep (F:=Lt lo) (by (repeat with_reducible first|exact ZA.refl _ _|assumption|refine ZA.alloc ?_ _|refine ZA.set ?_ (by first|(simp [Xr];done)|(simp [Xr];omega)) _|refine ZA.drewN ?_ _|refine ZA.drew ?_|refine ZA.thru (by assumption) ?_)) (fun _ h=>h) HRB.out)).mono ?_;rintro e w7 ⟨xa',xc',rfl,hxc1,hxc2,hatx,hb⟩;have HATX:=hI hatx;have hb7:=hb;have HF7:=hI (VY hb HF3.out);have HE7:=hI (VY hb (jx HEB.out _));have hbs:=hI (show Below wr.heap.size wr (w7.setCell ⟨wr.heap.size,3,none⟩ (.slice xa' x.body.length xc')) from bw);have HO:=hI (show (w7.setCell ⟨wr.heap.size,3,none⟩ (.slice xa' x.body.length xc')).ownsRow w5.heap.size 74 5 v5 j X by have h9:=(HIN.out.gath.below Uh hbs.out).own;rw [HTL.out,←HXX.out] at h9;exact h9);have h7:=fun i=>zM HE7.out i;have h7f:=fun i=>zW HE7.out i;have h7z:=JK HE7.out;have h8:=fun i=>zM HF7.out i;have h8f:=fun i=>zW HF7.out i;have h8z:=JK HF7.out))|(at_builtin;go_loud (refine Yc _ rfl _ _ 35 rfl w5.heap.size 74 i2 (.agg #[.string ⟨#[]⟩,.slice none 0 0,.bool false,.slice none 0 0,.int .i64 0]) 5 80 Tryz.underlying35 ht hx0 hx1 hx2 rfl (by decide) v5 j X rfl (HO.out.alloc _) ⟨w7.heap.size,0,none⟩ 1 1 [.string x.name,.slice pa x.params.length pc,.bool x.vararg,.slice xa' x.body.length xc',.int .i64 0] rfl rfl ?c1 ?c2 (by decide) ?c3 ?c4 ?c5 ?_)))
          case c1=>intro j u hu;exact new_adds (cs:=#[.string x.name,.slice pa x.params.length pc,.bool x.vararg,.slice xa' x.body.length xc',.int .i64 0]) (by simp) j u hu
          case c2=>exact Fn.cells_one ⟨x.name,x.params,x.vararg,x.body,0⟩ ⟨pa,pc,xa',xc'⟩
          case c3=>have h9:=hf2.2;unfold LM at h9;unfold maxLen;omega
          case c4=>have h9:=hf2.2;unfold LM at h9;omega
          case c5=>have h9:=hb7.size;simp at h9 ⊢;omega
          intro v' w9 hown hgrow hat9
          obtain ⟨g9,cap9,rfl⟩:∃ g9 cap9,v'=.slice (some ⟨g9,0,none⟩) (j+1) cap9:=by
            rcases hown.2 with ⟨-,h0⟩|⟨g,cap,cur,h,-⟩
            · exact absurd h0 (Nat.succ_ne_zero j)
            · exact ⟨g,cap,h⟩
          have HB9:=hI (yb hgrow (jx (show (w7.setCell ⟨wr.heap.size,3,none⟩ (.slice xa' x.body.length xc')).heap[wo.heap.size]?=_ from by rw [Below.heap_setCell _ _ _ _ hne];exact HE7.out) _) (by intro he;have:=(HO.out.lt _ he.symm).1;omega));have h9:=fun i=>zM HB9.out i;have h9f:=fun i=>zW HB9.out i;have h9z:=JK HB9.out;have HO4:=hI hown;clear hown;have HG4:=hI hgrow;clear hgrow;have HA4:=hI hat9;clear hat9
          go_wp2_with fail
          go_roundg (gk - 1)
          case rel =>
            refine ⟨j+1,.slice (some ⟨g9,0,none⟩) (j+1) cap9,es++[⟨pa,pc,xa',xc'⟩],by have:=HJ.out;omega,by go_num,?_⟩;rw [Xj HX.out];refine HIN.out.step Uh (fun a b hk h=>Ex.Ats.keep hk (fun _ h=>h) h) hloz hz0' hbs.out ?_ (Zj (Below.refl _ _) _) HTL.out HXX.out (by rw [mf_len];exact HO4.out) HG4.out (fun b hb=>by simpa using HA4.out b hb);refine mf_at HAX.out (HRP.out.keep (F:=Lt lo) (Zb hbs.out) (fun _ h=>.inl h) (fun _ _ _ h=>h)) ?_ hxc1 hxc2;exact St.Ats.keep (F:=fun b=>b<lo∨(wr.heap.size+1≤b)) ((ZA.refl _ _).set (by rintro (h|h) <;> simp at h <;> omega) _) (fun b h=>by rcases h with h|h;exact .inl h;exact .inr (by omega)) (St.Ats.mono (fun b h _=>by rcases h with h|h;exact .inl h;exact .inr (by simpa using h)) HATX.out)
          case measure=>have:=HJ.out;omega
        · have hje:j=y.funcs.length:=by have:=HJ.out;omega
          subst hje;have hin:=HIN.out;rw [List.take_length] at hin;obtain ⟨ba',bc',hv5,hats,hgo⟩:=bare_done hlo HH.out hin HAY.out ⟨hec1,hec2⟩;subst hv5;have HTS:=hI hats;clear hats;have HGO:=hI hgo;clear hgo hin;have HTL:=hI (XC (f:=Ex.ml Z) (l:=l) (k:=k) (by omega));obtain ⟨X,hX9⟩:∃ X,X=(((l.take k).map (Ex.ml Z)).zip ds).flatMap fun p=>Ex.cells p.1 p.2:=⟨_,rfl⟩
          have HXX:=hI hX9;clear hX9;have HO:=hI (show wr.ownsRow w.heap.size 37 8 v k X by have h9:=HGO.out.own;rw [HTL.out,←HXX.out] at h9;exact h9)
          go_wp2_with (at_builtin;go_loud (refine Yc _ rfl _ _ 34 rfl w.heap.size 37 i1 (.agg #[.int .i64 0,.int .i64 0,.int .i64 0,.int .i64 0,.int .i64 0,.string ⟨#[]⟩,.slice none 0 0,.slice none 0 0]) 8 104 Tryz.underlying34 hj hy0 hy1 hy2 rfl (by decide) _ _ _ rfl (HO.out.alloc _) ⟨wr.heap.size,0,none⟩ 1 1 [.int .i64 y.kind,.int .i64 y.op,.int .i64 0,.int .i64 y.p,.int .i64 y.q,.string y.str,.slice ea' y.args.length ec',.slice ba' y.funcs.length bc'] rfl rfl ?c1 ?c2 (by decide) ?c3 ?c4 ?c5 ?_))
          case c2 =>
            repeat' apply And.intro
            all_goals rfl
          case c3=>have h9:=HL.out;unfold LM at h9;unfold maxLen;omega
          case c4=>have h9:=HL.out;unfold LM at h9;omega
          case c5=>have h9:=hbwv.size;simp;omega
          intro v' w9 hown hgrow hat9;have HO4:=hI hown;clear hown;have HG4:=hI hgrow;clear hgrow;have HA4:=hI hat9;clear hat9
          go_wp2_with fail
          go_roundg (g0 - 1)
          case rel =>
            refine ⟨k+1,ds++[⟨ea',ec',ba',bc'⟩],by have:=HK.out;omega,by go_num,⟨?_,?_⟩⟩
            · exact Below.grown (Zj hbwv _) HG4.out (by have h9:=hbwv.size;simp;omega) (fun k hk=>(HO.out.lt k hk).1)
            · rw [Xj HY.out];refine jI.push Xc (HGO.out.alloc Xc _) (Xc _ _ _ _ _ _ ((ZA.refl _ _).alloc _) (fun _ h _=>h) HTS.out) ?_ HG4.out (fun b hb=>by simpa using HA4.out b hb);rw [HTL.out,←HXX.out,ml_len];exact HO4.out
          case measure=>have:=HK.out;omega
    · have hke:k=l.length:=by have:=HK.out;omega
      have HKE:=hI hke;clear hke;have hg:=HH.out.gath;rw [HKE.out,List.take_length] at hg;obtain ⟨a',c',hv,hc1,hc2,hrw⟩:=hg.rows Xc (fun _ _=>rfl);rw [List.length_map] at hv hc1;subst hv;have HRW:=hI hrw;clear hrw hg
      go_wp2_with fail
      go_ret;exact ⟨_,_,rfl,hc1,by unfold maxLen at hc2;unfold MX;exact hc2,Ex.ats_iff.2 HRW.out,hbw⟩
theorem copy_all (n:Nat):BareC n∧Um n:=by
  have h:∀ n,∀ m,m<n→BareC m∧Um m:=by
    intro n
    induction n with
    | zero=>intro m hm;omega
    | succ n ih=>intro m hm;exact ⟨bare_step (fun k hk=>(ih k (by omega)).1) (fun k hk=>(ih k (by omega)).2),plain_step (fun k hk=>(ih k (by omega)).1) (fun k hk=>(ih k (by omega)).2)⟩
  exact h (n+1) n (by omega)
theorem lplain_any (l:List St) (a:Option Addr) (c:Nat) (w:World) (h1:l.length≤c) (h2:c≤MX) (h3:l.length*128≤LM) (h:St.Ats (Lt w.heap.size) w l a):Calls Tryz.prog 8 #[.slice a l.length c] w fun e w'=>∃ a' c',e=.returned (.slice a' l.length c')∧l.length≤c'∧c'≤MX∧St.Ats Ze w' (St.mls Z l) a'∧Below w.heap.size w w' :=
  ((copy_all (St.szs l)).2 l a c w.heap.size w (fun x hx=>St.sz_mem hx) h1 h2 h3 (Nat.le_refl _) h).mono (by
    rintro e w' ⟨a',c',he,g1,g2,g3,g4⟩;exact ⟨a',c',he,g1,g2,by rw [St.mls_map];exact St.Ats.mono (fun _ _ _=>trivial) g3,g4⟩)
end Go.Proofs.YtdmdhopfgnlnoaaGreatDoor
