/- Words for memory: boxes, rows of the call's own, what stays. -/
import Derived.Test.YtdekaghipjpgpaaGreatDoorD0
import Derived.Test.YtdekaghipjpgpaaGreatDoorQ0
import Derived.Laws.AppendOwnNone
import Derived.Deep.AppendLies
import Derived.Test.YtdekaghipjpgpaaGreatDoorE1
import Derived.StillTailTactics
import Derived.RegionTactic
import Derived.Deep.RegionHeld3
namespace Go.Proofs.YtdekaghipjpgpaaGreatDoor
open Go.RowKit
set_option linter.unusedVariables false
set_option linter.unusedSimpArgs false
theorem add_off (g j:Nat):(⟨g,0,none⟩:Addr).add j=⟨g,j,none⟩:=by unfold Addr.add;split <;> simp_all
theorem own_below {w w':World} {base:Nat} {e:TypeId} {size:Nat} {v:Value} {n:Nat} {xs:List Value} (h:w.ownsRow base e size v n xs) (hb:Below w.heap.size w w'):w'.ownsRow base e size v n xs :=
  h.kept (row:=none) ⟨hb.os,hb.tape,hb.output,hb.size,fun k hk _=>hb.block k hk⟩ (by cases v.ownBlock <;> simp)
theorem flat_length {α:Type} {f:α→List Value} {n:Nat} (h:∀ x,(f x).length=n) (l:List α):(l.flatMap f).length=l.length*n:=by
  induction l with
  | nil=>simp
  | cons x r ih=>simp [ih,h,Nat.add_mul];omega
theorem flat_get {α:Type} {f:α→List Value} {n:Nat} (h:∀ x,(f x).length=n):∀ (l:List α) (i:Nat) (x:α) (j:Nat),l[i]?=some x→j<n→(l.flatMap f)[i*n+j]?=(f x)[j]?
  | y::r,0,x,j,hx,hj=>by
    simp at hx;subst hx;simp only [List.flatMap_cons,Nat.zero_mul,Nat.zero_add];rw [List.getElem?_append_left (by rw [h];exact hj)]
  | y::r,i+1,x,j,hx,hj=>by
    simp only [List.flatMap_cons];rw [List.getElem?_append_right (by rw [h,Nat.add_mul];omega),h,show (i+1)*n+j - n=i*n+j from by rw [Nat.add_mul];omega];exact flat_get h r i x j (by simpa using hx) hj
theorem own_rows {α:Type} {w:World} {base:Nat} {e:TypeId} {n:Nat} {v:Value} {l:List α} {f:α→List Value} {R:α→List Value→Prop} (h:w.ownsRow base e n v l.length (l.flatMap f)) (hf:∀ x,(f x).length=n) (hR:∀ x ∈ l,R x (f x)) :
    ∃ a c,v=.slice a l.length c∧l.length≤c∧c≤maxLen∧Rows (fun k=>base≤k∧some k=v.ownBlock) w n R l a:=by
  have hc:=fun g hg=>h.cells (g:=g) hg;have hl:=h.lt;rcases h.2 with ⟨rfl,hn⟩|⟨g,cap,cur,rfl,hg,hgg,hnc,hcm,hcs,htake⟩
  · have:l=[]:=List.length_eq_zero_iff.1 hn;subst this;exact ⟨none,0,rfl,Nat.le_refl _,Nat.zero_le _,Rows.nil _⟩
  · refine ⟨some ⟨g,0,none⟩,cap,rfl,hnc,hcm,g,0,fun _=>⟨rfl,⟨hg,rfl⟩,(hl g rfl).2⟩,fun i x hx=>⟨f x,fun j u hu=>?_,hR x (List.mem_of_getElem? hx)⟩⟩;have hj:j<n:=by have:=(List.getElem?_eq_some_iff.1 hu).1;rwa [hf] at this
    have:=hc g rfl (i*n+j) u (by rw [flat_get hf l i x j hx hj];exact hu);rw [add_off] at this;simpa using this
theorem box_at {w:World} {o:Obj} {b:Nat} (h:b=w.heap.size):(w.alloc o).heap[b]?=some o:=by subst h;exact heap_alloc_new w o
theorem box_alloc {w:World} {o:Obj} {b:Nat} (h:w.heap[b]?=some o) (o':Obj):(w.alloc o').heap[b]?=some o:=by
  have hl:b<w.heap.size:=(Array.getElem?_eq_some_iff.1 h).1;rw [←h];exact ((Below.refl w.heap.size w).alloc (Nat.le_refl _) o').block b hl
theorem box_below {w w':World} {o:Obj} {b:Nat} (hb:Below w.heap.size w w') (h:w.heap[b]?=some o):w'.heap[b]?=some o:=by
  have hl:b<w.heap.size:=(Array.getElem?_eq_some_iff.1 h).1;rw [←h];exact hb.block b hl
theorem box_cell {w:World} {b:Nat} {cs:Array Value} {t:TypeId} (h:w.heap[b]?=some (.cells cs t)) (i:Nat):w.cell? ⟨b,i,none⟩=cs[i]?:=cell_of_row w b i cs t (0,0) h
theorem new_adds {w:World} {cs:Array Value} {t:TypeId} {b:Nat} (hb:b=w.heap.size) (j:Nat) (u:Value) (hu:cs.toList[j]?=some u):(w.alloc (.cells cs t)).cell? ((⟨b,0,none⟩:Addr).add j)=some u:=by
  rw [add_off,box_cell (box_at hb)];simpa using hu
theorem box_free {w:World} {b:Nat} {cs:Array Value} {t:TypeId} (h:w.heap[b]?=some (.cells cs t)) (i:Nat):w.frozen? ⟨b,i,none⟩=false:=by
  unfold World.frozen?;rw [show w.heap[(⟨b,i,none⟩:Addr).block]?=some (.cells cs t) from h];simp
theorem box_grown {w w':World} {row:Option Nat} {b:Nat} {o:Obj} (hg:w.grownBy w' row) (h:w.heap[b]?=some o) (hne:some b≠row):w'.heap[b]?=some o:=by
  rw [hg.block b (Array.getElem?_eq_some_iff.1 h).1 hne];exact h
theorem box_lt {w:World} {b:Nat} {o:Obj} (h:w.heap[b]?=some o):b<w.heap.size:=(Array.getElem?_eq_some_iff.1 h).1
theorem Keep.alloc {F:Nat→Prop} {w w':World} (h:Keep F w w') (o:Obj):Keep F w (w'.alloc o) :=
  h.trans (keep_below ((Below.refl _ _).alloc (Nat.le_refl _) o):Keep AllB w' (w'.alloc o)) (fun _ _ _=>trivial)
theorem Keep.set {F:Nat→Prop} {w w':World} (h:Keep F w w') {p:Addr} (hp:¬ F p.block) (v:Value):Keep F w (w'.setCell p v):=by
  refine ⟨by simpa using h.size,fun k hk hl=>?_⟩;rw [←h.block k hk hl];refine ((Below.refl (p.block) w').setCell (Nat.le_refl _) v |> fun hb=>?_);rcases Nat.lt_or_ge k p.block with hlt|hge
  · exact hb.block k hlt
  · have hne:p.block≠k:=by rintro rfl;exact hp hk
    unfold World.setCell;split <;> (simp only [];rw [Array.getElem?_modify,if_neg hne])
theorem Keep.drew {F:Nat→Prop} {w w':World} (h:Keep F w w'):Keep F w w'.drew:=⟨h.size,h.block⟩
theorem Keep.drewN {F:Nat→Prop} {w w':World} (h:Keep F w w') (n:Nat):Keep F w (w'.drewN n):=h.trans (keep_below (bdrewN (Below.refl _ _) n):Keep AllB w' (w'.drewN n)) (fun _ _ _=>trivial)
theorem Keep.thru {F:Nat→Prop} {a b c:World} (k:Below b.heap.size b c) (h:Keep F a b):Keep F a c:=h.trans (keep_below k:Keep AllB b c) (fun _ _ _=>trivial)
abbrev From (n:Nat):Nat→Prop:=fun k=>n≤k
theorem range_left {w:World} {b o:Nat} {xs ys:List Value} (h:w.rangeAt b o (xs++ys)):w.rangeAt b o xs:=fun j v hv=>h j v (by rw [List.getElem?_append_left (List.getElem?_eq_some_iff.1 hv).1];exact hv)
theorem range_right {w:World} {b o:Nat} {xs ys:List Value} (h:w.rangeAt b o (xs++ys)):w.rangeAt b (o+xs.length) ys:=fun j v hv=>by
  have:=h (xs.length+j) v (by rw [List.getElem?_append_right (by omega)];simpa using hv)
  rwa [←Nat.add_assoc] at this
theorem info_expr:(Tryz.prog.info? 28).map (fun i=>(i.zero,i.size,i.bytes))=some (some (.agg #[.int .i64 0,.int .i64 0,.int .i64 0,.int .i64 0,.int .i64 0,.string ⟨#[]⟩,.slice none 0 0,.slice none 0 0]),8,104):=by kernel_rfl
theorem info_stat:(Tryz.prog.info? 49).map (fun i=>(i.zero,i.size,i.bytes))=some (some (.agg #[.int .i64 0,.int .i64 0,.slice none 0 0,.slice none 0 0,.slice none 0 0,.slice none 0 0,.string ⟨#[]⟩]),7,128):=by kernel_rfl
theorem info_stats:(Tryz.prog.info? 40).map (fun i=>(i.zero,i.size,i.bytes))=some (some (.slice none 0 0),1,24):=by kernel_rfl
theorem info_local:(Tryz.prog.info? 133).map (fun i=>(i.zero,i.size,i.bytes))=some (some (.agg #[.string ⟨#[]⟩,.int .i64 0]),2,24):=by kernel_rfl
theorem info_str:(Tryz.prog.info? 9).map (fun i=>(i.zero,i.size,i.bytes))=some (some (.string ⟨#[]⟩),1,16):=by kernel_rfl
theorem wpList_append_keep {P:Program} (w:World) {ops:Array Oper} {rest:List Oper} {o:Oper} {a:Act} {Q:Exit→Act→World→Prop}
    (hgd:o.guard=none) (s x:Operand) (t:TypeId) (hop:o.op=.call { callee:=.builtin .append,args:=#[s,x],argTypes:=#[t,t] })
    (base:Nat) (e:TypeId) (i:TypeInfo) (z:Value) (size bytes:Nat) (ht:P.underlying t=some (.slice e)) (hi:P.info? e=some i) (hz:i.zero=some z)
    (hsize:i.size=size) (hby:i.bytes=bytes) (hzs:z.cells.size=size) (hsz:0<size)
    (v:Value) (n:Nat) (xs:List Value) (hs:a.eval s=v) (hown:w.ownsRow base e size v n xs)
    (ad:Addr) (m c:Nat) (news:List Value) (hx:a.eval x=.slice (some ad) m c) (hl:news.length=m*size) (hnews:∀ j u,news[j]?=some u→w.cell? (ad.add j)=some u) (h1:∀ u ∈ news,u.oneCell'=true)
    (hm:0<m) (h63:n+m≤maxLen) (hbytes:(n+m)*bytes≤140737488355328) (hbase:base≤w.heap.size)
    (h:∀ v' w',w'.ownsRow base e size v' (n+m) (xs++news)→w.grownBy w' v.ownBlock→(∀ b,v'.ownBlock=some b→some b=v.ownBlock∨w.heap.size≤b)→wpList P ops Q rest (a.put o.dst v') w'):wpList P ops Q (o::rest) a w:=by
  have up:∀ {v':Value} {w':World} {k:Nat} {ys:List Value},w'.ownsRow w.heap.size e size v' k ys→w'.ownsRow base e size v' k ys:=by
    rintro v' w' k ys ⟨h1,h2⟩;refine ⟨h1,?_⟩;rcases h2 with h2|⟨g,cap,cur,r1,r2,r3⟩
    · exact .inl h2
    · exact .inr ⟨g,cap,cur,r1,Nat.le_trans hbase r2,r3⟩
  have wide:∀ {w':World} {row:Option Nat},w.grownBy w' none→w.grownBy w' row:=fun hg=>⟨hg.os,hg.tape,hg.output,hg.size,fun k hk _=>hg.block k hk (by simp)⟩;have hown0:=hown;rcases hown.2 with ⟨rfl,rfl⟩|⟨g,cap,cur,rfl,hbg,hgg,hnc,hcm,hcs,htake⟩
  · have hx0:xs=[]:=List.eq_nil_of_length_eq_zero (by simpa using hown.1);subst hx0;refine wpList_append_grows w hgd s x t hop e i z size bytes ht hi hz hsize hby hzs hsz none 0 0 [] hs (fun _=>⟨rfl,rfl⟩) (by simp) (fun b hb=>by cases hb) ad m c news hx hl hnews h1 (by omega) h63 hbytes ?_;intro v' w' r1 r2;exact h v' w' (up r1) (wide r2) (fun b hb=>.inr (r1.lt b hb).1)
  · by_cases hroom:n+m≤cap
    · refine wpList_append_fits w hgd s x t hop base e i size ht hi hsize g n cap xs hs hown0 ad m c news hx hl hnews h1 hroom ?_;intro w' r1 r2;exact h _ w' r1 r2 (fun b hb=>.inl hb.symm)
    · refine wpList_append_grows w hgd s x t hop e i z size bytes ht hi hz hsize hby hzs hsz (some ⟨g,0,none⟩) n cap xs hs (fun hh=>by cases hh) hown0.1 (fun b hb=>by cases hb;exact hown0.cells rfl) ad m c news hx hl hnews h1 (by omega) h63 hbytes ?_;intro v' w' r1 r2;exact h v' w' (up r1) (wide r2) (fun b hb=>.inr (r1.lt b hb).1)
theorem box_set {w:World} {b:Nat} {cs:Array Value} {t:TypeId} (h:w.heap[b]?=some (.cells cs t)) (i:Nat) (v:Value):(w.setCell ⟨b,i,none⟩ v).heap[b]?=some (.cells (cs.setIfInBounds i v) t):=by
  unfold World.setCell;simp [Array.getElem?_modify,h]
theorem Keep.weak {F G:Nat→Prop} {w w':World} (h:Keep F w w') (hG:∀ k,G k→F k):Keep G w w':=⟨h.size,fun k hk hl=>h.block k (hG k hk) hl⟩
theorem Keep.grown {F:Nat→Prop} {w w':World} {row:Option Nat} (hg:w.grownBy w' row) (hr:∀ k,F k→some k≠row):Keep F w w':=⟨hg.size,fun k hk hl=>hg.block k hl (hr k hk)⟩
abbrev Out (n:Nat) (v:Value):Nat→Prop:=fun b=>n≤b∧some b≠v.ownBlock
def Lies {α δ:Type} (A:(Nat→Prop)→World→α→δ→Prop):Prop:=∀ (F G:Nat→Prop) (w w':World) (x:α) (d:δ),Keep F w w'→(∀ k,F k→k<w.heap.size→G k)→A F w x d→A G w' x d
structure Gath {α δ:Type} (f:α→δ→List Value) (A:(Nat→Prop)→World→α→δ→Prop) (e:TypeId) (n base:Nat) (w:World) (v:Value) (l:List α) (ds:List δ):Prop where
  len:ds.length=l.length
  own:w.ownsRow base e n v l.length ((l.zip ds).flatMap fun p=>f p.1 p.2)
  at_:∀ (i:Nat) (x:α) (d:δ),l[i]?=some x→ds[i]?=some d→A (Out base v) w x d
section
variable {α δ:Type} {f:α→δ→List Value} {A:(Nat→Prop)→World→α→δ→Prop} {e:TypeId} {n base:Nat} {w:World} {v:Value} {l:List α} {ds:List δ}
theorem Gath.nil:Gath f A e n base w (.slice none 0 0) [] []:=⟨rfl,World.ownsRow_nil _ _ _ _,fun i x d h=>by simp at h⟩
theorem Gath.below (hA:Lies A) (h:Gath f A e n base w v l ds) {w':World} (hb:Below w.heap.size w w'):Gath f A e n base w' v l ds :=
  ⟨h.len,own_below h.own hb,fun i x d hx hd=>hA _ _ w w' x d (keep_below hb) (fun _ h _=>h) (h.at_ i x d hx hd)⟩
theorem Gath.alloc (hA:Lies A) (h:Gath f A e n base w v l ds) (o:Obj):Gath f A e n base (w.alloc o) v l ds:=h.below hA ((Below.refl _ _).alloc (Nat.le_refl _) o)
theorem Gath.drew (hA:Lies A) (h:Gath f A e n base w v l ds):Gath f A e n base w.drew v l ds:=⟨h.len,h.own.drew,fun i x d hx hd=>hA _ _ w w.drew x d ((Keep.refl _ _).drew) (fun _ h _=>h) (h.at_ i x d hx hd)⟩
theorem Gath.set (hA:Lies A) (h:Gath f A e n base w v l ds) {p:Addr} (hp:p.block<base) (u:Value):Gath f A e n base (w.setCell p u) v l ds :=
  ⟨h.len,ownsRow_setCell_below h.own hp u,fun i x d hx hd=>hA _ _ w _ x d ((Keep.refl (Out base v) w).set (by rintro ⟨h1,-⟩;omega) u) (fun _ h _=>h) (h.at_ i x d hx hd)⟩
theorem Gath.kept (hA:Lies A) (h:Gath f A e n base w v l ds) {w':World} {row:Option Nat} (hg:w.grownBy w' row) (hr:∀ k,row=some k→k<base):Gath f A e n base w' v l ds:=by
  refine ⟨h.len,h.own.kept hg ?_,fun i x d hx hd=>hA _ _ w w' x d (Keep.grown (F:=Out base v) hg (fun k hk he=>by have:=hr k he.symm;have:=hk.1;omega)) (fun _ h _=>h) (h.at_ i x d hx hd)⟩;cases hv:v.ownBlock with
  | none=>exact .inl rfl
  | some k =>
    right;intro he;have h1:=hr k he.symm;have h2:=(h.own.lt k hv).1;omega
theorem Gath.push (hA:Lies A) (h:Gath f A e n base w v l ds) {w':World} {v':Value} {x:α} {d:δ} (hx:A (Out base v) w x d)
    (h1:w'.ownsRow base e n v' (l.length+1) (((l.zip ds).flatMap fun p=>f p.1 p.2)++f x d)) (h2:w.grownBy w' v.ownBlock) (h3:∀ b,v'.ownBlock=some b→some b=v.ownBlock∨w.heap.size≤b) :
    Gath f A e n base w' v' (l++[x]) (ds++[d]):=by
  have hG:∀ k,Out base v k→k<w.heap.size→Out base v' k:=fun k hk hl=>⟨hk.1,fun he=>by
    rcases h3 k he.symm with h|h
    · exact hk.2 h
    · omega⟩
  have K:Keep (Out base v) w w':=Keep.grown h2 fun k hk=>hk.2;refine ⟨by simp [h.len],?_,fun i y d' hy hd=>?_⟩
  · rw [List.zip_append h.len.symm];simpa using h1
  · rcases Nat.lt_trichotomy i l.length with hi|rfl|hi
    · rw [List.getElem?_append_left hi] at hy;rw [List.getElem?_append_left (by rw [h.len];exact hi)] at hd;exact hA _ _ w w' y d' K hG (h.at_ i y d' hy hd)
    · rw [List.getElem?_append_right (Nat.le_refl _)] at hy;rw [List.getElem?_append_right (by rw [h.len];exact Nat.le_refl _)] at hd;simp [h.len] at hy hd;subst hy hd;exact hA _ _ w w' _ _ K hG hx
    · rw [List.getElem?_eq_none (by simp;omega)] at hy;cases hy
theorem Gath.rows (hA:Lies A) (h:Gath f A e n base w v l ds) (hn:∀ x d,(f x d).length=n):∃ a c,v=.slice a l.length c∧l.length≤c∧c≤maxLen∧Rows (From base) w n (fun x cs=>∃ d,cs=f x d∧A (From base) w x d) l a:=by
  have hl:(l.zip ds).length=l.length:=by rw [List.length_zip,h.len];omega
  have hro:=own_rows (f:=fun p:α × δ=>f p.1 p.2) (l:=l.zip ds) (R:=fun p cs=>cs=f p.1 p.2) (by rw [hl];exact h.own) (fun p=>hn _ _) (fun _ _=>rfl);obtain ⟨a,c,hv,hc,hm,b,off,h1,h2⟩:=hro;rw [hl] at hv hc;refine ⟨a,c,hv,hc,hm,b,off,fun hne=>?_,fun i x hx=>?_⟩
  · have:=h1 (by intro h0;rw [h0] at hl;simp at hl;exact hne (List.length_eq_zero_iff.1 hl.symm));exact ⟨this.1,this.2.1.1,this.2.2⟩
  · have hi:i<l.length:=(List.getElem?_eq_some_iff.1 hx).1;obtain ⟨d,hd⟩:∃ d,ds[i]?=some d:=⟨_,List.getElem?_eq_getElem (by rw [h.len];exact hi)⟩
    obtain ⟨cs,hc,hr⟩:=h2 i (x,d) (by rw [List.getElem?_zip_eq_some];exact ⟨hx,hd⟩);exact ⟨cs,hc,d,hr,hA _ _ w w x d (Keep.refl _ _) (fun _ h _=>h.1) (h.at_ i x d hx hd)⟩
end
def exA (F:Nat→Prop) (w:World) (x:Ex) (d:EA):Prop:=x.At F w d
def stA (F:Nat→Prop) (w:World) (x:St) (d:SA):Prop:=x.At F w d
def blA (F:Nat→Prop) (w:World) (x:List St) (d:Option Addr × Nat):Prop:=(x.length≤d.2∧d.2≤MX∧x.length*128≤LM)∧St.Ats F w x d.1
theorem exA_lies:Lies exA:=fun F G w w' x d hk hG h=>Ex.At.keep (F:=fun k=>F k∧k<w.heap.size) (hk.weak fun _ h=>h.1) (fun k h=>hG k h.1 h.2) (Ex.At.mono (fun k h1 h2=>⟨h1,h2⟩) h)
theorem stA_lies:Lies stA:=fun F G w w' x d hk hG h=>St.At.keep (F:=fun k=>F k∧k<w.heap.size) (hk.weak fun _ h=>h.1) (fun k h=>hG k h.1 h.2) (St.At.mono (fun k h1 h2=>⟨h1,h2⟩) h)
theorem blA_lies:Lies blA:=fun F G w w' x d hk hG h=>⟨h.1,St.Ats.keep (F:=fun k=>F k∧k<w.heap.size) (hk.weak fun _ h=>h.1) (fun k h=>hG k h.1 h.2) (St.Ats.mono (fun k h1 h2=>⟨h1,h2⟩) h.2)⟩
def blC (x:List St) (d:Option Addr × Nat):List Value:=[.slice d.1 x.length d.2]
theorem Gath.lt {α δ:Type} {f:α→δ→List Value} {A:(Nat→Prop)→World→α→δ→Prop} {e:TypeId} {n base:Nat} {w w':World} {v:Value} {l:List α} {ds:List δ}
    (hA:Lies A) (h:Gath f A e n base w v l ds) (hk:Keep (fun b=>base≤b∧b<w.heap.size) w w'):Gath f A e n base w' v l ds:=by
  refine ⟨h.len,⟨h.own.1,?_⟩,fun i x d hx hd=>hA (fun k=>Out base v k∧k<w.heap.size) _ w w' x d (hk.weak fun k hk=>⟨hk.1.1,hk.2⟩) (fun k h _=>h.1) (hA _ _ w w x d (Keep.refl _ _) (fun k h1 h2=>⟨h1,h2⟩) (h.at_ i x d hx hd))⟩;rcases h.own.2 with h2|⟨g,cap,cur,hv,hg,hh,hr⟩
  · exact .inl h2
  · have hgl:=(h.own.lt g (by rw [hv];rfl)).2;exact .inr ⟨g,cap,cur,hv,hg,by rw [hk.block g ⟨hg,hgl⟩ hgl];exact hh,hr⟩
theorem Ex.cells_one (x:Ex) (d:EA):∀ u ∈ x.cells d,u.oneCell'=true:=by
  intro u hu;simp only [Ex.cells,List.mem_cons,List.not_mem_nil,or_false] at hu;rcases hu with rfl|rfl|rfl|rfl|rfl|rfl|rfl|rfl <;> rfl
set_option maxHeartbeats 4000000
set_option maxRecDepth 100000
structure Gs (p:Nat) (w w':World):Prop where
  os:w'.os=w.os
  tape:w'.tape=w.tape
  output:w'.output=w.output
  size:w.heap.size≤w'.heap.size
  block:∀ k,k<w.heap.size→k≠p→w'.heap[k]?=w.heap[k]?
theorem Gs.refl (p:Nat) (w:World):Gs p w w:=⟨rfl,rfl,rfl,Nat.le_refl _,fun _ _ _=>rfl⟩
theorem Gs.thru {p:Nat} {w b c:World} (h:Gs p b c) (k:Gs p w b):Gs p w c :=
  ⟨h.os.trans k.os,h.tape.trans k.tape,h.output.trans k.output,Nat.le_trans k.size h.size,fun i hi hn=>(h.block i (Nat.lt_of_lt_of_le hi k.size) hn).trans (k.block i hi hn)⟩
theorem Gs.of_below {p:Nat} {w w':World} (h:Below w.heap.size w w'):Gs p w w':=⟨h.os,h.tape,h.output,h.size,fun k hk _=>h.block k hk⟩
theorem Gs.below {p:Nat} {w b c:World} (h:Below b.heap.size b c) (k:Gs p w b):Gs p w c:=(Gs.of_below h).thru k
theorem Gs.alloc {p:Nat} {w b:World} (k:Gs p w b) (o:Obj):Gs p w (b.alloc o):=Gs.below (balloc (Below.refl _ _) o) k
theorem Gs.drewN {p:Nat} {w b:World} (k:Gs p w b) (n:Nat):Gs p w (b.drewN n):=Gs.below (bdrewN (Below.refl _ _) n) k
theorem Gs.drew {p:Nat} {w b:World} (k:Gs p w b):Gs p w b.drew:=Gs.below (Below.drew (Below.refl _ _)) k
theorem Gs.set {p:Nat} {w b:World} (k:Gs p w b) {a:Addr} (ha:a.block=p∨w.heap.size≤a.block) (v:Value):Gs p w (b.setCell a v) :=
  ⟨k.os,k.tape,k.output,by simpa [World.setCell] using k.size,fun i hi hn=>by rw [Below.heap_setCell _ _ _ _ (fun e=>by rcases ha with h|h;exact hn (e.trans h);omega)];exact k.block i hi hn⟩
theorem Gs.grown {p:Nat} {w b c:World} {row:Option Nat} (hg:b.grownBy c row) (hr:∀ k,row=some k→w.heap.size≤k) (k:Gs p w b):Gs p w c :=
  ⟨hg.os.trans k.os,hg.tape.trans k.tape,hg.output.trans k.output,Nat.le_trans k.size hg.size,fun i hi hn=>(hg.block i (Nat.lt_of_lt_of_le hi k.size) (fun e=>by have:=hr i e.symm;omega)).trans (k.block i hi hn)⟩
theorem Gs.keep {p:Nat} {w w':World} {F:Nat→Prop} (h:Gs p w w') (hF:¬ F p):Keep F w w':=⟨h.size,fun k hk hl=>h.block k hl (fun e=>hF (e ▸ hk))⟩
theorem Gs.box {p b:Nat} {w w':World} {o:Obj} (h:Gs p w w') (hb:w.heap[b]?=some o) (hne:b≠p):w'.heap[b]?=some o:=(h.block b (box_lt hb) hne).trans hb
def tkC (t:Tk):List Value:=[.int .i64 t.kind,.string t.text,.int .i64 t.line,.int .i64 t.pos]
def tkR (t:Tk) (cs:List Value):Prop:=cs=tkC t∧t.text.size≤MX∧W64 t.kind∧W64 t.line∧W64 t.pos
structure PC where
  p:Nat
  L:List Tk
  ta:Option Addr
  tc:Nat
structure PC.At (C:PC) (w:World) (l:List Tk):Prop where
  box:∃ i,i≤C.L.length∧l=C.L.drop i∧w.heap[C.p]?=some (.cells #[.slice C.ta C.L.length C.tc,.int .i64 (i:Int)] 83)
  row:Rows (fun k=>k<C.p) w 4 tkR C.L C.ta
  cap:C.L.length≤65536
theorem PC.At.mv {C:PC} {w w':World} {l:List Tk} (h:C.At w l) (hb:Below w.heap.size w w'):C.At w' l:=by
  obtain ⟨i,h1,h2,h3⟩:=h.box;exact ⟨⟨i,h1,h2,box_below hb h3⟩,h.row.keep (keep_below hb) (fun _ h=>h) (fun _ _ _ h=>h),h.cap⟩
theorem PC.At.gs {C:PC} {w w':World} {l l':List Tk} {i:Nat} (h:C.At w l) (hg:Gs C.p w w') (hi:i≤C.L.length) (hl:l'=C.L.drop i)
    (hb:w'.heap[C.p]?=some (.cells #[.slice C.ta C.L.length C.tc,.int .i64 (i:Int)] 83)):C.At w' l' :=
  ⟨⟨i,hi,hl,hb⟩,h.row.keep (hg.keep (Nat.lt_irrefl _)) (fun _ h=>h) (fun _ _ _ h=>h),h.cap⟩
theorem PC.At.ca {C:PC} {w w':World} {l:List Tk} (h:C.At w l) (hk:Keep (fun k=>k≤C.p) w w'):C.At w' l:=by
  obtain ⟨i,h1,h2,h3⟩:=h.box;exact ⟨⟨i,h1,h2,(hk.block _ (Nat.le_refl _) (box_lt h3)).trans h3⟩,h.row.keep (hk.weak fun k hk=>Nat.le_of_lt hk) (fun _ h=>h) (fun _ _ _ h=>h),h.cap⟩
theorem PC.At.tok {C:PC} {w:World} {l:List Tk} (h:C.At w l) {i:Nat} {t:Tk} (ht:C.L[i]?=some t):∃ b off,C.ta=some ⟨b,off,none⟩∧b<C.p∧b<w.heap.size∧w.rangeAt b (off+i*4) (tkC t)∧t.text.size≤MX∧W64 t.kind∧W64 t.line∧W64 t.pos:=by
  obtain ⟨b,off,h1,h2⟩:=h.row;have hne:C.L≠[]:=by intro h0;rw [h0] at ht;simp at ht
  obtain ⟨h3,h4,h5⟩:=h1 hne;obtain ⟨cs,hr,rfl,h6⟩:=h2 i t ht;exact ⟨b,off,h3,h4,h5,hr,h6⟩
theorem next_drop {L:List Tk} {i:Nat} {t:Tk} (h:L[i]?=some t):L.drop i=t::L.drop (i+1):=by
  obtain ⟨hi,rfl⟩:=List.getElem?_eq_some_iff.1 h;exact List.drop_eq_getElem_cons hi
theorem next_any (C:PC) (l:List Tk) (w:World) (h:C.At w l) :
    Calls Tryz.prog 49 #[.pointer (some ⟨C.p,0,none⟩)] w fun e w'=>e=.returned (.agg #[.int .i64 (nextK l).kind,.string (nextK l).text,.int .i64 (nextK l).line,.int .i64 (nextK l).pos])∧Below w.heap.size w w':=by
  obtain ⟨p,L,ta,tc⟩:=C;have HA:=hI h;obtain ⟨i,hi,rfl,hbox⟩:=h.box;have hcap:=h.cap;simp only at hi hbox hcap;clear h;have kb:=fun j=>box_cell hbox j;have kz:=box_lt hbox;clear hbox;by_cases hlt:i<L.length
  · obtain ⟨t,ht⟩:∃ t,L[i]?=some t:=⟨_,List.getElem?_eq_getElem hlt⟩
    obtain ⟨b,off,rfl,hpb,hlb,hr,-⟩:=HA.out.tok (i:=i) ht;have hne:b≠p:=Nat.ne_of_lt hpb;have HN:=hI (next_drop ht);have c0:=hr 0 _ rfl;have c1:=hr 1 _ rfl;have c2:=hr 2 _ rfl;have c3:=hr 3 _ rfl;simp only [Nat.add_zero] at c0;clear hr ht
    go_enter Tryz.func49,Tryz.ntmps49
    go_wp2_with fail
    go_quiet (fail)
    go_wp2_with fail
    go_region
    all_goals
      go_wp2_with fail
      refine bodyPost_ret (v:=.agg #[.int .i64 t.kind,.string t.text,.int .i64 t.line,.int .i64 t.pos]) (by simp [results,Tryz.results49,go_sem]) rfl ?_;exact ⟨by rw [HN.out];rfl,bw⟩
  · have HN:=hI (show L.drop i=[] from List.drop_eq_nil_of_le (by omega))
    go_enter Tryz.func49,Tryz.ntmps49
    go_wp2_with fail
    go_quiet (fail)
    go_wp2_with fail
    refine bodyPost_ret (v:=.agg #[.int .i64 0,.string ⟨#[]⟩,.int .i64 0,.int .i64 0]) (by simp [results,Tryz.results49,go_sem]) rfl ?_;exact ⟨by rw [HN.out];rfl,bw⟩
theorem isB_next (s:Sb) (l:List Tk):isB s l=(((nextK l).kind==2 || (nextK l).kind==5) && (nextK l).text.data.toList==s):=by cases l <;> rfl
theorem is_any (C:PC) (s:ByteArray) (l:List Tk) (w:World) (h:C.At w l) :
    Calls Tryz.prog 64 #[.pointer (some ⟨C.p,0,none⟩),.string s] w fun e w'=>e=.returned (.bool (isB s.data.toList l))∧Below w.heap.size w w':=by
  have HN:=hI (next_any C l w h);rw [isB_next];generalize nextK l=t at HN;cases h1:(t.kind==2) <;> cases h2:(t.kind==5)
  all_goals
    go_enter Tryz.func64,Tryz.ntmps64
    go_wp2_with (go_at_call 49;(with_reducible refine HN.out.mono ?_);rintro e w2 ⟨rfl,hb2⟩)
    go_ret;exact ⟨by simp [ByteArray.toList_eq],bw⟩
def flP (n:Int):List PanicEntry:=[{ v:=.iface 81 (.agg #[.int .i64 n,.int .i64 4]),recovered:=false }]
theorem lineK_drop {L:List Tk} {i:Nat} {t:Tk} (h:L[i]?=some t):lineK L (L.drop i)=t.line:=by rw [next_drop h];rfl
theorem lineK_nil {L:List Tk} {i:Nat} (h:L.length≤i):lineK L (L.drop i)=(L.getLast?.map (·.line)).getD 1:=by rw [List.drop_eq_nil_of_le h];rfl
theorem wrong_any (C:PC) (l:List Tk) (w:World) (h:C.At w l) :
    Calls Tryz.prog 47 #[.pointer (some ⟨C.p,0,none⟩)] w fun e w'=>e=.panicked (flP (lineK C.L l))∧Below w.heap.size w w':=by
  obtain ⟨p,L,ta,tc⟩:=C;have HA:=hI h;obtain ⟨i,hi,rfl,hbox⟩:=h.box;have hcap:=h.cap;simp only at hi hbox hcap;clear h;have kb:=fun j=>box_cell hbox j;have kz:=box_lt hbox;clear hbox;by_cases hlt:i<L.length
  · obtain ⟨t,ht⟩:∃ t,L[i]?=some t:=⟨_,List.getElem?_eq_getElem hlt⟩
    obtain ⟨b,off,rfl,hpb,hlb,hr,-⟩:=HA.out.tok (i:=i) ht;have hne:b≠p:=Nat.ne_of_lt hpb;have HN:=hI (lineK_drop ht);have c2:=hr 2 _ rfl;clear hr ht
    go_enter Tryz.func47,Tryz.ntmps47
    go_wp2_with fail
    go_quiet (fail)
    go_wp2_with fail
    go_quiet (fail)
    go_wp2_with fail
    exact ⟨rfl,by rw [HN.out];rfl,bw⟩
  · have HN:=hI (lineK_nil (L:=L) (i:=i) (by omega));by_cases h0:0<L.length
    · obtain ⟨t,ht⟩:∃ t,L[L.length - 1]?=some t:=⟨_,List.getElem?_eq_getElem (by omega)⟩
      obtain ⟨b,off,rfl,hpb,hlb,hr,-⟩:=HA.out.tok (i:=L.length - 1) ht;have hne:b≠p:=Nat.ne_of_lt hpb;have HT:=hI (show L.getLast?=some t by rw [List.getLast?_eq_getElem?];exact ht);have c2:=hr 2 _ rfl;clear hr ht
      go_enter Tryz.func47,Tryz.ntmps47
      go_wp2_with fail
      go_quiet (fail)
      go_wp2_with fail
      go_quiet (fail)
      go_wp2_with fail
      exact ⟨rfl,by rw [HN.out,HT.out];rfl,bw⟩
    · have HT:=hI (show L.getLast?=none by rw [List.length_eq_zero_iff.1 (by omega:L.length=0)];rfl)
      go_enter Tryz.func47,Tryz.ntmps47
      go_wp2_with fail
      go_quiet (fail)
      go_wp2_with fail
      exact ⟨rfl,by rw [HN.out,HT.out];rfl,bw⟩
set_option maxHeartbeats 4000000
set_option maxRecDepth 100000
structure Tells {α:Type} (C:PC) (V:α→World→World→Value→Prop) (r:Res α) (w:World) (e:Ending) (w':World):Prop where
  gs:Gs C.p w w'
  ok:∀ x l,r=.ok x l→∃ u,e=.returned u∧V x w w' u∧C.At w' l
  bad:∀ l,r=.bad l→e=.panicked (flP (lineK C.L l))
def tkW (t:Tk) (w w':World) (u:Value):Prop:=u=.agg #[.int .i64 t.kind,.string t.text,.int .i64 t.line,.int .i64 t.pos]∧t.text.size≤MX∧W64 t.kind∧W64 t.line
theorem gw {p:Nat} {w w':World} (h:Gs p w w':=by repeat with_reducible first|exact Gs.refl _ _|assumption|refine Gs.alloc ?_ _|refine Gs.drewN ?_ _|refine Gs.drew ?_|refine Gs.set ?_ (by first|exact Or.inl rfl|(right;simp;done)|(right;simp;omega)) _|refine Gs.below (by assumption) ?_|refine Gs.thru (by assumption) ?_):Gs p w w':=h
theorem kw {n:Nat} {w w':World} (h:Keep (fun k=>k≤n) w w':=by repeat with_reducible first|exact Keep.refl _ _|refine Keep.alloc ?_ _|refine Keep.set ?_ (by simp;omega) _|refine Keep.drewN ?_ _|refine Keep.drew ?_|refine Keep.thru (by assumption) ?_):Keep (fun k=>k≤n) w w':=h
theorem bx_ne {w:World} {b:Nat} {o:Option Obj} {a:Addr} {v:Value} (h:w.heap[b]?=o) (hne:a.block≠b):(w.setCell a v).heap[b]?=o:=by rw [Below.heap_setCell _ _ _ _ (fun e=>hne e.symm)];exact h
theorem bx_drew {w:World} {b:Nat} {o:Option Obj} (h:w.heap[b]?=o):w.drew.heap[b]?=o:=h
theorem bx_drewN {w:World} {b n:Nat} {o:Option Obj} (h:w.heap[b]?=o):(w.drewN n).heap[b]?=o:=by rw [←h];exact (bdrewN (Below.refl (b+1) w) n).block b (by omega)
theorem set4 {w:World} {b:Nat} {u0 u1 u2 u3:Value} {T:TypeId} (h:w.heap[b]?=some (.cells #[u0,u1,u2,u3] T)) (v0 v1 v2 v3:Value) :
    ((((w.setCell ⟨b,0,none⟩ v0).setCell ⟨b,1,none⟩ v1).setCell ⟨b,2,none⟩ v2).setCell ⟨b,3,none⟩ v3).heap[b]?=some (.cells #[v0,v1,v2,v3] T) :=
  box_set (box_set (box_set (box_set h 0 v0) 1 v1) 2 v2) 3 v3
theorem tok_field0 (t:Tk) (w:World):Sem.run Tryz.prog (Instr.field 70 (.agg #[.int .i64 t.kind,.string t.text,.int .i64 t.line,.int .i64 t.pos]) 0) w=.ok (.int .i64 t.kind) w:=by kernel_rfl
theorem tok_field1 (t:Tk) (w:World):Sem.run Tryz.prog (Instr.field 70 (.agg #[.int .i64 t.kind,.string t.text,.int .i64 t.line,.int .i64 t.pos]) 1) w=.ok (.string t.text) w:=by kernel_rfl
theorem tok_field2 (t:Tk) (w:World):Sem.run Tryz.prog (Instr.field 70 (.agg #[.int .i64 t.kind,.string t.text,.int .i64 t.line,.int .i64 t.pos]) 2) w=.ok (.int .i64 t.line) w:=by kernel_rfl
section
variable {α β:Type} {C:PC} {V:α→World→World→Value→Prop} {R:Res α} {w w':World} {l:List Tk}
theorem Tells.no (HR:Hid (R=.bad l)) (hg:Gs C.p w w'):Tells C V R w (.panicked (flP (lineK C.L l))) w' :=
  ⟨hg,(fun x l' h=>by rw [HR.out] at h;cases h),fun l' h=>by rw [HR.out] at h;injection h with h;rw [h]⟩
theorem Tells.yes {x:α} {u:Value} (HR:Hid (R=.ok x l)) (hg:Gs C.p w w') (hA:C.At w' l) (hv:V x w w' u):Tells C V R w (.returned u) w' :=
  ⟨hg,(fun x' l' h=>by rw [HR.out] at h;injection h with h1 h2;subst h1 h2;exact ⟨u,rfl,hv,hA⟩),(fun l' h=>by rw [HR.out] at h;cases h)⟩
theorem Tells.step {R:Res β} {m:Res α} {k:α→List Tk→Res β} {P:Program} {n:FuncId} {args:Array Value} (HR:Hid (R=m.bind k)) (h:Calls P n args w (Tells C V m w)) :
    Calls P n args w fun e w'=>(∃ l,e=.panicked (flP (lineK C.L l))∧Hid (R=.bad l)∧Gs C.p w w')∨∃ x l u,e=.returned u∧V x w w' u∧Hid (m=.ok x l)∧Hid (R=k x l)∧Hid (C.At w' l)∧Gs C.p w w':=by
  refine h.mono fun e w' h=>?_;cases m with
  | ok x l =>
    obtain ⟨u,h1,h2,h3⟩:=h.ok x l rfl;exact .inr ⟨x,l,u,h1,h2,rfl,HR,h3,h.gs⟩
  | bad l=>exact .inl ⟨l,h.bad l rfl,HR,h.gs⟩
theorem Tells.tail {R m:Res α} {P:Program} {n:FuncId} {args:Array Value} (HR:Hid (R=m)) (h:Calls P n args w (Tells C V m w)) :
    Calls P n args w fun e w'=>(∃ l,e=.panicked (flP (lineK C.L l))∧Hid (R=.bad l)∧Gs C.p w w')∨∃ x l u,e=.returned u∧V x w w' u∧Hid (m=.ok x l)∧Hid (R=.ok x l)∧Hid (C.At w' l)∧Gs C.p w w' :=
  Tells.step (k:=.ok) (show R=m.bind .ok by rw [HR.out];cases m <;> rfl) h
end
theorem isB_cons {s:Sb} {l:List Tk} (h:isB s l=true):∃ t r,l=t::r:=by cases l with|nil=>cases h|cons t r=>exact ⟨t,r,rfl⟩
theorem PC.At.cut {C:PC} {w:World} {t:Tk} {r:List Tk} (h:C.At w (t::r)):∃ i,i<C.L.length∧t::r=C.L.drop i∧C.L[i]?=some t∧r=C.L.drop (i+1)∧w.heap[C.p]?=some (.cells #[.slice C.ta C.L.length C.tc,.int .i64 (i:Int)] 83):=by
  obtain ⟨i,hi,hl,hb⟩:=h.box
  have hlt:i<C.L.length:=by
    rcases Nat.lt_or_ge i C.L.length with h9|h9
    · exact h9
    · rw [List.drop_eq_nil_of_le h9] at hl;cases hl
  have h2:=List.drop_eq_getElem_cons hlt;rw [←hl] at h2;injection h2 with h3 h4
  exact ⟨i,hlt,hl,by rw [List.getElem?_eq_getElem hlt,h3],h4,hb⟩
theorem take_any (C:PC) (l:List Tk) (w:World) (h:C.At w l) :
    Calls Tryz.prog 50 #[.pointer (some ⟨C.p,0,none⟩)] w (Tells C tkW (takeR l) w):=by
  cases l with
  | nil =>
    have HW:=hI (fun w' (hb:Below w.heap.size w w')=>wrong_any C [] w' (h.mv hb));obtain ⟨i,hi,hl,hbox⟩:=h.box
    have hge:C.L.length≤i:=by
      rcases Nat.lt_or_ge i C.L.length with h9|h9
      · rw [List.drop_eq_getElem_cons h9] at hl;cases hl
      · exact h9
    have hcap:=h.cap;clear h hl;have kb:=fun j=>box_cell hbox j;have kz:=box_lt hbox;clear hbox
    go_enter Tryz.func50,Tryz.ntmps50
    go_wp2_with fail
    go_quiet (fail)
    go_wp2_with (go_at_call 47;(with_reducible refine (HW.out _ bw).mono ?_);rintro e w2 ⟨rfl,hb2⟩)
    exact ⟨rfl,Tells.no rfl (Gs.of_below (thru hb2 bw))⟩
  | cons t r =>
    have HA:=hI h;obtain ⟨i,hlt,hl,ht,hr,hbox⟩:=h.cut;obtain ⟨b,off,hta,hpb,hlb,hrg,hts,hk,hln,-⟩:=h.tok ht;have hne:b≠C.p:=Nat.ne_of_lt hpb;have hcap:=h.cap;have HT:=hI (And.intro hts (And.intro hk hln));have HL:=hI hr;have HB:=hI hbox;clear h hl ht hr hts hk hln;obtain ⟨p,L,ta,tc⟩:=C;simp only at *;subst hta;have kb:=fun j=>box_cell hbox j;have kz:=box_lt hbox;have kf:=fun j=>box_free hbox j;have c0:=hrg 0 _ rfl;have c1:=hrg 1 _ rfl;have c2:=hrg 2 _ rfl;have c3:=hrg 3 _ rfl;simp only [Nat.add_zero] at c0;clear hrg hbox
    go_enter Tryz.func50,Tryz.ntmps50
    go_wp2_with fail
    go_quiet (fail)
    go_wp2_with fail
    go_region
    all_goals
      go_wp2_with fail
      refine bodyPost_ret (v:=.agg #[.int .i64 t.kind,.string t.text,.int .i64 t.line,.int .i64 t.pos]) (by simp [results,Tryz.results50,go_sem,kz]) rfl ?_;refine Tells.yes rfl gw (HA.out.gs gw hlt HL.out ?_) ⟨rfl,HT.out⟩;exact bx_drew (bx_ne (bx_ne (bx_ne (bx_ne (box_set (bx_drewN (box_alloc HB.out _)) 1 _) (by simp;omega)) (by simp;omega)) (by simp;omega)) (by simp;omega))
theorem is_at (C:PC) (s:Sb) (l:List Tk) (w:World) (h:C.At w l) :
    Calls Tryz.prog 64 #[.pointer (some ⟨C.p,0,none⟩),.string ⟨s.toArray⟩] w fun e w'=>e=.returned (.bool (isB s l))∧C.At w' l∧Below w.heap.size w w' :=
  (is_any C ⟨s.toArray⟩ l w h).mono fun e w' h9=>⟨h9.1,h.mv h9.2,h9.2⟩
theorem skip_at (C:PC) (s:Sb) (l:List Tk) (w:World) (h:C.At w l) :
    Calls Tryz.prog 63 #[.pointer (some ⟨C.p,0,none⟩),.string ⟨s.toArray⟩] w fun e w'=>e=.returned (.bool (isB s l))∧C.At w' (if isB s l=true then l.tail else l)∧Gs C.p w w':=by
  have HI:=hI (is_at C s l w h);cases hb:isB s l
  · rw [hb] at HI;clear hb h
    go_enter Tryz.func63,Tryz.ntmps63
    go_wp2_with (go_at_call 64;(with_reducible refine HI.out.mono ?_);rintro e w2 ⟨rfl,hA,hb2⟩;have HA:=hI hA;clear hA)
    go_ret;exact ⟨rfl,HA.out,Gs.of_below hb2⟩
  · obtain ⟨t,r,rfl⟩:=isB_cons hb;rw [hb] at HI;clear hb h
    go_enter Tryz.func63,Tryz.ntmps63
    go_wp2_with (go_at_call 64;(with_reducible refine HI.out.mono ?_);rintro e w2 ⟨rfl,hA,hb2⟩;have HA:=hI hA;obtain ⟨i,hlt,-,-,hr,hbox⟩:=hA.cut;have hcap:=hA.cap;have HB:=hI hbox;have HR:=hI hr;have kb:=fun j=>box_cell hbox j;have kf:=fun j=>box_free hbox j;have kz:=box_lt hbox;clear hA hbox hr)
    go_ret;refine ⟨rfl,HA.out.gs gw hlt HR.out (box_set HB.out 1 _),gw⟩
theorem is_step {β:Type} {R A B:Res β} (C:PC) (s:Sb) (l:List Tk) (w:World) (HR:Hid (R=if isB s l=true then A else B)) (h:C.At w l) :
    Calls Tryz.prog 64 #[.pointer (some ⟨C.p,0,none⟩),.string ⟨s.toArray⟩] w fun e w'=>(e=.returned (.bool true)∧Hid (isB s l=true)∧Hid (R=A)∧Hid (C.At w' l)∧Gs C.p w w')∨(e=.returned (.bool false)∧Hid (isB s l=false)∧Hid (R=B)∧Hid (C.At w' l)∧Gs C.p w w'):=by
  refine (is_at C s l w h).mono fun e w' h=>?_;cases hb:isB s l with
  | true=>exact .inl ⟨by rw [h.1,hb],rfl,by rw [hb] at HR;exact HR,h.2.1,Gs.of_below h.2.2⟩
  | false=>exact .inr ⟨by rw [h.1,hb],rfl,by rw [hb] at HR;exact HR,h.2.1,Gs.of_below h.2.2⟩
theorem skip_step {β:Type} {R A B:Res β} (C:PC) (s:Sb) (l:List Tk) (w:World) (HR:Hid (R=if isB s l=true then A else B)) (h:C.At w l) :
    Calls Tryz.prog 63 #[.pointer (some ⟨C.p,0,none⟩),.string ⟨s.toArray⟩] w fun e w'=>(e=.returned (.bool true)∧Hid (isB s l=true)∧Hid (R=A)∧Hid (C.At w' l.tail)∧Gs C.p w w')∨(e=.returned (.bool false)∧Hid (isB s l=false)∧Hid (R=B)∧Hid (C.At w' l)∧Gs C.p w w'):=by
  refine (skip_at C s l w h).mono fun e w' h=>?_;cases hb:isB s l with
  | true=>exact .inl ⟨by rw [h.1,hb],rfl,by rw [hb] at HR;exact HR,by have h9:=h.2.1;rw [hb] at h9;exact h9,h.2.2⟩
  | false=>exact .inr ⟨by rw [h.1,hb],rfl,by rw [hb] at HR;exact HR,by have h9:=h.2.1;rw [hb] at h9;exact h9,h.2.2⟩
theorem PC.At.lt {C:PC} {w:World} {l:List Tk} (h:C.At w l):C.p<w.heap.size:=by obtain ⟨i,_,_,h3⟩:=h.box;exact box_lt h3
theorem need_at (C:PC) (s:Sb) (l:List Tk) (w:World) (h:C.At w l) :
    Calls Tryz.prog 91 #[.pointer (some ⟨C.p,0,none⟩),.string ⟨s.toArray⟩] w (Tells C tkW (needR s l) w):=by
  have HA:=hI h;have hp:=h.lt;have hpn:w.heap.size≠C.p:=by omega
  generalize hR:needR s l=R;have HR:=hI hR.symm;clear hR h;unfold needR at HR
  go_enter Tryz.func91,Tryz.ntmps91
  go_wp2_with (first
    | (go_at_call 64;(with_reducible refine (is_step C s l _ HR (HA.out.ca kw)).mono ?_);rintro e w2 (⟨rfl,-,HR,HA,hg2⟩|⟨rfl,-,HR,HA,hg2⟩) <;> (have HB:=hI (hg2.box (box_at rfl) hpn);have kb:=fun i=>box_cell HB.out i;have kbf:=fun i=>box_free HB.out i;have kbz:=box_lt HB.out))
    | (go_at_call 47;(with_reducible refine (wrong_any C l _ (HA.out.ca kw)).mono ?_);rintro e w3 ⟨rfl,hb3⟩)
    | (go_at_call 50;(with_reducible refine (Tells.tail HR (take_any C l _ (HA.out.ca kw))).mono ?_);rintro e w3 (⟨l3,rfl,HR,hg3⟩|⟨t,l3,u,rfl,⟨rfl,ht⟩,-,HR,HA,hg3⟩);rotate_left;have HB:=hI (hg3.box HB.out hpn);have kb3:=fun i=>box_cell HB.out i;have kb3f:=fun i=>box_free HB.out i;have kb3z:=box_lt HB.out))
  all_goals first
    | exact ⟨rfl,Tells.no HR gw⟩
    | (have k4:=fun j=>box_cell (set4 HB.out (.int .i64 t.kind) (.string t.text) (.int .i64 t.line) (.int .i64 t.pos)) j;have s0:=k4 0;have s1:=k4 1;have s2:=k4 2;have s3:=k4 3;refine bodyPost_ret (v:=.agg #[.int .i64 t.kind,.string t.text,.int .i64 t.line,.int .i64 t.pos]) (by simp [results,Tryz.results91,go_sem,kb3z,s0,s1,s2,s3]) rfl ?_;exact Tells.yes HR gw (HA.out.ca kw) ⟨rfl,ht⟩)
theorem name_at (C:PC) (l:List Tk) (w:World) (h:C.At w l) :
    Calls Tryz.prog 93 #[.pointer (some ⟨C.p,0,none⟩)] w (Tells C tkW (nameR l) w):=by
  have HA:=hI h;have hp:=h.lt;have hpn:w.heap.size≠C.p:=by omega
  generalize hR:nameR l=R;have HR:=hI hR.symm;clear hR h;unfold nameR at HR;generalize ht:nextK l=t at HR;have tf0:=tok_field0 t;have HT:=hI ht;clear ht;cases h1:(t.kind != 1)
  · have HR:=hI (show R=takeR l by rw [HR.out,if_pos (by simpa using h1)])
    go_enter Tryz.func93,Tryz.ntmps93
    go_wp2_with (first
      | (go_at_call 49;(with_reducible refine (next_any C l _ (HA.out.ca kw)).mono ?_);rw [HT.out];rintro e w2 ⟨rfl,hb2⟩;have HB:=hI (box_below hb2 (box_at rfl));have HA:=hI (HA.out.ca (Keep.thru hb2 kw));have hg2:Gs C.p _ _:=Gs.of_below hb2;have kb:=fun i=>box_cell HB.out i;have kbf:=fun i=>box_free HB.out i;have kbz:=box_lt HB.out)
      | (go_at_call 50;(with_reducible refine (Tells.tail HR (take_any C l _ (HA.out.ca kw))).mono ?_);rintro e w3 (⟨l3,rfl,HR,hg3⟩|⟨t,l3,u,rfl,⟨rfl,ht⟩,-,HR,HA,hg3⟩);rotate_left;have HB:=hI (hg3.box HB.out hpn);have kb3:=fun i=>box_cell HB.out i;have kb3f:=fun i=>box_free HB.out i;have kb3z:=box_lt HB.out))
    all_goals first
      | exact ⟨rfl,Tells.no HR gw⟩
      | (have k4:=fun j=>box_cell (set4 HB.out (.int .i64 t.kind) (.string t.text) (.int .i64 t.line) (.int .i64 t.pos)) j;have s0:=k4 0;have s1:=k4 1;have s2:=k4 2;have s3:=k4 3;refine bodyPost_ret (v:=.agg #[.int .i64 t.kind,.string t.text,.int .i64 t.line,.int .i64 t.pos]) (by simp [results,Tryz.results93,go_sem,kb3z,s0,s1,s2,s3]) rfl ?_;exact Tells.yes HR gw (HA.out.ca kw) ⟨rfl,ht⟩)
  · have HR:=hI (show R=.bad l by rw [HR.out,if_neg (by simpa using h1)])
    go_enter Tryz.func93,Tryz.ntmps93
    go_wp2_with (first
      | (go_at_call 49;(with_reducible refine (next_any C l _ (HA.out.ca kw)).mono ?_);rw [HT.out];rintro e w2 ⟨rfl,hb2⟩;have HA:=hI (HA.out.ca (Keep.thru hb2 kw)))
      | (go_at_call 47;(with_reducible refine (wrong_any C l _ (HA.out.ca kw)).mono ?_);rintro e w3 ⟨rfl,hb3⟩))
    exact ⟨rfl,Tells.no HR gw⟩
theorem endsB_at {C:PC} {w:World} {l:List Tk} (h:C.At w l):∃ i,w.heap[C.p]?=some (.cells #[.slice C.ta C.L.length C.tc,.int .i64 (i:Int)] 83)∧((i:Int)==(C.L.length:Int))=l.isEmpty:=by
  obtain ⟨i,hi,hl,hb⟩:=h.box;refine ⟨i,hb,?_⟩;rcases Nat.lt_or_ge i C.L.length with h9|h9
  · rw [hl,List.drop_eq_getElem_cons h9];show _=false;rw [beq_eq_false_iff_ne];omega
  · rw [hl,List.drop_eq_nil_of_le h9];show _=true;rw [beq_iff_eq];omega
theorem ends_at (C:PC) (l:List Tk) (w:World) (h:C.At w l) :
    Calls Tryz.prog 62 #[.pointer (some ⟨C.p,0,none⟩)] w fun e w'=>e=.returned (.bool (endsB l))∧Below w.heap.size w w':=by
  have HI:=hI (fun (s:Sb) w' (hb:Below w.heap.size w w')=>is_at C s l w' (h.mv hb));obtain ⟨i,hbox,hie⟩:=endsB_at h;have hcap:=h.cap;have HS:=hI (show ∀ w',Below w.heap.size w w'→w'.cell? ⟨C.p,0,none⟩=some (.slice C.ta C.L.length C.tc)∧w'.cell? ⟨C.p,1,none⟩=some (.int .i64 (i:Int)) from fun w' hb=>⟨box_cell (box_below hb hbox) 0,box_cell (box_below hb hbox) 1⟩);clear h;have kb:=fun j=>box_cell hbox j;have kz:=box_lt hbox;clear hbox;unfold endsB;have hI:∀ (t:Sb) (b:Bool),b=isB t l→Hid (∀ w' (hb:Below w.heap.size w w'),Calls Tryz.prog 64 #[.pointer (some ⟨C.p,0,none⟩),.string ⟨t.toArray⟩] w' fun e w''=>e=.returned (.bool b)∧Below w'.heap.size w' w''):=fun t b hb=>by subst hb;exact fun w' hb'=>(HI.out t w' hb').mono fun e w'' h=>⟨h.1,h.2.2⟩
  obtain ⟨b1,hb1⟩:∃ b,b=isB sEnd l:=⟨_,rfl⟩;obtain ⟨b2,hb2⟩:∃ b,b=isB [101,108,115,101] l:=⟨_,rfl⟩
  obtain ⟨b3,hb3⟩:∃ b,b=isB [101,108,115,101,105,102] l:=⟨_,rfl⟩;obtain ⟨b4,hb4⟩:∃ b,b=isB [117,110,116,105,108] l:=⟨_,rfl⟩
  have H1:=hI _ b1 hb1;have H2:=hI _ b2 hb2;have H3:=hI _ b3 hb3;have H4:=hI _ b4 hb4;rw [←hb1,←hb2,←hb3,←hb4];clear hI HI hb1 hb2 hb3 hb4;generalize l.isEmpty=b0 at hie ⊢
  go_enter Tryz.func62,Tryz.ntmps62
  go_wp2_with fail
  refine wp_region_held_drew (S:=fun w'=>w'.cell? ⟨C.p,0,none⟩=some (.slice C.ta C.L.length C.tc)∧w'.cell? ⟨C.p,1,none⟩=some (.int .i64 (i:Int))) (by kernel_rfl) ?hS ?r0
  case hS=>exact HS.out _ bw
  case r0 =>
  intro hHeld;refine tH 0 ?_;refine tH 1 ?_;refine tH 2 ?_;refine tH 3 ?_;refine tH 4 ?_;refine tH 5 ?_;refine tH 6 ?_;refine tH 7 ?_;refine tH 8 ?_;refine tH 9 ?_;refine tH 10 ?_;cases b0
  · refine wpAnyH_take (i:=11) (v:=?v12) rfl (by kernel_rfl) (by kernel_rfl) (by kernel_rfl) (fun _ _ _ h=>h) (Or.inl ⟨by rfl,?y12⟩) (by assumption) ?r12
    case y12=>(intro w9 hS9;(try dsimp only at hS9);go_simp;try with_reducible rfl)
    change wpAnyH _ _ _ _ _ _ _ (Act.put _ (some 14) _) _
    try simp only [Act.put,sS1,sS2,sS3]
    refine wpAnyH_ready (rs:=[12]) (by kernel_rfl) (by simp) ?_;refine AllReadyH.cons rfl (fun K hK=>?_) AllReadyH.nil
    go_simp
    go_at_call 64;(with_reducible refine (H1.out _ bw).mono ?_);rintro e w2 ⟨rfl,hb2⟩
    go_wp2_with fail
    refine hK.out _ _ ?s13 ?r13
    case s13=>exact HS.out _ bw
    intro hHeld;clear hK K
    try simp only [Act.put,sS1,sS2,sS3]
    refine tH 13 ?_;refine tH 14 ?_;cases b1
    · refine wpAnyH_take (i:=15) (v:=?v16) rfl (by kernel_rfl) (by kernel_rfl) (by kernel_rfl) (fun _ _ _ h=>h) (Or.inl ⟨by rfl,?y16⟩) (by assumption) ?r16
      case y16=>(intro w9 hS9;(try dsimp only at hS9);go_simp;try with_reducible rfl)
      change wpAnyH _ _ _ _ _ _ _ (Act.put _ (some 18) _) _
      try simp only [Act.put,sS1,sS2,sS3]
      refine wpAnyH_ready (rs:=[16]) (by kernel_rfl) (by simp) ?_;refine AllReadyH.cons rfl (fun K hK=>?_) AllReadyH.nil
      go_simp
      go_at_call 64;(with_reducible refine (H2.out _ bw).mono ?_);rintro e w3 ⟨rfl,hb3⟩
      go_wp2_with fail
      refine hK.out _ _ ?s17 ?r17
      case s17=>exact HS.out _ bw
      intro hHeld;clear hK K
      try simp only [Act.put,sS1,sS2,sS3]
      refine tH 17 ?_;refine tH 18 ?_;cases b2
      · refine wpAnyH_take (i:=19) (v:=?v20) rfl (by kernel_rfl) (by kernel_rfl) (by kernel_rfl) (fun _ _ _ h=>h) (Or.inl ⟨by rfl,?y20⟩) (by assumption) ?r20
        case y20=>(intro w9 hS9;(try dsimp only at hS9);go_simp;try with_reducible rfl)
        change wpAnyH _ _ _ _ _ _ _ (Act.put _ (some 22) _) _
        try simp only [Act.put,sS1,sS2,sS3]
        refine wpAnyH_ready (rs:=[20]) (by kernel_rfl) (by simp) ?_;refine AllReadyH.cons rfl (fun K hK=>?_) AllReadyH.nil
        go_simp
        go_at_call 64;(with_reducible refine (H3.out _ bw).mono ?_);rintro e w4 ⟨rfl,hb4⟩
        go_wp2_with fail
        refine hK.out _ _ ?s21 ?r21
        case s21=>exact HS.out _ bw
        intro hHeld;clear hK K
        try simp only [Act.put,sS1,sS2,sS3]
        refine tH 21 ?_;refine tH 22 ?_;cases b3
        · refine wpAnyH_take (i:=23) (v:=?v24) rfl (by kernel_rfl) (by kernel_rfl) (by kernel_rfl) (fun _ _ _ h=>h) (Or.inl ⟨by rfl,?y24⟩) (by assumption) ?r24
          case y24=>(intro w9 hS9;(try dsimp only at hS9);go_simp;try with_reducible rfl)
          change wpAnyH _ _ _ _ _ _ _ (Act.put _ (some 26) _) _
          try simp only [Act.put,sS1,sS2,sS3]
          refine wpAnyH_ready (rs:=[24]) (by kernel_rfl) (by simp) ?_;refine AllReadyH.cons rfl (fun K hK=>?_) AllReadyH.nil
          go_simp
          go_at_call 64;(with_reducible refine (H4.out _ bw).mono ?_);rintro e w5 ⟨rfl,hb5⟩
          go_wp2_with fail
          refine hK.out _ _ ?s25 ?r25
          case s25=>exact HS.out _ bw
          intro hHeld;clear hK K
          try simp only [Act.put,sS1,sS2,sS3]
          refine tH 25 ?_;refine tH 26 ?_;refine wpAnyH_done (by kernel_rfl) ?_ _
          go_wp2_with fail
          go_ret;exact ⟨rfl,bw⟩
        · refine wpAnyH_take (i:=23) (v:=undef) rfl (by kernel_rfl) (by kernel_rfl) (by kernel_rfl) (fun _ _ _ h=>h) (Or.inr ⟨by rfl,rfl⟩) (by assumption) ?_;change wpAnyH _ _ _ _ _ _ _ (Act.put _ (some 26) _) _
          try simp only [Act.put,sS1,sS2,sS3]
          refine uH 24 ?_;refine tH 25 ?_;refine tH 26 ?_;refine wpAnyH_done (by kernel_rfl) ?_ _
          go_wp2_with fail
          go_ret;exact ⟨rfl,bw⟩
      · refine wpAnyH_take (i:=19) (v:=undef) rfl (by kernel_rfl) (by kernel_rfl) (by kernel_rfl) (fun _ _ _ h=>h) (Or.inr ⟨by rfl,rfl⟩) (by assumption) ?_;change wpAnyH _ _ _ _ _ _ _ (Act.put _ (some 22) _) _
        try simp only [Act.put,sS1,sS2,sS3]
        refine uH 20 ?_;refine tH 21 ?_;refine tH 22 ?_;refine uH 23 ?_;refine uH 24 ?_;refine tH 25 ?_;refine tH 26 ?_;refine wpAnyH_done (by kernel_rfl) ?_ _
        go_wp2_with fail
        go_ret;exact ⟨rfl,bw⟩
    · refine wpAnyH_take (i:=15) (v:=undef) rfl (by kernel_rfl) (by kernel_rfl) (by kernel_rfl) (fun _ _ _ h=>h) (Or.inr ⟨by rfl,rfl⟩) (by assumption) ?_;change wpAnyH _ _ _ _ _ _ _ (Act.put _ (some 18) _) _
      try simp only [Act.put,sS1,sS2,sS3]
      refine uH 16 ?_;refine tH 17 ?_;refine tH 18 ?_;refine uH 19 ?_;refine uH 20 ?_;refine tH 21 ?_;refine tH 22 ?_;refine uH 23 ?_;refine uH 24 ?_;refine tH 25 ?_;refine tH 26 ?_;refine wpAnyH_done (by kernel_rfl) ?_ _
      go_wp2_with fail
      go_ret;exact ⟨rfl,bw⟩
  · refine wpAnyH_take (i:=11) (v:=undef) rfl (by kernel_rfl) (by kernel_rfl) (by kernel_rfl) (fun _ _ _ h=>h) (Or.inr ⟨by rfl,rfl⟩) (by assumption) ?_;change wpAnyH _ _ _ _ _ _ _ (Act.put _ (some 14) _) _
    try simp only [Act.put,sS1,sS2,sS3]
    refine uH 12 ?_;refine tH 13 ?_;refine tH 14 ?_;refine uH 15 ?_;refine uH 16 ?_;refine tH 17 ?_;refine tH 18 ?_;refine uH 19 ?_;refine uH 20 ?_;refine tH 21 ?_;refine tH 22 ?_;refine uH 23 ?_;refine uH 24 ?_;refine tH 25 ?_;refine tH 26 ?_;refine wpAnyH_done (by kernel_rfl) ?_ _
    go_wp2_with fail
    go_ret;exact ⟨rfl,bw⟩
theorem ends_step {β:Type} {R A B:Res β} (C:PC) (l:List Tk) (w:World) (HR:Hid (R=if endsB l=true then A else B)) (h:C.At w l) :
    Calls Tryz.prog 62 #[.pointer (some ⟨C.p,0,none⟩)] w fun e w'=>(e=.returned (.bool true)∧Hid (endsB l=true)∧Hid (R=A)∧Hid (C.At w' l)∧Gs C.p w w')∨(e=.returned (.bool false)∧Hid (endsB l=false)∧Hid (R=B)∧Hid (C.At w' l)∧Gs C.p w w'):=by
  refine (ends_at C l w h).mono fun e w' h9=>?_;cases hb:endsB l with
  | true=>exact .inl ⟨by rw [h9.1,hb],rfl,by rw [hb] at HR;exact HR,h.mv h9.2,Gs.of_below h9.2⟩
  | false=>exact .inr ⟨by rw [h9.1,hb],rfl,by rw [hb] at HR;exact HR,h.mv h9.2,Gs.of_below h9.2⟩
end Go.Proofs.YtdekaghipjpgpaaGreatDoor
