import Derived.Test.YtaddbmkkkollpaaGreatDoor20
import Derived.Test.YtaddbmkkkollpaaGreatDoor23
import Derived.Test.YtaddbmkkkollpaaGreatDoor13
set_option linter.all false
namespace Go.Proofs.YtaddbmkkkollpaaGreatDoor
open Go.RowKit
def cY:List (List Nat)→List (List Nat)→List Nat
  | [],[]=>[]
  | x::r,[]=>x++cY r []
  | [],y::s=>y++cY [] s
  | x::r,y::s=>x++y++cY r s
mutual
def bn:Ex→List Nat | .mk k o l p q s a f=>(fK a).flatten++(jW f).flatten
def fK:List Ex→List (List Nat)|[]=>[]|x::r=>bn x::fK r
def cW:Fn→List Nat | .mk _ _ _ b _=>(ir b).flatten.length::(ir b).flatten
def jW:List Fn→List (List Nat)|[]=>[]|x::r=>cW x::jW r
def dY:St→List Nat | .mk k _ _ l r b _=>(fK l).flatten++(if k=7 then (iq b).flatten++(fK r).flatten else if k≠8 then (fK r).flatten++(iq b).flatten else cY (fK r) (iq b))
def ir:List St→List (List Nat)|[]=>[]|x::r=>dY x::ir r
def iq:List (List St)→List (List Nat)|[]=>[]|x::r=>(ir x).flatten::iq r
end
def aQ (l:List Ex):List Nat:=l.flatMap bn
def aF (l:List St):List Nat:=l.flatMap dY
theorem yr (l:List Ex):fK l=l.map bn:=by induction l with|nil=>rfl|cons x r ih=>simp [fK,ih]
theorem Js (l:List Fn):jW l=l.map cW:=by induction l with|nil=>rfl|cons x r ih=>simp [jW,ih]
theorem nG (l:List St):ir l=l.map dY:=by induction l with|nil=>rfl|cons x r ih=>simp [ir,ih]
theorem Jj (l:List (List St)):iq l=l.map aF:=by
  induction l with
  | nil=>rfl
  | cons x r ih=>simp [iq,ih,nG,aF,List.flatMap_def]
theorem yq (x:Ex):bn x=aQ x.args++x.funcs.flatMap cW:=by
  cases x;simp only [bn,yr,Js,Ex.args,Ex.funcs,aQ,List.flatMap_def]
theorem su (x:Fn):cW x=(aF x.body).length::aF x.body:=by cases x;simp only [cW,nG,Fn.body,aF,List.flatMap_def]
theorem yu (x:St):dY x=aQ x.left++(if x.kind=7 then x.blocks.flatMap aF++aQ x.right else if x.kind≠8 then aQ x.right++x.blocks.flatMap aF else cY (x.right.map bn) (x.blocks.map aF)):=by
  cases x;simp only [dY,yr,Jj,St.left,St.right,St.blocks,St.kind,aQ,List.flatMap_def];rfl
structure eS (fn:Int) (n0:Nat) (S:List Nat) (U:List Int):Prop where
  len:U.length=S.length
  cl:∀ (i:Nat) s,S[i]?=some s→i+s<S.length
  up:∀ (j:Nat) u,U[j]?=some u→(u=fn∧∀ (i:Nat) s,i<j→S[i]?=some s→i+s<j)∨∃ (p:Nat) (s:Nat),p<j∧u=((n0+p:Nat):Int)∧S[p]?=some s∧j≤p+s∧∀ (i:Nat) t,p<i→i<j→S[i]?=some t→i+t<j
theorem eS.nil (fn:Int) (n0:Nat):eS fn n0 [] []:=⟨rfl,fun i s h=>(by simp at h),fun j u h=>(by simp at h)⟩
theorem eS.app {fn:Int} {n0:Nat} {S S':List Nat} {U U':List Int} (h:eS fn n0 S U) (k:eS fn (n0+S.length) S' U'):eS fn n0 (S++S') (U++U'):=by
  have hcl:∀ (i:Nat) s,(S++S')[i]?=some s→(i<S.length∧S[i]?=some s∧i+s<S.length)∨∃ i',i=S.length+i'∧S'[i']?=some s:=fun i s hi=>by
    rcases Nat.lt_or_ge i S.length with hl|hl
    · rw [List.getElem?_append_left hl] at hi;exact .inl ⟨hl,hi,h.cl i s hi⟩
    · rw [List.getElem?_append_right hl] at hi;exact .inr ⟨i - S.length,by omega,hi⟩
  refine ⟨by simp [h.len,k.len],fun i s hi=>?_,fun j u hj=>?_⟩
  · rw [List.length_append];rcases hcl i s hi with ⟨-,-,h1⟩|⟨i',rfl,h1⟩
    · omega
    · have:=k.cl i' s h1;omega
  · rcases Nat.lt_or_ge j U.length with hl|hl
    · rw [List.getElem?_append_left hl] at hj;have hl':=h.len;rcases h.up j u hj with ⟨h1,h2⟩|⟨p,s,h1,h2,h3,h4,h5⟩
      · refine .inl ⟨h1,fun i s hi hs=>?_⟩;rcases hcl i s hs with ⟨-,h6,-⟩|⟨i',rfl,-⟩
        · exact h2 i s hi h6
        · omega
      · refine .inr ⟨p,s,h1,h2,by rw [List.getElem?_append_left (KQ h3).1];exact h3,h4,fun i t hi hij ht=>?_⟩;rcases hcl i t ht with ⟨-,h6,-⟩|⟨i',rfl,-⟩
        · exact h5 i t hi hij h6
        · omega
    · rw [List.getElem?_append_right hl] at hj;obtain ⟨j',rfl⟩:∃ j',j=S.length+j':=⟨j - S.length,by rw [←h.len];omega⟩
      rw [h.len,Nat.add_sub_cancel_left] at hj;rcases k.up j' u hj with ⟨h1,h2⟩|⟨p,s,h1,h2,h3,h4,h5⟩
      · refine .inl ⟨h1,fun i s hi hs=>?_⟩;rcases hcl i s hs with ⟨-,-,h6⟩|⟨i',rfl,h6⟩
        · omega
        · have:=h2 i' s (by omega) h6;omega
      · refine .inr ⟨S.length+p,s,by omega,by rw [h2];omega,by rw [List.getElem?_append_right (by omega),Nat.add_sub_cancel_left];exact h3,by omega,fun i t hi hij ht=>?_⟩;rcases hcl i t ht with ⟨h7,-,-⟩|⟨i',rfl,h6⟩
        · omega
        · have:=h5 i' t (by omega) (by omega) h6;omega
theorem eS.node {fn:Int} {n0:Nat} {S:List Nat} {U:List Int} (h:eS n0 (n0+1) S U):eS fn n0 (S.length::S) (fn::U):=by
  refine ⟨by simp [h.len],fun i s hi=>?_,fun j u hj=>?_⟩
  · rw [List.length_cons];cases i with
    | zero=>simp at hi;omega
    | succ i=>have:=h.cl i s (by simpa using hi);omega
  · cases j with
    | zero=>simp at hj;exact .inl ⟨hj.symm,fun i s hi=>absurd hi (by omega)⟩
    | succ j =>
      have hj':U[j]?=some u:=by simpa using hj
      have hjl:=(KQ hj').1;rw [h.len] at hjl;rcases h.up j u hj' with ⟨h1,h2⟩|⟨p,s,h1,h2,h3,h4,h5⟩
      · refine .inr ⟨0,S.length,by omega,by rw [h1];omega,rfl,by omega,fun i t hi hij ht=>?_⟩;obtain ⟨i',rfl⟩:∃ i',i=i'+1:=⟨i - 1,by omega⟩
        have:=h2 i' t (by omega) (by simpa using ht);omega
      · refine .inr ⟨p+1,s,by omega,by rw [h2];omega,by simpa using h3,by omega,fun i t hi hij ht=>?_⟩;obtain ⟨i',rfl⟩:∃ i',i=i'+1:=⟨i - 1,by omega⟩
        have:=h5 i' t (by omega) (by omega) (by simpa using ht);omega
def Sc.upL (σ:Sc):List Int:=σ.funs.map (·.up)
def aZ (fn:Int) (σ σ':Sc) (l:List Nat):Prop:=∃ U,σ'.upL=σ.upL++U∧eS fn σ.funs.length l U
theorem aZ.same {fn:Int} {σ σ':Sc} (h:σ'.upL=σ.upL):aZ fn σ σ' []:=⟨[],by rw [h,List.append_nil],eS.nil _ _⟩
theorem aZ.then {fn:Int} {a b c:Sc} {l m:List Nat} (h:aZ fn a b l) (k:aZ fn b c m):aZ fn a c (l++m):=by
  obtain ⟨U,h1,h2⟩:=h;obtain ⟨V,h3,h4⟩:=k
  have e:b.funs.length=a.funs.length+l.length:=by
    have:=congrArg List.length h1;simp only [Sc.upL,List.length_map,List.length_append] at this;rw [this,h2.len]
  rw [e] at h4;exact ⟨U++V,by rw [h3,h1,List.append_assoc],h2.app h4⟩
theorem sk {σ:Sc} {fn:Nat} {x':Fu} (h:x'.up=(σ.fu fn).up):(σ.setF fn x').upL=σ.upL:=by
  unfold Sc.upL Sc.setF;rw [List.map_set,h];refine List.ext_getElem? fun i=>?_;rw [List.getElem?_set];split
  · rename_i e;subst e;split
    · rename_i hl;simp only [List.length_map] at hl;unfold Sc.fu;rw [List.getElem?_map,List.getD_eq_getElem?_getD,KP hl];rfl
    · rename_i hl;rw [List.getElem?_eq_none (by omega)]
  · rfl
theorem um {fn:Nat} {line:Int} {x:ByteArray × Int} {σ σ':Sc} (h:bv fn line x σ=.ok σ'):aZ fn σ σ' []:=by
  unfold bv at h;split at h
  · cases h
  · cases h;exact aZ.same (sk (σ:=σ) rfl)
theorem yF {v:Vr} {line:Int}:∀ {n fn:Nat} {σ:Sc} {r:Nat × Sc},cd n fn v line σ=.ok r→r.2.upL=σ.upL
  | 0,_,_,_,h=>by cases h
  | n+1,fn,σ,r,h=>by
    unfold cd at h;split at h
    · cases h;rfl
    · obtain ⟨q,h1,h2⟩:=aI h
      have hs:q.2.upL=σ.upL:=by
        split at h1
        · cases h1;exact sk rfl
        · exact yF h1
      split at h2
      · cases h2
      · cases h2;refine Eq.trans (sk (σ:=q.2) (fn:=fn) ?_) hs;rfl
theorem BW {fn:Nat} {e:Ex} {set:Bool} {σ:Sc} {r:Int × Nat × Sc} (h:eo fn e set σ=.ok r):r.2.2.upL=σ.upL:=by
  unfold eo at h;split at h
  · cases h;rfl
  · split at h
    · cases h
    · split at h
      · cases h;rfl
      · obtain ⟨q,h1,h2⟩:=aI h;cases h2;exact yF h1
theorem F1 {fn:Nat} {e:Ex} {set:Bool} {σ σ':Sc} (h:gO fn e set σ=.ok σ'):aZ fn σ σ' []:=by
  obtain ⟨r,h1,h2⟩:=aI h;have k:=BW h1;cases h2;exact aZ.same k
theorem D8 {fn:Nat} {e:Ex} {set:Bool} {σ σ':Sc} (h:dt fn set e σ=.ok σ'):aZ fn σ σ' []:=by
  unfold dt at h;split at h
  · exact F1 h
  · split at h
    · cases h
    · cases h;exact aZ.same rfl
theorem ox {α:Type} {fn:Int} {f:α→Sc→SR Sc} {g:α→List Nat}:∀ {l:List α} {σ σ':Sc},(∀ x ∈ l,∀ σ σ':Sc,f x σ=.ok σ'→aZ fn σ σ' (g x))→aO f l σ=.ok σ'→aZ fn σ σ' (l.flatMap g)
  | [],σ,σ',_,h=>by cases h;exact aZ.same rfl
  | x::r,σ,σ',hf,h=>by
    obtain ⟨σ1,h1,h2⟩:=aI h;rw [List.flatMap_cons];exact (hf x (by simp) _ _ h1).then (ox (fun y hy=>hf y (by simp [hy])) h2)
theorem qv {α:Type} {fn:Nat} {line:Int} {f:α→ByteArray × Int} {l:List α} {σ σ':Sc} (h:aO (fun p=>bv fn line (f p)) l σ=.ok σ'):aZ fn σ σ' []:=by
  have h9:=ox (g:=fun _=>[]) (fun x _ a b h=>um h) h
  rwa [show l.flatMap (fun _=>([]:List Nat))=[] from by induction l with|nil=>rfl|cons x r ih=>simp] at h9
abbrev jg (E:WE):Prop:=∀ (fn:Nat) set (e:Ex) (σ σ':Sc),e.wg→E fn set e σ=.ok σ'→aZ fn σ σ' (bn e)
abbrev iy (B:WB):Prop:=∀ f c (σ σ':Sc),St.wgs f.list→Ex.wgs c→B f c σ=.ok σ'→aZ f.fn σ σ' (aF f.list++aQ c)
theorem J8 {a b:Sc} (h:b.upL=a.upL):b.funs.length=a.funs.length:=by have:=congrArg List.length h;simpa [Sc.upL] using this
theorem aZ.into {fn:Int} {a b c:Sc} {l:List Nat} (h:aZ fn a b l) (k:c.upL=b.upL):aZ fn a c l:=by unfold aZ at *;rw [k];exact h
theorem aZ.from {fn:Int} {a b c:Sc} {l:List Nat} (h:aZ fn b c l) (k:b.upL=a.upL):aZ fn a c l:=by unfold aZ at *;rw [←k,←J8 k];exact h
theorem vp {B:WB} (hB:iy B) {up:Int} {f:Fn} {σ σ':Sc} (hw:f.wg) (h:dU B up f σ=.ok σ'):aZ up σ σ' (cW f):=by
  obtain ⟨σ2,h1,h2⟩:=aI h;obtain ⟨σ3,h3,h4⟩:=aI h2;cases h4;rw [Fn.wg_eq] at hw;have k1:aZ (σ.funs.length:Nat) { σ with funs:=σ.funs++[⟨up,f.vararg,[],[],[],[]⟩] } σ2 []:=qv (f:=fun p=>(p,0)) h1;have k2:aZ (σ.funs.length:Nat) σ2 σ3 (aF f.body++aQ []):=hB _ [] _ _ hw trivial h3;obtain ⟨U,h5,h6⟩:=k1.then k2;simp only [aQ,List.flatMap_nil,List.append_nil,List.nil_append] at h6;refine ⟨up::U,?_,?_⟩
  · show σ3.upL=_;rw [h5];simp [Sc.upL]
  · rw [su];have h7:eS (σ.funs.length:Nat) (σ.funs.length+1) (aF f.body) U:=by simpa using h6
    exact h7.node
theorem jz {E:WE} (hE:jg E) {fn:Nat} {set:Bool} {l:List Ex} {σ σ':Sc} (hw:Ex.wgs l) (h:aO (E fn set) l σ=.ok σ'):aZ fn σ σ' (aQ l) :=
  ox (fun x hx a b h=>hE _ _ _ _ _ (Ex.wgs_mem hw x hx) h) h
theorem CO {E:WE} {B:WB} (hE:jg E) (hB:iy B):jg (jx E B):=by
  intro fn set e σ σ' hw h;obtain ⟨σ1,h1,h2⟩:=aI h;obtain ⟨σ2,h3,h4⟩:=aI h2;rw [Ex.wg_eq] at hw;rw [yq];have k9:=(D8 h1).then ((jz hE hw.2.1 h3).then (ox (fn:=(fn:Int)) (fun x hx a b h=>vp hB (Fn.wgs_mem hw.2.2 x hx) h) h4));simpa using k9
theorem wu {E:WE} {B:WB} (hB:iy B) {fn:Nat} {s:St} {rep:Bool} {σ σ':Sc} (hw:St.wgs (s.blocks.headD [])) (hr:Ex.wgs s.right) (h:fz E B fn s rep σ=.ok σ') :
    aZ fn σ σ' (aF (s.blocks.headD [])++if rep=true then aQ s.right else []):=by
  obtain ⟨σ2,h1,h2⟩:=aI h;obtain ⟨σ3,h3,h4⟩:=aI h2;cases h4;have k1:aZ fn σ σ2 []:=(qv (f:=fun p=>p) h1).from rfl;have k2:=hB _ _ _ _ hw (by split;exact hr;trivial) h3;have k3:=(k1.then k2).into (c:={ σ3 with frames:=σ3.frames.take σ.frames.length,scope:=σ3.scope.take σ.scope.length }) rfl;cases rep <;> simpa [frame,aQ] using k3
theorem KH (y:List Nat) (r:List (List Nat)):∀ l:List (List Nat),cY l (y::r)=l.headD []++y++cY l.tail r
  | []=>by simp [cY]
  | x::s=>by simp [cY]
theorem KI:cY [] []=[]:=by simp [cY]
theorem vH {E:WE} {B:WB} (hE:jg E) (hB:iy B) {fn:Nat} {rs:List Ex} (hr:Ex.wgs rs):∀ {bs:List (List St)} {i:Nat} {σ σ':Sc},St.wgss bs→rs.length≤i+bs.length→fY E B fn rs i bs σ=.ok σ'→aZ fn σ σ' (cY ((rs.drop i).map bn) (bs.map aF))
  | [],i,σ,σ',_,hl,h=>by
    cases h;rw [List.drop_of_length_le (by simpa using hl)];simp only [List.map_nil,KI];exact aZ.same rfl
  | b::r,i,σ,σ',hw,hl,h=>by
    obtain ⟨σ1,h1,h2⟩:=aI h;obtain ⟨σ2,h3,h4⟩:=aI h2;have k2:=hB _ [] _ _ hw.1 trivial h3;have k3:=vH hE hB hr hw.2 (by simp at hl;omega) h4;rw [List.map_cons,KH]
    have k1:aZ fn σ σ1 (((rs.drop i).map bn).headD []):=by
      cases hx:rs[i]? with
      | none =>
        rw [hx] at h1;cases h1;rw [List.drop_of_length_le (List.getElem?_eq_none_iff.1 hx)];exact aZ.same rfl
      | some c =>
        rw [hx] at h1;have hm:=KR hx;rw [show rs.drop i=c::rs.drop (i+1) from by rw [List.drop_eq_getElem?_toList_append,hx];rfl];exact hE _ _ _ _ _ (Ex.wgs_mem hr c hm) h1
    rw [←List.map_tail,List.tail_drop];have k4:=(k1.then k2).then k3;simpa [frame,aQ] using k4
theorem rx {fn:Nat} {s:St} {σ σ':Sc}:∀ {l:List Fr},cj fn s σ l=.ok σ'→aZ fn σ σ' []
  | [],h=>by cases h
  | f::r,h=>by
    unfold cj at h;split at h
    · cases h
    · split at h
      · split at h
        · cases h;exact aZ.same rfl
        · exact rx h
      · split at h
        · exact rx h
        · split at h
          · cases h
          · cases h;exact aZ.same rfl
theorem IX {E:WE} {B:WB} (hE:jg E) (hB:iy B) {fn:Nat} {s:St} {σ σ':Sc} (hw:s.wg) (h:cy E B fn s σ=.ok σ'):aZ fn σ σ' (dY s):=by
  rw [St.wg_eq] at hw;obtain ⟨⟨w1,w2,w3,w4,w5⟩,wl,wr,wb⟩:=hw;rw [yu];unfold cy at h
  have nb:s.blocks.flatMap aF=aF (s.blocks.headD [])∨s.blocks.length≠1:=by
    by_cases h1:s.blocks.length=1
    · left;rw [xe h1];simp
    · exact .inr h1
  have bw:s.blocks.length=1→St.wgs (s.blocks.headD []):=fun h1=>by have:=xe h1;rw [this] at wb;exact wb.1
  split at h
  · rename_i hk;obtain ⟨σ1,h1,h2⟩:=aI h;rw [w1 (by omega),w4.resolve_left (by omega),if_neg (by omega),if_pos (by omega)];have k2:aZ fn σ1 σ' []:=qv (f:=fun p=>p) h2;have k:=(jz hE wr h1).then k2;simpa [aQ] using k
  split at h
  · rename_i hk;obtain ⟨σ1,h1,h2⟩:=aI h;rw [w1 (by omega),w4.resolve_left (by omega),if_neg (by omega),if_pos (by omega)];have k:=(um h1).then (jz hE wr h2);simpa [aQ] using k
  split at h
  · rename_i hk;obtain ⟨σ1,h1,h2⟩:=aI h;rw [w4.resolve_left (by omega),if_neg (by omega),if_pos (by omega)];have k:=(jz hE wl h1).then (jz hE wr h2);simpa [aQ] using k
  split at h
  · rename_i hk;have h1:=w2 (by omega);rw [w1 (by omega),w5 (by omega),nb.resolve_right (by omega),if_neg (by omega),if_pos (by omega)];have k:=hB _ [] _ _ (bw h1) trivial h;simpa [aQ,frame] using k
  split at h
  · rename_i hk;rw [w1 (by omega),if_neg (by omega),if_neg (by omega)];have k:=vH hE hB wr wb (by have:=w3 hk;omega) h;simpa [aQ] using k
  split at h
  · rename_i hk;obtain ⟨σ1,h1,h2⟩:=aI h;have h3:=w2 (by omega);rw [w1 (by omega),nb.resolve_right (by omega),if_neg (by omega),if_pos (by omega)];have k:=(jz hE wr h1).then (wu hB (bw h3) wr h2);simpa [aQ] using k
  split at h
  · rename_i hk;have h3:=w2 (by omega);rw [w1 (by omega),nb.resolve_right (by omega),if_pos hk];have k:=wu hB (bw h3) wr h;simpa [aQ] using k
  split at h
  · rename_i hk;rw [w1 (by omega),w4.resolve_left (by omega),w5 (by omega),if_neg (by omega),if_pos (by omega)];unfold gM at h;split at h
    · cases h
    · cases h;exact aZ.same rfl
  split at h
  · rename_i hk;rw [w1 (by omega),w4.resolve_left (by omega),w5 (by omega),if_neg (by omega),if_pos (by omega)];exact rx h
  · rw [w1 (by omega),w4.resolve_left (by omega),if_neg (by omega),if_pos (by omega)];have k:=jz hE wr h;simpa [aQ] using k
theorem yd {E:WE} {B:WB} (hE:jg E) (hB:iy B) {fn n:Nat}:∀ {l:List St} {i:Nat} {σ σ':Sc},St.wgs l→gS E B fn n i l σ=.ok σ'→aZ fn σ σ' (aF l)
  | [],_,_,_,_,h=>by cases h;exact aZ.same rfl
  | s::r,i,σ,σ',hw,h=>by
    obtain ⟨σ1,h1,h2⟩:=aI h;have k1:=(IX hE hB hw.1 h1).from (a:=σ) rfl;have k:=k1.then (yd hE hB hw.2 h2);unfold aF at *;rw [List.flatMap_cons];exact k
theorem A7 {E:WE} {B:WB} (hE:jg E) (hB:iy B):iy (jp E B):=by
  intro f c σ σ' hw hc h;obtain ⟨σ1,h1,h2⟩:=aI h;obtain ⟨σ2,h3,h4⟩:=aI h2;cases h4;exact ((((yd hE hB hw h1).from (a:=σ) rfl)).then (jz hE hc h3)).into rfl
theorem mD:∀ n,jg (WL n).1∧iy (WL n).2
  | 0=>⟨fun _ _ _ _ _ _ h=>(by cases h),fun _ _ _ _ _ _ h=>(by cases h)⟩
  | n+1=>⟨CO (mD n).1 (mD n).2,A7 (mD n).1 (mD n).2⟩
theorem Ip {b:List St} {σ:Sc} (hw:St.wgs b) (h:lY b=.ok σ):eS (-1) 0 ((aF b).length::aF b) σ.upL:=by
  have k:=vp (mD _).2 (f:=.mk ⟨#[]⟩ [] true b 0) (by rw [Fn.wg_eq];exact hw) h;rw [su] at k;obtain ⟨U,h1,h2⟩:=k;have h3:σ.upL=U:=by rw [h1];rfl
  rw [h3];exact h2
open Go.RowKit Go.Maps Go.Sort Go.Shelf
def bX (l:List Ex):List Fn:=l.flatMap Ex.funcs
def dK (l:List Ex):List Nat:=(bX l).map fun f=>(aF f.body).length
theorem Jy (a b:List Ex):dK (a++b)=dK a++dK b:=by simp [dK,bX]
theorem yv (x:Ex) (l:List Ex):dK (x::l)=(x.funcs.map fun f=>(aF f.body).length)++dK l:=by simp [dK,bX]
theorem me:∀ l:List (List Ex),dK l.flatten=(l.map dK).flatten
  | []=>rfl
  | x::r=>by rw [List.flatten_cons,Jy,me r];rfl
theorem pU:∀ a b:List (List Nat),cY a b=(aP a b).flatten
  | [],[]=>by simp [cY,aP]
  | x::r,[]=>by
    have h:=pU r [];have h9:∀ l:List (List Nat),aP l []=l:=fun l=>by cases l <;> rfl
    rw [h9] at h;simp [cY,h9,h]
  | [],y::s=>by
    have h:=pU [] s;have h9:∀ l:List (List Nat),aP [] l=l:=fun l=>by cases l <;> rfl
    rw [h9] at h;simp [cY,h9,h]
  | x::r,y::s=>by simp [cY,aP,pU r s]
mutual
theorem Jk:∀ x:Ex,x.wg→bn x=dK (bT x)
  | .mk k o l p q s a [],h=>by
    simp only [bn,bT,jW,jw];rw [yv];simp only [Ex.funcs,List.map_nil,List.nil_append,List.flatten_nil,List.append_nil];rw [me,←pz a h.2.1]
  | .mk k o l p q s a (g::r),h=>by
    obtain ⟨h1,h2,h3⟩:=h;rcases h1 with h1|⟨rfl,h1⟩
    · cases h1
    · obtain rfl:r=[]:=by simpa using h1
      have k9:=Jo g h3.1;simp only [bn,bT,fK,gG,jW,jw];rw [yv];simp [k9,Ex.funcs]
theorem pz:∀ l:List Ex,Ex.wgs l→fK l=(gG l).map dK
  | [],_=>rfl
  | x::r,h=>by simp only [fK,gG,List.map_cons];rw [Jk x h.1,pz r h.2]
theorem Jo:∀ x:Fn,x.wg→cW x=(aF x.body).length::dK (eG x)
  | .mk _ _ _ b _,h=>by
    have k9:=pB b h;simp only [cW,eG,me,←k9];rw [nG,←List.flatMap_def];rfl
theorem Jt:∀ x:St,x.wg→dY x=dK (eu x)
  | .mk k l ns le r b lab,h=>by
    simp only [dY,eu];rw [me,rH,←pz le h.2.1,←pz r h.2.2.1,←yo b h.2.2.2,pU];unfold cI;by_cases h7:k=7
    · simp [h7]
    · by_cases h8:k=8
      · simp [h8]
      · simp [h7,h8]
theorem pB:∀ l:List St,St.wgs l→ir l=(iN l).map dK
  | [],_=>rfl
  | x::r,h=>by simp only [ir,iN,List.map_cons];rw [Jt x h.1,pB r h.2]
theorem yo:∀ l:List (List St),St.wgss l→iq l=(jv l).map dK
  | [],_=>rfl
  | x::r,h=>by simp only [iq,jv,List.map_cons];rw [me,←pB x h.1,yo r h.2]
end
theorem Jw {b:List St} (h:St.wgs b):aF b=dK (aW b):=by
  unfold aF aW;rw [List.flatMap_def,List.flatMap_def,←nG,←qI,me,pB b h]
def enc (S:List Nat):Nat→Nat→Int
  | 0,k=>if k=0 then -1 else 0
  | i+1,k=>if i<k∧k≤i+S.getD i 0 then (i:Int) else enc S i k
theorem Cj {S:List Nat} {U:List Int} (h:eS (-1) 0 (S.length::S) U) {k:Nat} {u:Int} (hk:U[k]?=some u):enc (S.length::S) U.length k=u:=by
  have hl:=h.len;have hkl:=(KQ hk).1;rw [List.length_cons] at hl
  have hg:∀ i,i<U.length→∃ s,(S.length::S)[i]?=some s∧(S.length::S).getD i 0=s:=fun i hi=>by
    have h9:i<(S.length::S).length:=by simp;omega
    exact ⟨_,KP h9,by rw [List.getD_eq_getElem?_getD,KP h9];rfl⟩
  rcases h.up k u hk with ⟨h1,h2⟩|⟨p,s,h1,h2,h3,h4,h5⟩
  · have h0:k=0:=by
      rcases Nat.eq_zero_or_pos k with h9|h9
      · exact h9
      · have:=h2 0 S.length h9 rfl;omega
    subst h0;rw [h1]
    have:∀ i,enc (S.length::S) i 0 = -1:=fun i=>by
      induction i with
      | zero=>rfl
      | succ i ih=>unfold enc;rw [if_neg (by omega)];exact ih
    exact this _
  · rw [h2]
    have:∀ i,i≤U.length→p<i→enc (S.length::S) i k=((0+p:Nat):Int):=fun i=>by
      induction i with
      | zero=>intro _ hi;omega
      | succ i ih =>
        intro hle hi;obtain ⟨t,ht1,ht2⟩:=hg i (by omega);unfold enc;rw [ht2];rcases Nat.lt_or_ge p i with hpi|hpi
        · rw [if_neg (by rintro ⟨q1,q2⟩;have:=h5 i t hpi q1 ht1;omega)];exact ih (by omega) hpi
        · obtain rfl:i=p:=by omega
          rw [h3] at ht1;cases ht1;rw [if_pos ⟨h1,h4⟩];simp
    exact this _ (KU _) (by omega)
theorem EU (D:DataW Unit) (hD:IsMap D) (n:Int) (d:DataW Unit) (x:Int):x ∈ intKeys (D.put (.int .i64 n) d)↔x=n∨x ∈ intKeys D:=by
  obtain ⟨es,rfl⟩:=hD;show x ∈ (DataW.insert _ _).map _↔x=n∨x ∈ es.map _;rw [List.mem_map,List.mem_map];constructor
  · rintro ⟨p,hp,rfl⟩;rcases List.mem_cons.1 ((Go.WideShapes.insert_perm _ _).mem_iff.1 hp) with rfl|h1
    · exact .inl rfl
    · exact .inr ⟨p,(List.mem_filter.1 h1).1,rfl⟩
  · rintro (rfl|⟨p,hp,rfl⟩)
    · exact ⟨_,(Go.WideShapes.insert_perm _ _).mem_iff.2 (List.mem_cons_self ..),rfl⟩
    · cases hs:p.1.sameKey (.int .i64 n) with
      | false=>exact ⟨p,(Go.WideShapes.insert_perm _ _).mem_iff.2 (List.mem_cons_of_mem _ (List.mem_filter.2 ⟨hp,by rw [hs];rfl⟩)),rfl⟩
      | true =>
        refine ⟨_,(Go.WideShapes.insert_perm _ _).mem_iff.2 (List.mem_cons_self ..),?_⟩;obtain ⟨k,d'⟩:=p;cases k <;> simp [Lit.sameKey] at hs
        rw [hs.2];rfl
theorem tV (x:Fu) (v:Int):v ∈ cF x↔∃ c ∈ x.cau,v=(c:Nat):=by
  unfold cF;rw [List.mem_mergeSort];generalize x.cau=l
  induction l using pn with
  | h0=>simp [cR,dr,intKeys]
  | h1 l r ih =>
    rw [show cR (l++[r])=cR l++[(.int .i64 (r:Int),.bool true)] by unfold cR;simp,kc,EU _ (mG _),ih];constructor
    · rintro (rfl|⟨c,hc,rfl⟩)
      · exact ⟨r,by simp,rfl⟩
      · exact ⟨c,by simp [hc],rfl⟩
    · rintro ⟨c,hc,rfl⟩;rcases List.mem_append.1 hc with h1|h1
      · exact .inr ⟨c,h1,rfl⟩
      · left;rw [List.mem_singleton] at h1;rw [h1]
theorem Io {b:List St} {σ:Sc} (h:lY b=.ok σ) (hw:St.wys b≤1073741824):∀ x ∈ σ.funs,x.cau.length≤68719476736∧x.ups.length≤60:=fun x hx=>by
  have h9:=qR (mo _).2 h 0 ⟨KU _,KU _,KU _,KU _,KU _,fun x hx=>by cases hx⟩;obtain ⟨-,k2,-,k4⟩:=h9.fun_ x hx;have e:Fn.wy (.mk ⟨#[]⟩ [] true b 0)=1+0+0+St.wys b:=rfl;exact ⟨by omega,k4⟩
theorem J6 {σ:Sc} (hi:b7 σ) {k i p ix:Nat} {x:Fu} {nm:ByteArray} (hx:σ.funs[k]?=some x) (hu:x.ups[i]?=some (nm,false,ix)) (hp:x.up=(p:Int)):∃ y e,σ.funs[p]?=some y∧y.ups[ix]?=some (nm,e):=by
  obtain ⟨-,f2,f3⟩:=hi.fu k x hx;obtain ⟨q,hq⟩:∃ q,x.own[i]?=some q:=⟨_,KP (by rw [f2];exact (KQ hu).1)⟩
  rcases hi.ga k x hx i q _ hq hu with ⟨h1,-⟩|⟨-,h1⟩
  · cases h1
  · obtain ⟨y,h2,h3⟩:=h1 p hp;obtain ⟨n1,t1,z1,e1,g1,g2,g3⟩:=(hi.fu p y h2).2.2 _ q h3;obtain ⟨n2,t2,z2,e2,g4,g5,g6⟩:=f3 i q hq;rw [g1] at g4;cases g4;rw [g2] at g5;cases g5;rw [hu] at g6;cases g6;exact ⟨y,e1,h2,g3⟩
theorem J7 {σ:Sc} (hi:b7 σ) {k i p ix:Nat} {x:Fu} {nm:ByteArray} (hx:σ.funs[k]?=some x) (hu:x.ups[i]?=some (nm,true,ix)) (hp:x.up=(p:Int)):∃ y,σ.funs[p]?=some y∧ix ∈ y.cau:=by
  obtain ⟨-,f2,f3⟩:=hi.fu k x hx;obtain ⟨q,hq⟩:∃ q,x.own[i]?=some q:=⟨_,KP (by rw [f2];exact (KQ hu).1)⟩
  rcases hi.ga k x hx i q _ hq hu with ⟨-,h1,h2,y,h3,h4⟩|⟨h1,-⟩
  · obtain rfl:q.1=p:=by omega
    have h2':ix=q.2:=h2;exact ⟨y,h3,by rw [h2'];exact h4⟩
  · cases h1
