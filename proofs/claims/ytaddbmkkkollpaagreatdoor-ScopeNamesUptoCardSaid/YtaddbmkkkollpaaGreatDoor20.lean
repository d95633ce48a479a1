/- The uses of names that a walk through a chunk writes down are the chunk's names, in the order of the text. -/
import Derived.Test.YtaddbmkkkollpaaGreatDoor0A
import Derived.Test.YtaddbmkkkollpaaGreatDoorTZ
namespace Go.Proofs.YtaddbmkkkollpaaGreatDoor
open Go.RowKit
set_option linter.unusedVariables false
set_option linter.unusedSimpArgs false
abbrev NL:=ByteArray × Int
def zip8:List (List NL)→List (List NL)→List NL
  | [],[]=>[]
  | x::r,[]=>x++zip8 r []
  | [],y::s=>y++zip8 [] s
  | x::r,y::s=>x++y++zip8 r s
mutual
def nmE8:Ex→List NL | .mk k o l p q s a f=>(if k=7 then [(s,l)] else [])++((nmEL8 a).flatten++(nmFL8 f).flatten)
def nmEL8:List Ex→List (List NL)|[]=>[]|x::r=>nmE8 x::nmEL8 r
def nmF8:Fn→List NL | .mk _ _ _ b _=>(nmSL8 b).flatten
def nmFL8:List Fn→List (List NL)|[]=>[]|x::r=>nmF8 x::nmFL8 r
def nmS8:St→List NL | .mk k _ _ l r b _=>(nmEL8 l).flatten++(if k=7 then (nmBL8 b).flatten++(nmEL8 r).flatten else if k≠8 then (nmEL8 r).flatten++(nmBL8 b).flatten else zip8 (nmEL8 r) (nmBL8 b))
def nmSL8:List St→List (List NL)|[]=>[]|x::r=>nmS8 x::nmSL8 r
def nmBL8:List (List St)→List (List NL)|[]=>[]|x::r=>(nmSL8 x).flatten::nmBL8 r
end
def nmEs8 (l:List Ex):List NL:=l.flatMap nmE8
def nmSs8 (l:List St):List NL:=l.flatMap nmS8
theorem nmEL8_map (l:List Ex):nmEL8 l=l.map nmE8:=by induction l with|nil=>rfl|cons x r ih=>simp [nmEL8,ih]
theorem nmFL8_map (l:List Fn):nmFL8 l=l.map nmF8:=by induction l with|nil=>rfl|cons x r ih=>simp [nmFL8,ih]
theorem nmSL8_map (l:List St):nmSL8 l=l.map nmS8:=by induction l with|nil=>rfl|cons x r ih=>simp [nmSL8,ih]
theorem nmBL8_map (l:List (List St)):nmBL8 l=l.map nmSs8:=by
  induction l with
  | nil=>rfl
  | cons x r ih=>simp [nmBL8,ih,nmSL8_map,nmSs8,List.flatMap_def]
theorem nmE8_eq (x:Ex):nmE8 x=(if x.kind=7 then [(x.str,x.line)] else [])++(nmEs8 x.args++x.funcs.flatMap nmF8):=by
  cases x;simp only [nmE8,nmEL8_map,nmFL8_map,Ex.args,Ex.funcs,Ex.kind,Ex.str,Ex.line,nmEs8,List.flatMap_def];rfl
theorem nmF8_eq (x:Fn):nmF8 x=nmSs8 x.body:=by cases x;simp only [nmF8,nmSL8_map,Fn.body,nmSs8,List.flatMap_def]
theorem nmS8_eq (x:St):nmS8 x=nmEs8 x.left++(if x.kind=7 then x.blocks.flatMap nmSs8++nmEs8 x.right else if x.kind≠8 then nmEs8 x.right++x.blocks.flatMap nmSs8 else zip8 (x.right.map nmE8) (x.blocks.map nmSs8)):=by
  cases x;simp only [nmS8,nmEL8_map,nmBL8_map,St.left,St.right,St.blocks,St.kind,nmEs8,List.flatMap_def];rfl
/- the shape of a well-formed statement: which parts are there -/
mutual
def Ex.wg:Ex→Prop | .mk _ _ _ _ _ _ a f=>Ex.wgs a∧Fn.wgs f
def Ex.wgs:List Ex→Prop|[]=>True|x::r=>x.wg∧Ex.wgs r
def Fn.wg:Fn→Prop | .mk _ _ _ b _=>St.wgs b
def Fn.wgs:List Fn→Prop|[]=>True|x::r=>x.wg∧Fn.wgs r
def St.wg:St→Prop | .mk k _ _ l r b _=>((k≠3→l=[])∧((k=5∨k=6∨k=7∨k=9∨k=10)→b.length=1)∧(k=8→r.length≤b.length)∧((k=5∨k=6∨k=7∨k=8∨k=9∨k=10)∨b=[])∧((k=5∨k=12∨k=13∨k=14)→r=[]))∧Ex.wgs l∧Ex.wgs r∧St.wgss b
def St.wgs:List St→Prop|[]=>True|x::r=>x.wg∧St.wgs r
def St.wgss:List (List St)→Prop|[]=>True|x::r=>St.wgs x∧St.wgss r
end
theorem z20a {P:Prop} (h:P:=by
  induction l with
  | nil=>intro x hx;cases hx
  | cons y r ih=>intro x hx;rcases List.mem_cons.1 hx with rfl|hx;exact h.1;exact ih h.2 x hx):P:=h
theorem Ex.wgs_mem {l:List Ex} (h:Ex.wgs l):∀ x ∈ l,x.wg:=by
  exact z20a
theorem Fn.wgs_mem {l:List Fn} (h:Fn.wgs l):∀ x ∈ l,x.wg:=by
  exact z20a
theorem St.wgs_mem {l:List St} (h:St.wgs l):∀ x ∈ l,x.wg:=by
  exact z20a
theorem Ex.wg_eq (x:Ex):x.wg=(Ex.wgs x.args∧Fn.wgs x.funcs):=by cases x;rfl
theorem Fn.wg_eq (x:Fn):x.wg=St.wgs x.body:=by cases x;rfl
theorem St.wg_eq (x:St):x.wg=(((x.kind≠3→x.left=[])∧((x.kind=5∨x.kind=6∨x.kind=7∨x.kind=9∨x.kind=10)→x.blocks.length=1)∧(x.kind=8→x.right.length≤x.blocks.length)∧((x.kind=5∨x.kind=6∨x.kind=7∨x.kind=8∨x.kind=9∨x.kind=10)∨x.blocks=[])∧((x.kind=5∨x.kind=12∨x.kind=13∨x.kind=14)→x.right=[]))∧Ex.wgs x.left∧Ex.wgs x.right∧St.wgss x.blocks):=by cases x;rfl
def Sc.un (σ:Sc):List NL:=σ.uses.map fun u=>(u.name,u.line)
def Wr (σ σ':Sc) (l:List NL):Prop:=σ'.un=σ.un++l
theorem Wr.same {σ σ':Sc} (h:σ'.uses=σ.uses):Wr σ σ' []:=by unfold Wr Sc.un;rw [h];simp
theorem Wr.then {a b c:Sc} {l m:List NL} (h:Wr a b l) (k:Wr b c m):Wr a c (l++m):=by unfold Wr at *;rw [k,h,List.append_assoc]
theorem decl_un {fn:Nat} {line:Int} {x:ByteArray × Int} {σ σ':Sc} (h:declS fn line x σ=.ok σ'):Wr σ σ' []:=by
  unfold declS at h;split at h
  · cases h
  · cases h;exact Wr.same rfl
theorem upv_un {v:Vr} {line:Int}:∀ {n fn:Nat} {σ:Sc} {r:Nat × Sc},upvS n fn v line σ=.ok r→r.2.uses=σ.uses
  | 0,_,_,_,h=>by cases h
  | n+1,fn,σ,r,h=>by
    unfold upvS at h;split at h
    · cases h;rfl
    · obtain ⟨q,h1,h2⟩:=bind_okS h
      have hs:q.2.uses=σ.uses:=by
        split at h1
        · cases h1;rfl
        · exact upv_un h1
      split at h2
      · cases h2
      · cases h2;exact hs
theorem den_un {fn:Nat} {e:Ex} {set:Bool} {σ:Sc} {r:Int × Nat × Sc} (h:denS fn e set σ=.ok r):r.2.2.uses=σ.uses:=by
  unfold denS at h;split at h
  · cases h;rfl
  · split at h
    · cases h
    · split at h
      · cases h;rfl
      · obtain ⟨q,h1,h2⟩:=bind_okS h;cases h2;exact upv_un h1
theorem name_un {fn:Nat} {e:Ex} {set:Bool} {σ σ':Sc} (h:nameS fn e set σ=.ok σ'):Wr σ σ' [(e.str,e.line)]:=by
  obtain ⟨r,h1,h2⟩:=bind_okS h;have k:=den_un h1;cases h2;unfold Wr Sc.un;simp [k]
theorem head_un {fn:Nat} {e:Ex} {set:Bool} {σ σ':Sc} (h:headS fn set e σ=.ok σ'):Wr σ σ' (if e.kind=7 then [(e.str,e.line)] else []):=by
  unfold headS at h;split at h
  · rename_i hk;rw [if_pos hk];exact name_un h
  · rename_i hk;rw [if_neg hk];split at h
    · cases h
    · cases h;exact Wr.same rfl
theorem each_un {α:Type} {f:α→Sc→SR Sc} {g:α→List NL}:∀ {l:List α} {σ σ':Sc},(∀ x ∈ l,∀ σ σ':Sc,f x σ=.ok σ'→Wr σ σ' (g x))→eachS f l σ=.ok σ'→Wr σ σ' (l.flatMap g)
  | [],σ,σ',_,h=>by cases h;exact Wr.same rfl
  | x::r,σ,σ',hf,h=>by
    obtain ⟨σ1,h1,h2⟩:=bind_okS h;rw [List.flatMap_cons];exact (hf x (by simp) _ _ h1).then (each_un (fun y hy=>hf y (by simp [hy])) h2)
theorem decls_un {α:Type} {fn:Nat} {line:Int} {f:α→ByteArray × Int} {l:List α} {σ σ':Sc} (h:eachS (fun p=>declS fn line (f p)) l σ=.ok σ'):Wr σ σ' []:=by
  have h9:=each_un (g:=fun _=>[]) (fun x _ a b h=>decl_un h) h
  rwa [show l.flatMap (fun _=>([]:List NL))=[] from by induction l with|nil=>rfl|cons x r ih=>simp] at h9
abbrev EUn (E:WE):Prop:=∀ fn set (e:Ex) (σ σ':Sc),e.wg→E fn set e σ=.ok σ'→Wr σ σ' (nmE8 e)
abbrev BUn (B:WB):Prop:=∀ f c (σ σ':Sc),St.wgs f.list→Ex.wgs c→B f c σ=.ok σ'→Wr σ σ' (nmSs8 f.list++nmEs8 c)
theorem Wr.into {a b c:Sc} {l:List NL} (h:Wr a b l) (k:c.uses=b.uses):Wr a c l:=by unfold Wr Sc.un at *;rw [k];exact h
theorem Wr.from {a b c:Sc} {l:List NL} (h:Wr b c l) (k:b.uses=a.uses):Wr a c l:=by unfold Wr Sc.un at *;rw [←k];exact h
theorem func_un {B:WB} (hB:BUn B) {up:Int} {f:Fn} {σ σ':Sc} (hw:f.wg) (h:funcS B up f σ=.ok σ'):Wr σ σ' (nmF8 f):=by
  obtain ⟨σ2,h1,h2⟩:=bind_okS h;obtain ⟨σ3,h3,h4⟩:=bind_okS h2;cases h4;have k1:Wr σ σ2 []:=(decls_un (f:=fun p=>(p,0)) h1).from rfl;rw [Fn.wg_eq] at hw;have k2:=hB _ [] _ _ hw trivial h3;have k3:=(k1.then k2).into (c:={ σ3 with scope:=σ3.scope.take σ.scope.length }) rfl;rw [nmF8_eq];simpa [frame,nmEs8] using k3
theorem exprs_un {E:WE} (hE:EUn E) {fn:Nat} {set:Bool} {l:List Ex} {σ σ':Sc} (hw:Ex.wgs l) (h:eachS (E fn set) l σ=.ok σ'):Wr σ σ' (nmEs8 l) :=
  each_un (fun x hx a b h=>hE _ _ _ _ _ (Ex.wgs_mem hw x hx) h) h
theorem expr_un {E:WE} {B:WB} (hE:EUn E) (hB:BUn B):EUn (exprS E B):=by
  intro fn set e σ σ' hw h;obtain ⟨σ1,h1,h2⟩:=bind_okS h;obtain ⟨σ2,h3,h4⟩:=bind_okS h2;rw [Ex.wg_eq] at hw;rw [nmE8_eq];exact (head_un h1).then ((exprs_un hE hw.1 h3).then (each_un (fun x hx a b h=>func_un hB (Fn.wgs_mem hw.2 x hx) h) h4))
theorem loop_un {E:WE} {B:WB} (hB:BUn B) {fn:Nat} {s:St} {rep:Bool} {σ σ':Sc} (hw:St.wgs (s.blocks.headD [])) (hr:Ex.wgs s.right) (h:loopS E B fn s rep σ=.ok σ') :
    Wr σ σ' (nmSs8 (s.blocks.headD [])++if rep=true then nmEs8 s.right else []):=by
  obtain ⟨σ2,h1,h2⟩:=bind_okS h;obtain ⟨σ3,h3,h4⟩:=bind_okS h2;cases h4;have k1:Wr σ σ2 []:=(decls_un (f:=fun p=>p) h1).from rfl;have k2:=hB _ _ _ _ hw (by split;exact hr;trivial) h3;have k3:=(k1.then k2).into (c:={ σ3 with frames:=σ3.frames.take σ.frames.length,scope:=σ3.scope.take σ.scope.length }) rfl;cases rep <;> simpa [frame,nmEs8] using k3
theorem zip8_left (y:List NL) (r:List (List NL)):∀ l:List (List NL),zip8 l (y::r)=l.headD []++y++zip8 l.tail r
  | []=>by simp [zip8]
  | x::s=>by simp [zip8]
theorem zip8_nil:zip8 [] []=[]:=by simp [zip8]
theorem if_un {E:WE} {B:WB} (hE:EUn E) (hB:BUn B) {fn:Nat} {rs:List Ex} (hr:Ex.wgs rs):∀ {bs:List (List St)} {i:Nat} {σ σ':Sc},St.wgss bs→rs.length≤i+bs.length→ifS E B fn rs i bs σ=.ok σ'→Wr σ σ' (zip8 ((rs.drop i).map nmE8) (bs.map nmSs8))
  | [],i,σ,σ',_,hl,h=>by
    cases h;rw [List.drop_of_length_le (by simpa using hl)];simp only [List.map_nil,zip8_nil];exact Wr.same rfl
  | b::r,i,σ,σ',hw,hl,h=>by
    obtain ⟨σ1,h1,h2⟩:=bind_okS h;obtain ⟨σ2,h3,h4⟩:=bind_okS h2;have k2:=hB _ [] _ _ hw.1 trivial h3;have k3:=if_un hE hB hr hw.2 (by simp at hl;omega) h4;rw [List.map_cons,zip8_left]
    have k1:Wr σ σ1 (((rs.drop i).map nmE8).headD []):=by
      cases hx:rs[i]? with
      | none =>
        rw [hx] at h1;cases h1;rw [List.drop_of_length_le (List.getElem?_eq_none_iff.1 hx)];exact Wr.same rfl
      | some c =>
        rw [hx] at h1;have hm:=List.mem_of_getElem? hx;rw [show rs.drop i=c::rs.drop (i+1) from by rw [List.drop_eq_getElem?_toList_append,hx];rfl];exact hE _ _ _ _ _ (Ex.wgs_mem hr c hm) h1
    rw [←List.map_tail,List.tail_drop];have k4:=(k1.then k2).then k3;simpa [frame,nmEs8] using k4
theorem one_block {l:List (List St)} (h:l.length=1):l=[l.headD []]:=by
  match l,h with
  | [b],_=>rfl
theorem jump_un {fn:Nat} {s:St} {σ σ':Sc}:∀ {l:List Fr},jumpG fn s σ l=.ok σ'→Wr σ σ' []
  | [],h=>by cases h
  | f::r,h=>by
    unfold jumpG at h;split at h
    · cases h
    · split at h
      · split at h
        · cases h;exact Wr.same rfl
        · exact jump_un h
      · split at h
        · exact jump_un h
        · split at h
          · cases h
          · cases h;exact Wr.same rfl
theorem stat_un {E:WE} {B:WB} (hE:EUn E) (hB:BUn B) {fn:Nat} {s:St} {σ σ':Sc} (hw:s.wg) (h:statS E B fn s σ=.ok σ'):Wr σ σ' (nmS8 s):=by
  rw [St.wg_eq] at hw;obtain ⟨⟨w1,w2,w3,w4,w5⟩,wl,wr,wb⟩:=hw;rw [nmS8_eq];unfold statS at h
  have nb:s.blocks.flatMap nmSs8=nmSs8 (s.blocks.headD [])∨s.blocks.length≠1:=by
    by_cases h1:s.blocks.length=1
    · left;rw [one_block h1];simp
    · exact .inr h1
  have bw:s.blocks.length=1→St.wgs (s.blocks.headD []):=fun h1=>by have:=one_block h1;rw [this] at wb;exact wb.1
  split at h
  · rename_i hk;obtain ⟨σ1,h1,h2⟩:=bind_okS h;rw [w1 (by omega),w4.resolve_left (by omega),if_neg (by omega),if_pos (by omega)];have k2:Wr σ1 σ' []:=decls_un (f:=fun p=>p) h2;have k:=(exprs_un hE wr h1).then k2;simpa [nmEs8] using k
  split at h
  · rename_i hk;obtain ⟨σ1,h1,h2⟩:=bind_okS h;rw [w1 (by omega),w4.resolve_left (by omega),if_neg (by omega),if_pos (by omega)];have k:=(decl_un h1).then (exprs_un hE wr h2);simpa [nmEs8] using k
  split at h
  · rename_i hk;obtain ⟨σ1,h1,h2⟩:=bind_okS h;rw [w4.resolve_left (by omega),if_neg (by omega),if_pos (by omega)];have k:=(exprs_un hE wl h1).then (exprs_un hE wr h2);simpa [nmEs8] using k
  split at h
  · rename_i hk;have h1:=w2 (by omega);rw [w1 (by omega),w5 (by omega),nb.resolve_right (by omega),if_neg (by omega),if_pos (by omega)];have k:=hB _ [] _ _ (bw h1) trivial h;simpa [nmEs8,frame] using k
  split at h
  · rename_i hk;rw [w1 (by omega),if_neg (by omega),if_neg (by omega)];have k:=if_un hE hB wr wb (by have:=w3 hk;omega) h;simpa [nmEs8] using k
  split at h
  · rename_i hk;obtain ⟨σ1,h1,h2⟩:=bind_okS h;have h3:=w2 (by omega);rw [w1 (by omega),nb.resolve_right (by omega),if_neg (by omega),if_pos (by omega)];have k:=(exprs_un hE wr h1).then (loop_un hB (bw h3) wr h2);simpa [nmEs8] using k
  split at h
  · rename_i hk;have h3:=w2 (by omega);rw [w1 (by omega),nb.resolve_right (by omega),if_pos hk];have k:=loop_un hB (bw h3) wr h;simpa [nmEs8] using k
  split at h
  · rename_i hk;rw [w1 (by omega),w4.resolve_left (by omega),w5 (by omega),if_neg (by omega),if_pos (by omega)];unfold labelS at h;split at h
    · cases h
    · cases h;exact Wr.same rfl
  split at h
  · rename_i hk;rw [w1 (by omega),w4.resolve_left (by omega),w5 (by omega),if_neg (by omega),if_pos (by omega)];exact jump_un h
  · rw [w1 (by omega),w4.resolve_left (by omega),if_neg (by omega),if_pos (by omega)];have k:=exprs_un hE wr h;simpa [nmEs8] using k
theorem steps_un {E:WE} {B:WB} (hE:EUn E) (hB:BUn B) {fn n:Nat}:∀ {l:List St} {i:Nat} {σ σ':Sc},St.wgs l→stepsS E B fn n i l σ=.ok σ'→Wr σ σ' (nmSs8 l)
  | [],_,_,_,_,h=>by cases h;exact Wr.same rfl
  | s::r,i,σ,σ',hw,h=>by
    obtain ⟨σ1,h1,h2⟩:=bind_okS h;have k1:=(stat_un hE hB hw.1 h1).from (a:=σ) rfl;have k:=k1.then (steps_un hE hB hw.2 h2);unfold nmSs8 at *;rw [List.flatMap_cons];exact k
theorem block_un {E:WE} {B:WB} (hE:EUn E) (hB:BUn B):BUn (blockS E B):=by
  intro f c σ σ' hw hc h;obtain ⟨σ1,h1,h2⟩:=bind_okS h;obtain ⟨σ2,h3,h4⟩:=bind_okS h2;cases h4;exact ((((steps_un hE hB hw h1).from (a:=σ) rfl)).then (exprs_un hE hc h3)).into rfl
theorem WL_un:∀ n,EUn (WL n).1∧BUn (WL n).2
  | 0=>⟨fun _ _ _ _ _ _ h=>(by cases h),fun _ _ _ _ _ _ h=>(by cases h)⟩
  | n+1=>⟨expr_un (WL_un n).1 (WL_un n).2,block_un (WL_un n).1 (WL_un n).2⟩
theorem scope_un {b:List St} {σ:Sc} (hw:St.wgs b) (h:scopeV b=.ok σ):σ.un=nmSs8 b:=by
  have k:=func_un (WL_un _).2 (f:=.mk ⟨#[]⟩ [] true b 0) (by rw [Fn.wg_eq];exact hw) h;rw [nmF8_eq] at k;have k':σ.un=sc0.un++nmSs8 b:=k;rw [k'];rfl
def OkV (σ:Sc) (v:Vr):Prop:=∃ x,σ.funs[v.fn]?=some x∧x.locals[v.num]?=some (v.name,v.attr)
def OkU (σ:Sc) (u:Us):Prop:=∃ x,σ.funs[u.fn]?=some x∧((u.kind=1∧∃ t,x.locals[u.ix]?=some (u.name,t)∧(u.set=true→t=0))∨(u.kind=2∧∃ y,x.ups[u.ix]?=some (u.name,y))∨(u.kind=3∧u.ix=0))
def OkF (σ:Sc) (x:Fu):Prop:=x.up.toNat<σ.funs.length∧x.own.length=x.ups.length∧∀ (i:Nat) q,x.own[i]?=some q→∃ nm t z y,σ.funs[q.1]?=some z∧z.locals[q.2]?=some (nm,t)∧x.ups[i]?=some (nm,y)
structure Inv (σ:Sc):Prop where
  sc:∀ v ∈ σ.scope,OkV σ v
  us:∀ u ∈ σ.uses,OkU σ u
  fu:∀ (f:Nat) x,σ.funs[f]?=some x→OkF σ x
theorem pre_at {α:Type} {l m:List α} {i:Nat} {a:α} (h:l <+: m) (hi:l[i]?=some a):m[i]?=some a:=by
  obtain ⟨t,rfl⟩:=h;rw [List.getElem?_append_left (List.getElem?_eq_some_iff.1 hi).1];exact hi
theorem OkV.ext {σ σ':Sc} {v:Vr} (h:OkV σ v) (e:Ext σ σ'):OkV σ' v:=by
  obtain ⟨x,h1,h2⟩:=h;obtain ⟨y,h3,le⟩:=e.funs _ _ h1;exact ⟨y,h3,pre_at le.locals h2⟩
theorem OkU.ext {σ σ':Sc} {u:Us} (h:OkU σ u) (e:Ext σ σ'):OkU σ' u:=by
  obtain ⟨x,h1,h2⟩:=h;obtain ⟨y,h3,le⟩:=e.funs _ _ h1;refine ⟨y,h3,?_⟩;rcases h2 with ⟨k,t,h4,h5⟩|⟨k,z,h4⟩|h4
  · exact .inl ⟨k,t,pre_at le.locals h4,h5⟩
  · exact .inr (.inl ⟨k,z,pre_at le.ups h4⟩)
  · exact .inr (.inr h4)
theorem OkF.ext {σ σ':Sc} {x:Fu} (h:OkF σ x) (e:Ext σ σ'):OkF σ' x:=by
  refine ⟨Nat.lt_of_lt_of_le h.1 e.len,h.2.1,fun i q hq=>?_⟩;obtain ⟨nm,t,z,y,h1,h2,h3⟩:=h.2.2 i q hq;obtain ⟨z',h4,le⟩:=e.funs _ _ h1;exact ⟨nm,t,z',y,h4,pre_at le.locals h2,h3⟩
theorem OkF.as {σ:Sc} {x x':Fu} (h:OkF σ x) (h1:x'.up=x.up) (h2:x'.own=x.own) (h3:x'.ups=x.ups):OkF σ x':=by unfold OkF at *;rw [h1,h2,h3];exact h
theorem Inv.step {σ σ':Sc} (h:Inv σ) (e:Ext σ σ') (hs:∀ v ∈ σ'.scope,v ∈ σ.scope∨OkV σ' v) (hu:∀ u ∈ σ'.uses,u ∈ σ.uses∨OkU σ' u) (hf:∀ (f:Nat) x,σ'.funs[f]?=some x→σ.funs[f]?=some x∨OkF σ' x):Inv σ' :=
  ⟨fun v hv=>(hs v hv).elim (fun h1=>(h.sc v h1).ext e) id,fun u hv=>(hu u hv).elim (fun h1=>(h.us u h1).ext e) id,fun f x hx=>(hf f x hx).elim (fun h1=>(h.fu f x h1).ext e) id⟩
theorem Inv.same {σ σ':Sc} (h:Inv σ) (h1:σ'.funs=σ.funs) (h2:σ'.uses=σ.uses) (h3:∀ v ∈ σ'.scope,v ∈ σ.scope):Inv σ':=by
  have hv:∀ v,OkV σ v→OkV σ' v:=fun v hv=>by unfold OkV at *;rw [h1];exact hv
  have hu:∀ v,OkU σ v→OkU σ' v:=fun v hv=>by unfold OkU at *;rw [h1];exact hv
  have hf:∀ v,OkF σ v→OkF σ' v:=fun v hv=>by unfold OkF at *;rw [h1];exact hv
  exact ⟨fun v h4=>hv _ (h.sc v (h3 v h4)),fun u h4=>hu _ (h.us u (by rw [←h2];exact h4)),fun f x h4=>hf _ (h.fu f x (by rw [←h1];exact h4))⟩
theorem fu_at {σ:Sc} {fn:Nat} (h:fn<σ.funs.length):σ.funs[fn]?=some (σ.fu fn):=by
  unfold Sc.fu;rw [List.getD_eq_getElem?_getD,List.getElem?_eq_getElem h];rfl
theorem set_at {σ:Sc} {fn f:Nat} {x' y:Fu} (h:(σ.setF fn x').funs[f]?=some y):σ.funs[f]?=some y∨y=x':=by
  unfold Sc.setF at h;simp only [List.getElem?_set] at h;split at h
  · split at h
    · cases h;exact .inr rfl
    · cases h
  · exact .inl h
theorem Inv.setF {σ:Sc} {fn:Nat} {x':Fu} (h:Inv σ) (le:FuLe (σ.fu fn) x') (hx:OkF (σ.setF fn x') x'):Inv (σ.setF fn x') :=
  h.step (Ext.setF le) (fun v h=>.inl h) (fun u h=>.inl h) (fun f x hf=>by
    rcases set_at hf with h1|rfl
    · exact .inl h1
    · exact .inr hx)
def Jn (σ σ':Sc):Prop:=Inv σ'∧σ.funs.length≤σ'.funs.length
theorem Jn.trans {a b c:Sc} (h:Jn a b) (k:Jn b c):Jn a c:=⟨k.1,Nat.le_trans h.2 k.2⟩
theorem decl_jn {fn:Nat} {line:Int} {x:ByteArray × Int} {σ σ':Sc} (hn:fn<σ.funs.length) (hi:Inv σ) (h:declS fn line x σ=.ok σ'):Jn σ σ':=by
  have g:=decl_grows h;unfold declS at h;split at h
  · cases h
  · cases h;refine ⟨hi.step g.ext (fun v hv=>?_) (fun u h=>.inl h) (fun f y hf=>?_),g.ext.len⟩
    · rcases List.mem_append.1 hv with h1|h1
      · exact .inl h1
      · right;rw [List.mem_singleton] at h1;subst h1;refine ⟨{ σ.fu fn with locals:=(σ.fu fn).locals++[x] },?_,?_⟩
        · show (σ.setF fn _).funs[fn]?=_;unfold Sc.setF;simp [List.getElem?_set,hn]
        · show ((σ.fu fn).locals++[x])[(σ.fu fn).locals.length]?=some (x.1,x.2);simp
    · rcases set_at hf with h1|rfl
      · exact .inl h1
      · right;exact ((hi.fu fn _ (fu_at hn)).ext g.ext).as rfl rfl rfl
theorem upv_inv {v:Vr} {line:Int}:∀ {n fn:Nat} {σ:Sc} {r:Nat × Sc},fn<σ.funs.length→Inv σ→OkV σ v→upvS n fn v line σ=.ok r→Inv r.2∧∃ x y,r.2.funs[fn]?=some x∧x.ups[r.1]?=some (v.name,y)
  | 0,_,_,_,_,_,_,h=>by cases h
  | n+1,fn,σ,r,hn,hi,hv,h=>by
    have hF:=hi.fu fn _ (fu_at hn);unfold upvS at h;split at h
    · rename_i i hfi;cases h;refine ⟨hi,σ.fu fn,?_⟩;obtain ⟨hl,hb,-⟩:=List.findIdx?_eq_some_iff_getElem.1 hfi;have hq:(σ.fu fn).own[i]?=some (v.fn,v.num):=by rw [List.getElem?_eq_getElem hl];exact congrArg some (beq_iff_eq.1 hb)
      obtain ⟨nm,t,z,y,h1,h2,h3⟩:=hF.2.2 i _ hq;obtain ⟨x,h4,h5⟩:=hv;rw [h4] at h1;cases h1;rw [h5] at h2;cases h2;exact ⟨y,fu_at hn,h3⟩
    · obtain ⟨q,h1,h2⟩:=bind_okS h
      have hs:Stay σ q.2∧Inv q.2:=by
        split at h1
        · rename_i hup;cases h1;have k:=catch_stay σ v.fn v.num;obtain ⟨x,h4,h5⟩:=hv;have hvl:=(List.getElem?_eq_some_iff.1 h4).1;exact ⟨k,hi.setF ⟨rfl,rfl,List.prefix_refl _,List.prefix_refl _,List.prefix_refl _,fun n hn=>by show n ∈ (σ.fu v.fn).cau++[v.num];simp [hn]⟩ (((hi.fu v.fn _ (fu_at hvl)).ext k.ext).as rfl rfl rfl)⟩
        · exact ⟨upv_stay h1,(upv_inv hF.1 hi hv h1).1⟩
      have hn2:=Nat.lt_of_lt_of_le hn hs.1.ext.len;have hF2:=hs.2.fu fn _ (fu_at hn2);split at h2
      · cases h2
      · cases h2;have le:FuLe (q.2.fu fn) { q.2.fu fn with own:=(q.2.fu fn).own++[(v.fn,v.num)],ups:=(q.2.fu fn).ups++[(v.name,decide ((σ.fu fn).up=(v.fn:Int)),q.1)] }:=⟨rfl,rfl,List.prefix_refl _,List.prefix_append _ _,List.prefix_append _ _,fun _ h=>h⟩
        have e:=Ext.setF (σ:=q.2) (fn:=fn) le;refine ⟨hs.2.setF le ?_,_,_,by show (q.2.setF fn _).funs[fn]?=_;unfold Sc.setF;simp [List.getElem?_set,hn2];rfl,by show ((q.2.fu fn).ups++[_])[(q.2.fu fn).ups.length]?=_;simp;rfl⟩;have hF3:=hF2.ext e;refine ⟨hF3.1,by show ((q.2.fu fn).own++[_]).length=((q.2.fu fn).ups++[_]).length;simp [hF2.2.1],fun i p hp=>?_⟩;have hp':((q.2.fu fn).own++[(v.fn,v.num)])[i]?=some p:=hp;rcases Nat.lt_or_ge i (q.2.fu fn).own.length with hlt|hge
        · rw [List.getElem?_append_left hlt] at hp';obtain ⟨nm,t,z,y,k1,k2,k3⟩:=hF3.2.2 i p hp';exact ⟨nm,t,z,y,k1,k2,pre_at le.ups k3⟩
        · have hi2:i=(q.2.fu fn).own.length:=by
            have:=(List.getElem?_eq_some_iff.1 hp').1;simp at this;omega
          subst hi2;simp at hp';subst hp';obtain ⟨x,k4,k5⟩:=(hv.ext hs.1.ext).ext e;exact ⟨v.name,v.attr,x,_,k4,k5,by show ((q.2.fu fn).ups++[_])[(q.2.fu fn).own.length]?=_;rw [hF2.2.1];simp;rfl⟩
theorem find_v {name:ByteArray} {l:List Vr} {v:Vr} (h:findV name l=some v):v ∈ l∧v.name=name:=by
  unfold findV at h;exact ⟨by have:=List.mem_of_find?_eq_some h;simpa using this,by have:=List.find?_some h;simpa using this⟩
theorem name_jn {fn:Nat} {e:Ex} {set:Bool} {σ σ':Sc} (hn:fn<σ.funs.length) (hi:Inv σ) (h:nameS fn e set σ=.ok σ'):Jn σ σ':=by
  have hst:=name_stay h;obtain ⟨r,h1,h2⟩:=bind_okS h
  have hk:Inv r.2.2∧OkU r.2.2 ⟨e.line,e.str,fn,r.1,r.2.1,set⟩:=by
    unfold denS at h1;split at h1
    · cases h1;exact ⟨hi,σ.fu fn,fu_at hn,.inr (.inr ⟨rfl,rfl⟩)⟩
    · rename_i v hv;obtain ⟨hm,hnm⟩:=find_v hv;have hV:=hi.sc v hm;split at h1
      · cases h1
      · rename_i hset;split at h1
        · rename_i hfn;cases h1;obtain ⟨x,k1,k2⟩:=hV;refine ⟨hi,x,by show σ.funs[fn]?=_;rw [←hfn];exact k1,.inl ⟨rfl,v.attr,by show x.locals[v.num]?=some (e.str,v.attr);rw [←hnm];exact k2,fun hs=>?_⟩⟩;have hs':set=true:=hs;by_cases ha:v.attr=0
          · exact ha
          · exact absurd ⟨hs',ha⟩ hset
        · obtain ⟨q,k1,k2⟩:=bind_okS h1;cases k2;obtain ⟨j1,x,y,j2,j3⟩:=upv_inv hn hi hV k1;exact ⟨j1,x,j2,.inr (.inl ⟨rfl,y,by show x.ups[q.1]?=some (e.str,y);rw [←hnm];exact j3⟩)⟩
  have e9:=den_stay h1;cases h2;refine ⟨hk.1.step ⟨fun i x hx=>⟨x,hx,FuLe.refl x⟩,fun i x hx hl=>absurd (show i<r.2.2.funs.length from (List.getElem?_eq_some_iff.1 hx).1) (Nat.not_lt.2 hl),List.prefix_append _ _,List.prefix_refl _⟩ (fun v h=>.inl h) (fun u hu=>?_) (fun f x h=>.inl h),hst.ext.len⟩;rcases List.mem_append.1 hu with h3|h3
  · exact .inl h3
  · rw [List.mem_singleton] at h3;subst h3;exact .inr hk.2
theorem Jn.refl {σ:Sc} (h:Inv σ):Jn σ σ:=⟨h,Nat.le_refl _⟩
theorem head_jn {fn:Nat} {e:Ex} {set:Bool} {σ σ':Sc} (hn:fn<σ.funs.length) (hi:Inv σ) (h:headS fn set e σ=.ok σ'):Jn σ σ':=by
  unfold headS at h;split at h
  · exact name_jn hn hi h
  · split at h
    · cases h
    · cases h;exact Jn.refl hi
theorem each_jn {α:Type} {f:α→Sc→SR Sc} {fn:Nat}:∀ {l:List α} {σ σ':Sc},(∀ x ∈ l,∀ σ σ':Sc,fn<σ.funs.length→Inv σ→f x σ=.ok σ'→Jn σ σ')→fn<σ.funs.length→Inv σ→eachS f l σ=.ok σ'→Jn σ σ'
  | [],σ,σ',_,_,hi,h=>by cases h;exact Jn.refl hi
  | x::r,σ,σ',hf,hn,hi,h=>by
    obtain ⟨σ1,h1,h2⟩:=bind_okS h;have k:=hf x (by simp) _ _ hn hi h1;exact k.trans (each_jn (fun y hy=>hf y (by simp [hy])) (Nat.lt_of_lt_of_le hn k.2) k.1 h2)
abbrev EJn (E:WE):Prop:=∀ fn set e (σ σ':Sc),fn<σ.funs.length→Inv σ→E fn set e σ=.ok σ'→Jn σ σ'
abbrev BJn (B:WB):Prop:=∀ f c (σ σ':Sc),f.fn<σ.funs.length→Inv σ→B f c σ=.ok σ'→Jn σ σ'
theorem func_jn {B:WB} (hB:BJn B) {up:Int} {f:Fn} {σ σ':Sc} (hn:up.toNat≤σ.funs.length) (hi:Inv σ) (h:funcS B up f σ=.ok σ'):Jn σ σ':=by
  obtain ⟨σ2,h1,h2⟩:=bind_okS h;obtain ⟨σ3,h3,h4⟩:=bind_okS h2
  have i0:Inv { σ with funs:=σ.funs++[⟨up,f.vararg,[],[],[],[]⟩] }:=by
    have hl:∀ (i:Nat) (x:Fu),σ.funs[i]?=some x→(σ.funs++[⟨up,f.vararg,[],[],[],[]⟩])[i]?=some x:=fun i x hx=>by
      rw [List.getElem?_append_left (List.getElem?_eq_some_iff.1 hx).1];exact hx
    refine ⟨fun v hv=>?_,fun u hu=>?_,fun i x hx=>?_⟩
    · obtain ⟨x,k1,k2⟩:=hi.sc v hv;exact ⟨x,hl _ _ k1,k2⟩
    · obtain ⟨x,k1,k2⟩:=hi.us u hu;exact ⟨x,hl _ _ k1,k2⟩
    · have hx':(σ.funs++[⟨up,f.vararg,[],[],[],[]⟩])[i]?=some x:=hx;rcases Nat.lt_or_ge i σ.funs.length with hlt|hge
      · rw [List.getElem?_append_left hlt] at hx';obtain ⟨k1,k2,k3⟩:=hi.fu i x hx';refine ⟨by simp;omega,k2,fun j q hq=>?_⟩;obtain ⟨nm,t,z,y,j1,j2,j3⟩:=k3 j q hq;exact ⟨nm,t,z,y,hl _ _ j1,j2,j3⟩
      · rw [List.getElem?_append_right hge] at hx';have h0:i - σ.funs.length=0:=by have:=(List.getElem?_eq_some_iff.1 hx').1;simp at this;omega
        rw [h0] at hx';simp at hx';subst hx';exact ⟨by simp;omega,rfl,fun j q hq=>by simp at hq⟩
  have k1:=each_jn (fn:=σ.funs.length) (fun x _ a b hn hi h=>decl_jn hn hi h) (by simp) i0 h1;have l1:σ.funs.length+1≤σ2.funs.length:=by have:=k1.2;simpa using this
  have k2:=hB _ _ _ _ (by show σ.funs.length<_;omega) k1.1 h3;cases h4;exact ⟨k2.1.same rfl rfl (fun v hv=>List.mem_of_mem_take hv),by show σ.funs.length≤σ3.funs.length;have:=k2.2;omega⟩
theorem exprs_jn {E:WE} (hE:EJn E) {fn:Nat} {set:Bool} {l:List Ex} {σ σ':Sc} (hn:fn<σ.funs.length) (hi:Inv σ) (h:eachS (E fn set) l σ=.ok σ'):Jn σ σ':=each_jn (fn:=fn) (fun x _ a b hn hi h=>hE _ _ _ _ _ hn hi h) hn hi h
theorem decls_jn {fn:Nat} {line:Int} {l:List (ByteArray × Int)} {σ σ':Sc} (hn:fn<σ.funs.length) (hi:Inv σ) (h:eachS (declS fn line) l σ=.ok σ'):Jn σ σ':=each_jn (fn:=fn) (fun x _ a b hn hi h=>decl_jn hn hi h) hn hi h
theorem expr_jn {E:WE} {B:WB} (hE:EJn E) (hB:BJn B):EJn (exprS E B):=by
  intro fn set e σ σ' hn hi h;obtain ⟨σ1,h1,h2⟩:=bind_okS h;obtain ⟨σ2,h3,h4⟩:=bind_okS h2;have k1:=head_jn hn hi h1;have n1:=Nat.lt_of_lt_of_le hn k1.2;have k2:=exprs_jn hE n1 k1.1 h3;have n2:=Nat.lt_of_lt_of_le n1 k2.2;exact k1.trans (k2.trans (each_jn (fn:=fn) (fun x _ a b hn hi h=>func_jn hB (by simp;omega) hi h) n2 k2.1 h4))
theorem loop_jn {E:WE} {B:WB} (hB:BJn B) {fn:Nat} {s:St} {rep:Bool} {σ σ':Sc} (hn:fn<σ.funs.length) (hi:Inv σ) (h:loopS E B fn s rep σ=.ok σ'):Jn σ σ':=by
  obtain ⟨σ2,h1,h2⟩:=bind_okS h;obtain ⟨σ3,h3,h4⟩:=bind_okS h2;have i0:Inv { σ with frames:=σ.frames++[⟨[],0,fn,true,false,σ.scope.length,[]⟩] }:=hi.same rfl rfl (fun v h=>h);have k1:=decls_jn (by exact hn) i0 h1;have k2:=hB _ _ _ _ (Nat.lt_of_lt_of_le (by exact hn) k1.2) k1.1 h3;cases h4;exact ⟨k2.1.same rfl rfl (fun v hv=>List.mem_of_mem_take hv),Nat.le_trans k1.2 k2.2⟩
theorem if_jn {E:WE} {B:WB} (hE:EJn E) (hB:BJn B) {fn:Nat} {rs:List Ex}:∀ {l:List (List St)} {i:Nat} {σ σ':Sc},fn<σ.funs.length→Inv σ→ifS E B fn rs i l σ=.ok σ'→Jn σ σ'
  | [],_,_,_,_,hi,h=>by cases h;exact Jn.refl hi
  | b::r,i,σ,σ',hn,hi,h=>by
    obtain ⟨σ1,h1,h2⟩:=bind_okS h;obtain ⟨σ2,h3,h4⟩:=bind_okS h2
    have k1:Jn σ σ1:=by
      split at h1
      · exact hE _ _ _ _ _ hn hi h1
      · cases h1;exact Jn.refl hi
    have n1:=Nat.lt_of_lt_of_le hn k1.2;have k2:=hB _ _ _ _ (by exact n1) k1.1 h3;exact k1.trans (k2.trans (if_jn hE hB (Nat.lt_of_lt_of_le n1 k2.2) k2.1 h4))
theorem jump_jn {fn:Nat} {s:St} {σ σ':Sc} (hi:Inv σ):∀ {l:List Fr},jumpG fn s σ l=.ok σ'→Jn σ σ'
  | [],h=>by cases h
  | f::r,h=>by
    unfold jumpG at h;split at h
    · cases h
    · split at h
      · split at h
        · cases h;exact ⟨hi.same rfl rfl (fun v h=>h),Nat.le_refl _⟩
        · exact jump_jn hi h
      · split at h
        · exact jump_jn hi h
        · split at h
          · cases h
          · cases h;exact ⟨hi.same rfl rfl (fun v h=>h),Nat.le_refl _⟩
theorem stat_jn {E:WE} {B:WB} (hE:EJn E) (hB:BJn B) {fn:Nat} {s:St} {σ σ':Sc} (hn:fn<σ.funs.length) (hi:Inv σ) (h:statS E B fn s σ=.ok σ'):Jn σ σ':=by
  unfold statS at h;have hx:∀ {set:Bool} {l:List Ex} {a b:Sc},Jn σ a→eachS (E fn set) l a=.ok b→Jn σ b:=fun k h=>k.trans (exprs_jn hE (Nat.lt_of_lt_of_le hn k.2) k.1 h);have r0:=Jn.refl hi;split at h
  · obtain ⟨σ1,h1,h2⟩:=bind_okS h;have k:=hx r0 h1;exact k.trans (decls_jn (Nat.lt_of_lt_of_le hn k.2) k.1 h2)
  split at h
  · obtain ⟨σ1,h1,h2⟩:=bind_okS h;exact hx (decl_jn hn hi h1) h2
  split at h
  · obtain ⟨σ1,h1,h2⟩:=bind_okS h;exact hx (hx r0 h1) h2
  split at h
  · exact hB _ _ _ _ (by exact hn) hi h
  split at h
  · exact if_jn hE hB hn hi h
  split at h
  · obtain ⟨σ1,h1,h2⟩:=bind_okS h;have k:=hx r0 h1;exact k.trans (loop_jn hB (Nat.lt_of_lt_of_le hn k.2) k.1 h2)
  split at h
  · exact loop_jn hB hn hi h
  split at h
  · unfold labelS at h;split at h
    · cases h
    · cases h;exact r0
  split at h
  · exact jump_jn hi h
  · exact hx r0 h
theorem steps_jn {E:WE} {B:WB} (hE:EJn E) (hB:BJn B) {fn n:Nat}:∀ {l:List St} {i:Nat} {σ σ':Sc},fn<σ.funs.length→Inv σ→stepsS E B fn n i l σ=.ok σ'→Jn σ σ'
  | [],_,_,_,_,hi,h=>by cases h;exact Jn.refl hi
  | s::r,i,σ,σ',hn,hi,h=>by
    obtain ⟨σ1,h1,h2⟩:=bind_okS h;have k:=stat_jn hE hB (show fn<(stepS n i σ).funs.length from hn) (hi.same rfl rfl (fun v h=>h)) h1;exact Jn.trans (b:=σ1) ⟨k.1,k.2⟩ (steps_jn hE hB (Nat.lt_of_lt_of_le hn k.2) k.1 h2)
theorem block_jn {E:WE} {B:WB} (hE:EJn E) (hB:BJn B):BJn (blockS E B):=by
  intro f c σ σ' hn hi h;obtain ⟨σ1,h1,h2⟩:=bind_okS h;obtain ⟨σ2,h3,h4⟩:=bind_okS h2;have i0:Inv { σ with frames:=σ.frames++[{ f with base:=σ.scope.length,bef:=[] }] }:=hi.same rfl rfl (fun v h=>h);have k1:=steps_jn hE hB (by exact hn) i0 h1;have k2:=exprs_jn hE (Nat.lt_of_lt_of_le (by exact hn) k1.2) k1.1 h3;cases h4;exact ⟨k2.1.same rfl rfl (fun v hv=>List.mem_of_mem_take hv),Nat.le_trans k1.2 k2.2⟩
theorem wl_jn:∀ n,EJn (WL n).1∧BJn (WL n).2
  | 0=>⟨fun _ _ _ _ _ _ _ h=>(by cases h),fun _ _ _ _ _ _ h=>(by cases h)⟩
  | n+1=>⟨expr_jn (wl_jn n).1 (wl_jn n).2,block_jn (wl_jn n).1 (wl_jn n).2⟩
theorem scope_inv {b:List St} {σ:Sc} (h:scopeV b=.ok σ):Inv σ :=
  (func_jn (wl_jn _).2 (up:=-1) (by simp) ⟨fun v hv=>(by cases hv),fun u hu=>(by cases hu),fun f x hx=>(by simp [sc0] at hx)⟩ h).1
theorem st_shape {s:St} {b:Bool} (h:errY s b=0):(s.kind≠3→s.left=[])∧((s.kind=5∨s.kind=6∨s.kind=7∨s.kind=9∨s.kind=10)→s.blocks.length=1)∧(s.kind=8→s.right.length≤s.blocks.length)∧((s.kind=5∨s.kind=6∨s.kind=7∨s.kind=8∨s.kind=9∨s.kind=10)∨s.blocks=[])∧((s.kind=5∨s.kind=12∨s.kind=13∨s.kind=14)→s.right=[]):=by
  have h9:=errY_form h;have hk:=st_kinds h;have h8:s.kind=8→s.right.length≤s.blocks.length:=fun h8=>(st_if h h8).1;have h7:=st_blocks1 h;unfold formSB at h9;have h6:s.kind=1∨s.kind=2∨s.kind=3∨s.kind=4∨s.kind=5∨s.kind=6∨s.kind=7∨s.kind=8∨s.kind=9∨s.kind=10∨s.kind=11∨s.kind=12∨s.kind=13∨s.kind=14:=by omega
  refine ⟨fun h3=>?_,h7,h8,?_,fun h5=>?_⟩
  · rcases h6 with hk|hk|hk|hk|hk|hk|hk|hk|hk|hk|hk|hk|hk|hk <;> first|exact absurd hk h3|(simp [hk,cntB,fitN] at h9;first|(simp [h9];done)|(rcases h9.1 with h9|h9 <;> simp [h9]))
  · rcases h6 with hk|hk|hk|hk|hk|hk|hk|hk|hk|hk|hk|hk|hk|hk <;> first|(exact .inl (by omega))|(right;simp [hk,cntB,fitN] at h9;simp [h9];done)
  · rcases h5 with hk|hk|hk|hk <;> (simp [hk,cntB,fitN] at h9;simp [h9])
mutual
theorem Ex.wg_of:∀ (x:Ex) {t:Ttl} {p:Int},errT t p x=0→x.wg
  | .mk k o l p q s a f,t,p',h=>⟨Ex.wgs_of a fun y hy=>⟨_,_,(errT_iff.1 h).2.1 y hy⟩,Fn.wgs_of f fun y hy=>(errT_iff.1 h).2.2 y hy⟩
theorem Ex.wgs_of:∀ (l:List Ex),(∀ y ∈ l,∃ (t:Ttl) (p:Int),errT t p y=0)→Ex.wgs l
  | [],_=>trivial
  | x::r,h=>⟨by obtain ⟨t,p,h1⟩:=h x (by simp);exact Ex.wg_of x h1,Ex.wgs_of r fun y hy=>h y (by simp [hy])⟩
theorem Fn.wg_of:∀ (f:Fn),firstE (errSs f.body)=0→f.wg
  | .mk _ _ _ b _,h=>St.wgs_of b h
theorem Fn.wgs_of:∀ (l:List Fn),(∀ f ∈ l,firstE (errSs f.body)=0)→Fn.wgs l
  | [],_=>trivial
  | x::r,h=>⟨Fn.wg_of x (h x (by simp)),Fn.wgs_of r fun y hy=>h y (by simp [hy])⟩
theorem St.wg_of:∀ (s:St) {b:Bool},errS b s=0→s.wg
  | .mk k l ns le ri bs lab,b,h=>by
    obtain ⟨h1,h2,h3,h4⟩:=errS_iff.1 h;exact ⟨st_shape h1,Ex.wgs_of le fun y hy=>⟨_,_,h2 y hy⟩,Ex.wgs_of ri fun y hy=>⟨_,_,h3 y hy⟩,St.wgss_of bs h4⟩
theorem St.wgs_of:∀ (l:List St),firstE (errSs l)=0→St.wgs l
  | [],_=>trivial
  | s::r,h=>by
    have h1:alt (errS r.isEmpty s) (firstE (errSs r))=0:=h;rw [alt_zero] at h1;exact ⟨St.wg_of s h1.1,St.wgs_of r h1.2⟩
theorem St.wgss_of:∀ (l:List (List St)),(∀ b ∈ l,firstE (errSs b)=0)→St.wgss l
  | [],_=>trivial
  | x::r,h=>⟨St.wgs_of x (h x (by simp)),St.wgss_of r fun y hy=>h y (by simp [hy])⟩
end
end Go.Proofs.YtaddbmkkkollpaaGreatDoor
