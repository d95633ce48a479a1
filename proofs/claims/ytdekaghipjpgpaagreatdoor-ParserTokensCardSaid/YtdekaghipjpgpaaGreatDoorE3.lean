/- What is read does not depend on where tokens stand: tokens turned by f give trees whose lines are turned by g. -/
import Derived.Test.YtdekaghipjpgpaaGreatDoorE1
import Derived.Test.YtdekaghipjpgpaaGreatDoorW3
namespace Go.Proofs.YtdekaghipjpgpaaGreatDoor
open Go.RowKit
set_option linter.unusedVariables false
set_option linter.unusedSimpArgs false
mutual
def Ex.ml (g:Int→Int):Ex→Ex
  | .mk k o l p q s a f=>.mk k o (g l) p q s (Ex.mls g a) (Fn.mls g f)
def Ex.mls (g:Int→Int):List Ex→List Ex
  | []=>[]
  | x::r=>x.ml g::Ex.mls g r
def Fn.ml (g:Int→Int):Fn→Fn
  | .mk n p v b l=>.mk n p v (St.mls g b) (g l)
def Fn.mls (g:Int→Int):List Fn→List Fn
  | []=>[]
  | x::r=>x.ml g::Fn.mls g r
def St.ml (g:Int→Int):St→St
  | .mk k l n a b c t=>.mk k (g l) n (Ex.mls g a) (Ex.mls g b) (St.mlss g c) t
def St.mls (g:Int→Int):List St→List St
  | []=>[]
  | x::r=>x.ml g::St.mls g r
def St.mlss (g:Int→Int):List (List St)→List (List St)
  | []=>[]
  | x::r=>St.mls g x::St.mlss g r
end
theorem Ex.mls_map (g:Int→Int) (l:List Ex):Ex.mls g l=l.map (Ex.ml g):=by induction l with|nil=>rfl|cons x r ih=>simp [Ex.mls,ih]
theorem Fn.mls_map (g:Int→Int) (l:List Fn):Fn.mls g l=l.map (Fn.ml g):=by induction l with|nil=>rfl|cons x r ih=>simp [Fn.mls,ih]
theorem St.mls_map (g:Int→Int) (l:List St):St.mls g l=l.map (St.ml g):=by induction l with|nil=>rfl|cons x r ih=>simp [St.mls,ih]
theorem St.mlss_map (g:Int→Int) (l:List (List St)):St.mlss g l=l.map (List.map (St.ml g)):=by induction l with|nil=>rfl|cons x r ih=>simp [St.mlss,ih,St.mls_map]
theorem Ex.mls_app (g:Int→Int) (a b:List Ex):Ex.mls g (a++b)=Ex.mls g a++Ex.mls g b:=by simp [Ex.mls_map]
theorem St.mls_app (g:Int→Int) (a b:List St):St.mls g (a++b)=St.mls g a++St.mls g b:=by simp [St.mls_map]
theorem St.mlss_app (g:Int→Int) (a b:List (List St)):St.mlss g (a++b)=St.mlss g a++St.mlss g b:=by simp [St.mlss_map]
theorem Ex.kind_ml (g:Int→Int) (x:Ex):(x.ml g).kind=x.kind:=by cases x;rfl
def Res.lift {α β:Type} (a:α→β) (f:Tk→Tk):Res α→Res β
  | .ok v l=>.ok (a v) (l.map f)
  | .bad l=>.bad (l.map f)
section
variable {α β γ δ:Type} {f:Tk→Tk} {a:α→β} {b:γ→δ}
theorem Nt.bind {m:Res α} {m':Res β} {k:α→List Tk→Res γ} {k':β→List Tk→Res δ} (h:m'=m.lift a f) (hk:∀ x l,k' (a x) (l.map f)=(k x l).lift b f):m'.bind k'=(m.bind k).lift b f:=by
  subst h;cases m with
  | ok x l=>exact hk x l
  | bad l=>rfl
theorem Nt.ite {c c':Prop} [Decidable c] [Decidable c'] {m n:Res α} {m' n':Res β} (hc:c'↔c) (h1:m'=m.lift a f) (h2:n'=n.lift a f):(if c' then m' else n')=(if c then m else n).lift a f:=by
  by_cases h:c
  · rw [if_pos (hc.2 h),if_pos h,h1]
  · rw [if_neg (fun h9=>h (hc.1 h9)),if_neg h,h2]
theorem Nt.yes {v:α} {v':β} {l l':List Tk} (h:v'=a v) (hl:l'=l.map f):Res.ok v' l'=(Res.ok v l).lift a f:=by subst h hl;rfl
theorem Nt.no {l l':List Tk} (hl:l'=l.map f):(Res.bad l':Res β)=(Res.bad l:Res α).lift a f:=by subst hl;rfl
end
structure Nt (f:Tk→Tk) (g:Int→Int):Prop where
  kind:∀ t,(f t).kind=t.kind
  text:∀ t,(f t).text=t.text
  line:∀ t,(f t).line=g t.line
  zero:g 0=0
section
variable {f:Tk→Tk} {g:Int→Int} (N:Nt f g)
include N
theorem Nt.nk (l:List Tk):(nextK (l.map f)).kind=(nextK l).kind:=by cases l with|nil=>rfl|cons t r=>exact N.kind t
theorem Nt.nt (l:List Tk):(nextK (l.map f)).text=(nextK l).text:=by cases l with|nil=>rfl|cons t r=>exact N.text t
theorem Nt.nl (l:List Tk):(nextK (l.map f)).line=g (nextK l).line:=by cases l with|nil=>exact N.zero.symm|cons t r=>exact N.line t
theorem Nt.is (s:Sb) (l:List Tk):isB s (l.map f)=isB s l:=by cases l with|nil=>rfl|cons t r=>simp [isB,N.kind,N.text]
theorem Nt.isi (s:Sb) (l:List Tk):isB s (l.map f)=true↔isB s l=true:=by rw [N.is]
theorem Nt.ends (l:List Tk):endsB (l.map f)=endsB l:=by simp [endsB,N.is]
theorem Nt.un (l:List Tk):unB (nextK (l.map f))=unB (nextK l):=by simp [unB,N.nk,N.nt]
theorem Nt.bin (l:List Tk):binB (nextK (l.map f))=binB (nextK l):=by simp [binB,N.nk,N.nt]
theorem Nt.calls (l:List Tk):callsB (l.map f)=callsB l:=by simp [callsB,N.is,N.nk]
theorem Nt.eq_ (l:List Tk):nextEq (l.map f)=nextEq l:=by
  match l with
  | []=>rfl
  | [t]=>rfl
  | t::u::r=>simp [nextEq,N.kind,N.text]
omit N in
theorem Nt.tl (l:List Tk):(l.map f).tail=l.tail.map f:=List.map_tail.symm
omit N in
theorem Nt.dr (l:List Tk) (n:Nat):(l.map f).drop n=(l.drop n).map f:=List.map_drop.symm
omit N in
theorem Nt.take (l:List Tk):takeR (l.map f)=(takeR l).lift f f:=by cases l <;> rfl
theorem Nt.need (s:Sb) (l:List Tk):needR s (l.map f)=(needR s l).lift f f:=Nt.ite (N.isi s l) (Nt.take l) (Nt.no rfl)
theorem Nt.name (l:List Tk):nameR (l.map f)=(nameR l).lift f f:=Nt.ite (by rw [N.nk]) (Nt.take l) (Nt.no rfl)
def NE (f:Tk→Tk) (g:Int→Int) (E:EF):Prop:=∀ lim l,E lim (l.map f)=(E lim l).lift (Ex.ml g) f
def NB (f:Tk→Tk) (g:Int→Int) (B:BF):Prop:=∀ l,B (l.map f)=(B l).lift (St.mls g) f
variable {E:EF} {B:BF} (hE:NE f g E) (hB:NB f g B)
include hE in
theorem Nt.listG:∀ n acc l,listG E n (Ex.mls g acc) (l.map f)=(listG E n acc l).lift (Ex.mls g) f
  | 0,_,_=>rfl
  | n+1,acc,l=>Nt.ite (N.isi _ l) (Nt.bind (by rw [Nt.tl];exact hE 0 l.tail) fun x l1=>by have:=Nt.listG n (acc++[x]) l1;rw [Ex.mls_app] at this;exact this) (Nt.yes rfl rfl)
include hE in
theorem Nt.listR (l:List Tk):listR E (l.map f)=(listR E l).lift (Ex.mls g) f:=Nt.bind (hE 0 l) fun x l1=>by rw [List.length_map];exact N.listG hE _ [x] l1
include hE in
theorem Nt.item (l:List Tk):itemR E (l.map f)=(itemR E l).lift (Ex.ml g) f :=
  Nt.ite (N.isi _ l) (Nt.bind (by rw [Nt.tl];exact hE 0 l.tail) fun k l1=>Nt.bind (N.need _ l1) fun _ l2=>Nt.bind (N.need _ l2) fun _ l3=>Nt.bind (hE 0 l3) fun v l4=>Nt.yes (by rw [N.nl];rfl) rfl)
    (Nt.ite (by rw [N.eq_]) (Nt.bind (by rw [Nt.dr];exact hE 0 _) fun v l1=>Nt.yes (by rw [N.nl,N.nt];rfl) rfl) (Nt.bind (hE 0 l) fun x l1=>Nt.yes (by rw [N.nl];rfl) rfl))
include hE in
theorem Nt.tabG:∀ n acc l,tabG E n (Ex.mls g acc) (l.map f)=(tabG E n acc l).lift (Ex.mls g) f
  | 0,_,_=>rfl
  | n+1,acc,l=>Nt.ite (N.isi _ l) (Nt.yes rfl rfl) (Nt.bind (N.item hE l) fun x l1=>by
      have h:=fun l=>Nt.tabG n (acc++[x]) l;rw [Ex.mls_app] at h;exact Nt.ite (N.isi _ l1) (by rw [Nt.tl];exact h _) (Nt.ite (N.isi _ l1) (by rw [Nt.tl];exact h _) (Nt.yes (by rw [Ex.mls_app];rfl) rfl)))
include hE in
theorem Nt.table (l:List Tk):tableR E (l.map f)=(tableR E l).lift (Ex.ml g) f :=
  Nt.bind (Nt.take l) fun t l1=>Nt.bind (by rw [List.length_map];exact N.tabG hE _ [] l1) fun xs l2=>Nt.bind (N.need _ l2) fun _ l3=>Nt.yes (by rw [N.line];rfl) rfl
include hE in
theorem Nt.bare (l:List Tk):bareR E (l.map f)=(bareR E l).lift (Ex.ml g) f :=
  Nt.ite (by rw [N.nk]) (Nt.yes (by rw [N.nl,N.nt];rfl) (Nt.tl l)) (N.table hE l)
include hE in
theorem Nt.args (e:Ex) (l:List Tk):argsR E (e.ml g) (l.map f)=(argsR E e l).lift (Ex.mls g) f :=
  Nt.ite (N.isi _ l) (by rw [Nt.tl];exact Nt.ite (N.isi _ _) (Nt.bind (N.need _ _) fun _ l3=>Nt.yes rfl rfl) (Nt.bind (N.listR hE _) fun xs l1=>Nt.bind (N.need _ l1) fun _ l3=>Nt.yes (by rw [Ex.mls_app];rfl) rfl))
    (Nt.bind (N.bare hE l) fun x l1=>Nt.yes rfl rfl)
abbrev mlB (g:Int→Int) (x:Ex × Bool):Ex × Bool:=(x.1.ml g,x.2)
include hE in
theorem Nt.head (l:List Tk):headR E (l.map f)=(headR E l).lift (mlB g) f :=
  Nt.ite (N.isi _ l) (Nt.bind (by rw [Nt.tl];exact hE 0 _) fun e l1=>Nt.bind (N.need _ l1) fun _ l2=>Nt.yes (by rw [Ex.kind_ml,N.nl];split <;> rfl) rfl)
    (Nt.bind (N.name l) fun n l1=>Nt.yes (by rw [N.line,N.text];rfl) rfl)
include hE in
theorem Nt.sufG:∀ n e b l,sufG E n (e.ml g) b (l.map f)=(sufG E n e b l).lift (mlB g) f
  | 0,_,_,_=>rfl
  | n+1,e,b,l =>
    Nt.ite (N.isi _ l) (Nt.bind (by rw [Nt.tl];exact N.name _) fun k l1=>by rw [N.nl,N.line,N.text];exact Nt.sufG n (ndA 8 (nextK l).line [e,ndS 5 k.line k.text]) false l1)
      (Nt.ite (N.isi _ l) (Nt.bind (by rw [Nt.tl];exact hE 0 _) fun k l1=>Nt.bind (N.need _ l1) fun _ l2=>by rw [N.nl];exact Nt.sufG n (ndA 8 (nextK l).line [e,k]) false l2)
        (Nt.ite (N.isi _ l) (Nt.bind (by rw [Nt.tl];exact N.name _) fun k l1=>Nt.ite (by rw [N.calls]) (Nt.bind (N.args hE e l1) fun a l2=>by rw [N.nl,N.text];exact Nt.sufG n (.mk 10 0 (nextK l1).line 0 0 k.text a []) false l2) (Nt.no rfl))
          (Nt.ite (by rw [N.calls]) (Nt.bind (N.args hE e l) fun a l1=>by rw [N.nl];exact Nt.sufG n (ndA 9 (nextK l).line a) false l1) (Nt.yes rfl rfl))))
include hE in
theorem Nt.pref (l:List Tk):prefR E (l.map f)=(prefR E l).lift (mlB g) f:=Nt.bind (N.head hE l) fun x l1=>by rw [List.length_map];exact N.sufG hE _ _ _ _
theorem Nt.parG:∀ n ps l,parG n ps (l.map f)=(parG n ps l).lift id f
  | 0,_,_=>rfl
  | n+1,ps,l=>Nt.ite (N.isi _ l) (Nt.yes rfl (Nt.tl l)) (Nt.bind (N.name l) fun t l1=>Nt.ite (N.isi _ l1) (by rw [Nt.tl,N.text];exact Nt.parG n _ _) (Nt.yes (by rw [N.text];rfl) rfl))
include hB in
theorem Nt.body (e:Sb) (l:List Tk):bodyR B e (l.map f)=(bodyR B e l).lift (St.mls g) f:=Nt.bind (hB l) fun b l1=>Nt.bind (N.need _ l1) fun _ l2=>Nt.yes rfl rfl
include hB in
theorem Nt.clo (line:Int) (name:ByteArray) (self:Bool) (l:List Tk):cloR B (g line) name self (l.map f)=(cloR B line name self l).lift (Ex.ml g) f :=
  Nt.bind (N.need _ l) fun _ l1=>Nt.bind (a:=id) (Nt.ite (N.isi _ l1) (Nt.yes rfl rfl) (by rw [List.length_map];exact N.parG _ _ _)) fun ps l2=>Nt.bind (N.need _ l2) fun _ l3=>Nt.bind (N.body hB _ l3) fun b l4=>Nt.yes rfl rfl
include hE hB in
theorem Nt.pri (l:List Tk):priR E B (l.map f)=(priR E B l).lift (Ex.ml g) f :=
  Nt.ite (by rw [N.nk]) (Nt.yes (by rw [N.nl,N.nt];rfl) (Nt.tl l)) (Nt.ite (by rw [N.nk]) (Nt.yes (by rw [N.nl,N.nt];rfl) (Nt.tl l))
    (Nt.ite (N.isi _ l) (Nt.yes (by rw [N.nl];rfl) (Nt.tl l)) (Nt.ite (N.isi _ l) (Nt.yes (by rw [N.nl];rfl) (Nt.tl l)) (Nt.ite (N.isi _ l) (Nt.yes (by rw [N.nl];rfl) (Nt.tl l)) (Nt.ite (N.isi _ l) (Nt.yes (by rw [N.nl];rfl) (Nt.tl l))
      (Nt.ite (N.isi _ l) (by rw [N.nl,Nt.tl];exact N.clo hB _ _ _ _) (Nt.ite (N.isi _ l) (N.table hE l) (Nt.bind (N.pref hE l) fun x l1=>Nt.yes rfl rfl))))))))
include hE in
theorem Nt.binG (lim:Int):∀ n e l,binG E lim n (e.ml g) (l.map f)=(binG E lim n e l).lift (Ex.ml g) f
  | 0,_,_=>rfl
  | n+1,e,l=>Nt.ite (by rw [N.bin]) (Nt.yes rfl rfl) (Nt.bind (by rw [N.bin,Nt.tl];exact hE _ _) fun x l1=>by rw [N.bin,N.nl];exact Nt.binG lim n (.mk (binB (nextK l)).1 (binB (nextK l)).2.1 (nextK l).line 0 0 ⟨#[]⟩ [e,x] []) l1)
include hE hB in
theorem Nt.unR (l:List Tk):unR E B (l.map f)=(unR E B l).lift (Ex.ml g) f :=
  Nt.ite (by rw [N.un]) (Nt.bind (by rw [Nt.tl];exact hE _ _) fun x l1=>Nt.yes (by rw [N.un,N.nl];rfl) rfl) (N.pri hE hB l)
include hE hB in
theorem Nt.exp (lim:Int) (l:List Tk):expR E B lim (l.map f)=(expR E B lim l).lift (Ex.ml g) f:=Nt.bind (N.unR hE hB l) fun e l1=>by rw [List.length_map];exact N.binG hE lim _ e l1
theorem Nt.attr (l:List Tk):attrR (l.map f)=(attrR l).lift id f :=
  Nt.ite (N.isi _ l) (Nt.bind (a:=id) (by rw [Nt.tl];exact Nt.ite (by rw [N.nk,N.nt]) (Nt.yes rfl (Nt.tl _)) (Nt.ite (by rw [N.nk,N.nt]) (Nt.yes rfl (Nt.tl _)) (Nt.no rfl))) fun a l1=>Nt.bind (N.need _ l1) fun _ l2=>Nt.yes rfl rfl) (Nt.yes rfl rfl)
theorem Nt.namesG:∀ n ns l,namesG n ns (l.map f)=(namesG n ns l).lift id f
  | 0,_,_=>rfl
  | n+1,ns,l=>Nt.bind (N.name l) fun t l1=>Nt.bind (N.attr l1) fun a l2=>Nt.ite (N.isi _ l2) (by rw [Nt.tl,N.text];exact Nt.namesG n _ _) (Nt.yes (by rw [N.text];rfl) rfl)
include hE hB in
theorem Nt.local_ (l:List Tk):localR E B (l.map f)=(localR E B l).lift (St.ml g) f :=
  Nt.bind (Nt.take l) fun t l1=>Nt.ite (N.isi _ l1) (Nt.bind (by rw [Nt.tl];exact N.name _) fun n l2=>Nt.bind (by rw [N.nl,N.text];exact N.clo hB _ _ _ _) fun x l3=>Nt.yes (by rw [N.line,N.text];rfl) rfl)
    (Nt.bind (by rw [List.length_map];exact N.namesG _ _ _) fun ns l2=>Nt.ite (N.isi _ l2) (Nt.bind (by rw [Nt.tl];exact N.listR hE _) fun xs l3=>Nt.yes (by rw [N.line];rfl) rfl) (Nt.yes (by rw [N.line];rfl) rfl))
abbrev mlP (g:Int→Int) (x:Ex × Sb × Bool):Ex × Sb × Bool:=(x.1.ml g,x.2)
theorem Nt.pathG:∀ n e s l,pathG n (e.ml g) s (l.map f)=(pathG n e s l).lift (mlP g) f
  | 0,_,_,_=>rfl
  | n+1,e,s,l=>Nt.ite (by rw [N.is,N.is]) (Nt.bind (by rw [Nt.tl];exact N.name _) fun k l1=>Nt.ite (by rw [N.nt]) (Nt.yes (by rw [N.nl,N.nt,N.line,N.text];rfl) rfl)
      (by rw [N.nl,N.nt,N.line,N.text];exact Nt.pathG n (ndA 8 (nextK l).line [e,ndS 5 k.line k.text]) _ l1)) (Nt.yes rfl rfl)
include hB in
theorem Nt.func (l:List Tk):funcR B (l.map f)=(funcR B l).lift (St.ml g) f :=
  Nt.bind (Nt.take l) fun t l1=>Nt.bind (N.name l1) fun n l2=>Nt.bind (a:=mlP g) (by rw [List.length_map,N.line,N.text];exact N.pathG _ (ndS 7 n.line n.text) _ l2) fun x l3=>Nt.bind (by rw [N.line];exact N.clo hB _ _ _ _) fun c l4=>Nt.yes (by rw [N.line];rfl) rfl
abbrev mlI (g:Int→Int) (x:List Ex × List (List St)):List Ex × List (List St):=(Ex.mls g x.1,St.mlss g x.2)
include hE hB in
theorem Nt.ifG:∀ n cs bs l,ifG E B n (Ex.mls g cs) (St.mlss g bs) (l.map f)=(ifG E B n cs bs l).lift (mlI g) f
  | 0,_,_,_=>rfl
  | n+1,cs,bs,l=>Nt.bind (hE 0 l) fun c l1=>Nt.bind (N.need _ l1) fun _ l2=>Nt.bind (hB l2) fun b l3=>by
      have h:=fun l=>Nt.ifG n (cs++[c]) (bs++[b]) l;rw [Ex.mls_app,St.mlss_app] at h;exact Nt.ite (N.isi _ l3) (by rw [Nt.tl];exact h _) (Nt.yes (by simp only [mlI,Ex.mls_app,St.mlss_app];rfl) rfl)
include hE hB in
theorem Nt.if_ (l:List Tk):ifR E B (l.map f)=(ifR E B l).lift (St.ml g) f :=
  Nt.bind (Nt.take l) fun t l1=>Nt.bind (by rw [List.length_map];exact N.ifG hE hB _ [] [] l1) fun x l2=>Nt.bind (a:=St.mlss g) (Nt.ite (N.isi _ l2) (Nt.bind (by rw [Nt.tl];exact hB _) fun b l3=>Nt.yes (by rw [St.mlss_app];rfl) rfl) (Nt.yes rfl rfl)) fun bs l4 =>
    Nt.bind (N.need _ l4) fun _ l5=>Nt.yes (by rw [N.line];rfl) rfl
theorem Nt.forG:∀ n ns l,forG n ns (l.map f)=(forG n ns l).lift id f
  | 0,_,_=>rfl
  | n+1,ns,l=>Nt.ite (N.isi _ l) (Nt.bind (by rw [Nt.tl];exact N.name _) fun t l1=>by rw [N.text];exact Nt.forG n _ l1) (Nt.yes rfl rfl)
include hE hB in
theorem Nt.loop (l:List Tk):loopR E B (l.map f)=(loopR E B l).lift (St.ml g) f :=
  Nt.bind (Nt.take l) fun t l1=>Nt.bind (N.name l1) fun n l2 =>
    Nt.ite (N.isi _ l2) (Nt.bind (by rw [Nt.tl];exact hE 0 _) fun a l3=>Nt.bind (N.need _ l3) fun _ l4=>Nt.bind (hE 0 l4) fun b l5 =>
        Nt.bind (a:=Ex.mls g) (Nt.ite (N.isi _ l5) (Nt.bind (by rw [Nt.tl];exact hE 0 _) fun c l6=>Nt.yes rfl rfl) (Nt.yes rfl rfl)) fun xs l7=>Nt.bind (N.need _ l7) fun _ l8=>Nt.bind (N.body hB _ l8) fun k l9=>Nt.yes (by rw [N.line,N.text];rfl) rfl)
      (Nt.bind (by rw [List.length_map,N.text];exact N.forG _ _ _) fun ns l3=>Nt.bind (N.need _ l3) fun _ l4=>Nt.bind (N.listR hE l4) fun xs l5=>Nt.bind (N.need _ l5) fun _ l6=>Nt.bind (N.body hB _ l6) fun k l7=>Nt.yes (by rw [N.line];rfl) rfl)
include hE in
theorem Nt.leftG:∀ n acc e b l,leftG E n (Ex.mls g acc) (e.ml g) b (l.map f)=(leftG E n acc e b l).lift (Ex.mls g) f
  | 0,_,_,_,_=>rfl
  | n+1,acc,e,b,l=>Nt.ite (by rw [Ex.kind_ml]) (Nt.no rfl) (by
      have h:=fun e b l=>Nt.leftG n (acc++[e]) e b l;refine Nt.ite (N.isi _ l) (Nt.bind (a:=mlB g) (by rw [Nt.tl];exact N.pref hE _) fun x l1=>?_) (Nt.yes (by rw [Ex.mls_app];rfl) rfl);have h:=Nt.leftG n (acc++[e]) x.1 x.2 l1;rw [Ex.mls_app] at h;exact h)
include hE in
theorem Nt.simple (l:List Tk):simpleR E (l.map f)=(simpleR E l).lift (St.ml g) f :=
  Nt.bind (a:=mlB g) (N.pref hE l) fun x l1=>Nt.ite (by rw [Ex.kind_ml]) (Nt.yes (by rw [N.nl];rfl) rfl)
    (Nt.bind (by rw [List.length_map];exact N.leftG hE _ [] x.1 x.2 l1) fun ls l2=>Nt.bind (N.need _ l2) fun _ l3=>Nt.bind (N.listR hE l3) fun rs l4=>Nt.yes (by rw [N.nl];rfl) rfl)
include hE hB in
theorem Nt.key (l:List Tk):keyR E B (l.map f)=(keyR E B l).lift (St.ml g) f :=
  Nt.ite (by rw [N.nt]) (N.local_ hE hB l) (Nt.ite (by rw [N.nt]) (N.func hB l) (Nt.ite (by rw [N.nt]) (N.if_ hE hB l) (Nt.ite (by rw [N.nt]) (N.loop hE hB l)
    (Nt.ite (by rw [N.nt]) (Nt.bind (Nt.take l) fun _ l1=>Nt.bind (hE 0 l1) fun c l2=>Nt.bind (N.need _ l2) fun _ l3=>Nt.bind (N.body hB _ l3) fun b l4=>Nt.yes (by rw [N.nl];rfl) rfl)
    (Nt.ite (by rw [N.nt]) (Nt.bind (Nt.take l) fun _ l1=>Nt.bind (N.body hB _ l1) fun b l2=>Nt.bind (hE 0 l2) fun c l3=>Nt.yes (by rw [N.nl];rfl) rfl)
    (Nt.ite (by rw [N.nt]) (Nt.bind (Nt.take l) fun _ l1=>Nt.bind (N.body hB _ l1) fun b l2=>Nt.yes (by rw [N.nl];rfl) rfl)
    (Nt.ite (by rw [N.nt]) (Nt.bind (Nt.take l) fun _ l1=>Nt.yes (by rw [N.nl];rfl) rfl)
    (Nt.ite (by rw [N.nt]) (Nt.bind (Nt.take l) fun _ l1=>Nt.bind (N.name l1) fun n l2=>Nt.yes (by rw [N.nl,N.text];rfl) rfl) (Nt.no rfl)))))))))
include hE hB in
theorem Nt.stat (l:List Tk):statR E B (l.map f)=(statR E B l).lift (St.ml g) f :=
  Nt.ite (by rw [N.nk]) (N.key hE hB l) (Nt.ite (N.isi _ l) (Nt.bind (by rw [Nt.tl];exact N.name _) fun n l1=>Nt.bind (N.need _ l1) fun _ l2=>Nt.yes (by rw [N.nl,N.text];rfl) rfl) (N.simple hE l))
include hE in
theorem Nt.ret (l:List Tk):retR E (l.map f)=(retR E l).lift (St.ml g) f :=
  Nt.bind (Nt.take l) fun t l1=>Nt.bind (a:=Ex.mls g) (Nt.ite (by rw [N.ends,N.is]) (N.listR hE l1) (Nt.yes rfl rfl)) fun xs l2=>by
    have hi:(if isB [59] (l2.map f)=true then (l2.map f).tail else l2.map f)=(if isB [59] l2=true then l2.tail else l2).map f:=by rw [N.is,Nt.tl];split <;> rfl
    rw [hi];exact Nt.ite (by rw [N.ends]) (Nt.yes (by rw [N.line];rfl) rfl) (Nt.no rfl)
include hE hB in
theorem Nt.blkG:∀ n acc l,blkG E B n (St.mls g acc) (l.map f)=(blkG E B n acc l).lift (St.mls g) f
  | 0,_,_=>rfl
  | n+1,acc,l=>Nt.ite (by rw [N.ends]) (Nt.yes rfl rfl) (Nt.ite (N.isi _ l) (by rw [Nt.tl];exact Nt.blkG n acc _)
      (Nt.ite (N.isi _ l) (Nt.bind (N.ret hE l) fun s l1=>Nt.yes (by rw [St.mls_app];rfl) rfl) (Nt.bind (N.stat hE hB l) fun s l1=>by
        have h:=Nt.blkG n (acc++[s]) l1;rw [St.mls_app] at h;exact h)))
theorem Nt.EB:∀ n,NE f g (EB n).1∧NB f g (EB n).2
  | 0=>⟨fun _ _=>rfl,fun _=>rfl⟩
  | n+1=>⟨fun lim l=>N.exp (Nt.EB n).1 (Nt.EB n).2 lim l,fun l=>by
      show Go.Proofs.YtdekaghipjpgpaaGreatDoor.blkG _ _ ((l.map f).length+1) [] (l.map f)=_;rw [List.length_map];exact N.blkG (Nt.EB n).1 (Nt.EB n).2 _ [] l⟩
end
theorem runN_take (b:Int):∀ (l:Sb) (n:Nat),runN b (l.take n)=min (runN b l) n
  | [],n=>by simp [runN]
  | c::r,0=>by simp [runN]
  | c::r,n+1=>by
    cases h:isD b c
    · rw [List.take_succ_cons,runN_no h,runN_no h];omega
    · rw [List.take_succ_cons,runN_yes h,runN_yes h,runN_take b r n];omega
theorem findN_eq (l:Sb):findN l=if runN 10 l=0 then none
    else if runN 10 l=1∧l[0]?=some 48∧(l[1]?=some 120∨l[1]?=some 88)∧0<runN 16 (l.drop 2) then some ⟨true,0,2+runN 16 (l.drop 2),2⟩
    else if l[runN 10 l]?=some 46∧0<runN 10 (l.drop (runN 10 l+1)) then some ⟨false,runN 10 l,runN 10 l+1+runN 10 (l.drop (runN 10 l+1)),0⟩
    else some ⟨false,0,runN 10 l,0⟩:=rfl
theorem findN_self {l:Sb} {u:Nu} (h:findN l=some u):findN (l.take u.en)=some u:=by
  have hle:=runN_le 10 l;rw [findN_eq] at h;split at h
  · cases h
  · rename_i h0;split at h
    · rename_i h1;obtain ⟨e1,z0,x1,r1⟩:=h1;cases h;simp only;have a1:runN 10 (l.take (2+runN 16 (l.drop 2)))=1:=by rw [runN_take,e1];omega
      have a2:(l.take (2+runN 16 (l.drop 2)))[0]?=l[0]?:=List.getElem?_take_of_lt (by omega);have a3:(l.take (2+runN 16 (l.drop 2)))[1]?=l[1]?:=List.getElem?_take_of_lt (by omega);have a4:runN 16 ((l.take (2+runN 16 (l.drop 2))).drop 2)=runN 16 (l.drop 2):=by rw [drop_take_add,runN_take];omega
      rw [findN_eq,a1,if_neg (by decide),a2,a3,a4,if_pos ⟨rfl,z0,x1,r1⟩]
    · rename_i h1;split at h
      · rename_i h2;obtain ⟨p0,s0⟩:=h2;cases h;simp only;obtain ⟨S,hS⟩:∃ S,S=runN 10 (l.drop (runN 10 l+1)):=⟨_,rfl⟩
        rw [←hS] at s0 ⊢;have a1:runN 10 (l.take (runN 10 l+1+S))=runN 10 l:=by rw [runN_take];omega
        have a2:(l.take (runN 10 l+1+S))[runN 10 l]?=some 46:=by rw [List.getElem?_take_of_lt (by omega)];exact p0
        have a4:runN 10 ((l.take (runN 10 l+1+S)).drop (runN 10 l+1))=S:=by rw [drop_take_add,runN_take,←hS];omega
        rw [findN_eq,a1,if_neg h0,if_neg ?_,a2,a4,if_pos ⟨rfl,s0⟩];rintro ⟨e1,-,x1,-⟩;rw [e1] at a2;rcases x1 with x1|x1 <;> (rw [e1,a2] at x1;cases x1)
      · cases h;simp only;have a1:runN 10 (l.take (runN 10 l))=runN 10 l:=by rw [runN_take];omega
        have a2:(l.take (runN 10 l))[runN 10 l]?=none:=by rw [List.getElem?_eq_none];rw [List.length_take];omega
        rw [findN_eq,a1,if_neg h0,if_neg ?_,a2,if_neg (by simp)];rintro ⟨e1,-,x1,-⟩;have a3:(l.take (runN 10 l))[1]?=none:=by rw [List.getElem?_eq_none];rw [List.length_take];omega
        rw [a3] at x1;rcases x1 with x1|x1 <;> cases x1
theorem numN_self {l:Sb} {u:Nu} (h:findN l=some u):numN (l.take u.en) u=numN l u:=by
  have ho:=findN_ok h;have h1:(l.take u.en).take u.en=l.take u.en:=by rw [List.take_take,Nat.min_self]
  unfold numN;rw [h1];by_cases h0:u.pt=0
  · rw [if_pos h0,if_pos h0]
  · have:=(ho.point h0).2.2.1;have h2:(l.take u.en).take u.pt=l.take u.pt:=by rw [List.take_take];congr 1;omega
    rw [if_neg h0,if_neg h0,h2]
theorem fracS_w {p q:Int} (hq:1≤q):W64 (fracS p q).1.1∧W64 (fracS p q).1.2:=by
  unfold fracS;simp only [show ¬ q<0 by omega,if_false];have hg:(0:Int)≤(Nat.gcd p.natAbs q.natAbs:Nat):=Int.natCast_nonneg _;generalize ((Nat.gcd p.natAbs q.natAbs:Nat):Int)=g at hg;have h1:0≤q / g:=Int.ediv_nonneg (by omega) hg;split
  · exact ⟨⟨by decide,by decide⟩,⟨by decide,by decide⟩⟩
  · exact ⟨⟨by simp only;omega,by simp only;omega⟩,⟨by simp only;omega,by simp only;omega⟩⟩
theorem fracR_w {x:Option Int} {q:Int} (hq:1≤q):W64 (fracR x q).1.1∧W64 (fracR x q).1.2:=by
  have hz:W64 0∧W64 0:=⟨⟨by decide,by decide⟩,⟨by decide,by decide⟩⟩
  cases x with
  | none=>exact hz
  | some p =>
    unfold fracR;simp only;split
    · exact fracS_w hq
    · exact hz
theorem numN_w (l:Sb) (u:Nu):W64 (numN l u).1.1∧W64 (numN l u).1.2:=by
  unfold numN;split
  · exact fracR_w (by decide)
  · split
    · exact ⟨⟨by decide,by decide⟩,⟨by decide,by decide⟩⟩
    · exact fracR_w (by have:0<10 ^ (u.en - (u.pt+1)):=Nat.pow_pos (by decide);omega)
theorem numT0_w (l:Sb):W64 (numT0 l).1∧W64 (numT0 l).2:=by
  unfold numT0;split
  · exact ⟨⟨by decide,by decide⟩,⟨by decide,by decide⟩⟩
  · exact numN_w _ _
def NumX (l:Sb):Prop:=∃ u,findN l=some u∧u.en=l.length∧(numN l u).2=0
theorem NumX.of_find {l:Sb} {u:Nu} (h:findN l=some u) (h0:(numN l u).2=0):NumX (l.take u.en) :=
  ⟨u,findN_self h,by have:=(findN_ok h).en;simp;omega,by rw [numN_self h];exact h0⟩
theorem NumX.first {l:Sb} (h:NumX l):∃ c r,l=c::r∧isD 10 c=true:=by
  obtain ⟨u,hu,he,-⟩:=h;have hp:=(findN_ok hu).pos;rw [findN_eq] at hu;split at hu
  · cases hu
  · rename_i h0;cases l with
    | nil=>simp at he;omega
    | cons c r =>
      refine ⟨c,r,rfl,?_⟩;cases hd:isD 10 c
      · exact absurd (runN_no hd) h0
      · rfl
theorem spanB_le (p:UInt8→Bool) (l:Sb):spanB p l≤l.length:=(List.takeWhile_sublist _).length_le
theorem escL_len {r:Sb} {d:UInt8} {m:Nat} (h:escL r=.ok (d,m)):2≤m∧m≤r.length+1:=by
  cases r with
  | nil=>cases h
  | cons c r =>
    rw [escL] at h;have h1:=spanB_le hexB r;have h2:=spanB_le digB (c::r);simp only [List.length_cons] at h2 ⊢;split at h
    · cases h;omega
    · split at h
      · cases h;omega
      · split at h
        · cases h;omega
        · split at h
          · split at h
            · cases h
            · cases h;omega
          · split at h
            · rename_i hd;split at h
              · cases h
              · cases h;have:1≤spanB digB (c::r):=by simp [spanB,hd]
                omega
            · cases h
theorem strG_len {q:UInt8}:∀ {n:Nat} {r b:Sb} {k:Nat} {v:Sb} {m:Nat},strG q n r b k=.ok (v,m)→k+1≤m∧m≤k+r.length∧v.length≤4096∨4096<b.length:=by
  intro n
  induction n with
  | zero=>intro r b k v m h;cases h
  | succ n ih =>
    intro r b k v m h;rcases Nat.lt_or_ge 4096 b.length with h9|h9
    · exact .inr h9
    unfold strG at h;cases r with
    | nil=>cases h
    | cons c r' =>
      simp only at h;split at h
      · cases h
      · split at h
        · cases h;simp only [List.length_cons];omega
        · split at h
          · split at h
            · cases h
            · rename_i d m' he;have hl:=escL_len he;split at h
              · cases h
              · rcases ih h with h2|h2
                · rw [List.length_drop] at h2;simp only [List.length_cons] at h2 ⊢;omega
                · simp at h2;omega
          · split at h
            · cases h
            · rcases ih h with h2|h2
              · simp only [List.length_cons] at h2 ⊢;omega
              · simp at h2;omega
theorem tokL_len {a ln:Nat} {r:Sb} {t:Tk} {m:Nat} (h:tokL a ln r=.ok (t,m)):1≤m∧m≤r.length:=by
  cases r with
  | nil=>cases h
  | cons c r' =>
    unfold tokL at h;simp only at h;split at h
    · rename_i hi;split at h
      · cases h
      · cases h;refine ⟨?_,spanB_le _ _⟩;have:wordB c=true:=by simp [wordB,hi]
        simp [spanB,this]
    · split at h
      · split at h
        · cases h
        · rename_i u hu;split at h
          · cases h
          · split at h
            · cases h
            · cases h;exact ⟨(findN_ok hu).pos,(findN_ok hu).en⟩
      · split at h
        · split at h
          · cases h
          · rename_i b k hs;cases h;rcases strG_len hs with h2|h2
            · simp only [List.length_cons];omega
            · simp at h2
        · split at h
          · cases h
          · rename_i y hy;cases h;have h1:=List.find?_some hy;have h2:=List.mem_of_find?_eq_some hy;have h3:=(List.isPrefixOf_iff_prefix.1 h1).length_le;refine ⟨?_,h3⟩;have:∀ y ∈ symsL,1≤y.length:=by decide
            exact this y h2
theorem scanG_fuel:∀ {n m a ln:Nat} {r:Sb} {acc:List Tk},r.length<n→r.length<m→scanG n a ln r acc=scanG m a ln r acc:=by
  intro n
  induction n with
  | zero=>intro m a ln r acc h;omega
  | succ n ih =>
    intro m a ln r acc hn hm;cases m with
    | zero=>omega
    | succ m =>
      simp only [scanG];split
      · rfl
      · rename_i c r1 hd;split
        · rfl
        · rename_i t k ht;have hl:=tokL_len ht;have h2:(c::r1).length≤r.length:=by rw [←hd,List.length_drop];omega
          have h3:((c::r1).drop k).length<r.length:=by rw [List.length_drop];simp only [List.length_cons] at h2 hl ⊢;omega
          exact ih (by omega) (by omega)
def scanX (a ln:Nat) (r:Sb) (acc:List Tk):Except (Int × Int) (List Tk):=scanG (r.length+1) a ln r acc
theorem scanX_eq (a ln:Nat) (r:Sb) (acc:List Tk):scanX a ln r acc=match r.drop (skipL false r).1 with
    | []=>.ok acc
    | c::r1=>match tokL (a+(skipL false r).1) (ln+(skipL false r).2) (c::r1) with
      | .error e=>.error (((ln+(skipL false r).2:Nat):Int),e)
      | .ok (t,m)=>scanX (a+(skipL false r).1+m) (ln+(skipL false r).2) ((c::r1).drop m) (acc++[t]):=by
  unfold scanX;rw [scanG];rcases hd:r.drop (skipL false r).1 with _|⟨c,r1⟩
  · rfl
  · have h2:(c::r1).length≤r.length:=by rw [←hd,List.length_drop];omega
    rcases htk:tokL (a+(skipL false r).1) (ln+(skipL false r).2) (c::r1) with x|⟨t,k⟩
    · simp [hd,htk]
    · have hl:=tokL_len htk;simp only [hd,htk];exact scanG_fuel (by rw [List.length_drop];simp only [List.length_cons] at h2 hl ⊢;omega) (by omega)
theorem scanT_eq (l:Sb):scanT l=if 65536<l.length then .error (1,3) else scanX 0 1 l []:=rfl
theorem skipL_le:∀ (b:Bool) (r:Sb),(skipL b r).1≤r.length
  | _,[]=>by simp [skipL]
  | true,c::r=>by
    have h1:=skipL_le false r;have h2:=skipL_le true r;unfold skipL;split <;> simp only [List.length_cons] <;> omega
  | false,c::r=>by
    have h1:=skipL_le false r;have h2:=skipL_le true r;unfold skipL;split
    · simp only [List.length_cons];omega
    · split
      · simp only [List.length_cons];omega
      · split
        · simp only [List.length_cons];omega
        · exact Nat.zero_le _
def nlC (l:Sb):Nat:=l.count 10
theorem skipL_nl:∀ (b:Bool) (r:Sb),(skipL b r).2=nlC (r.take (skipL b r).1)
  | _,[]=>by simp [skipL,nlC]
  | true,c::r=>by
    have h1:=skipL_nl false r;have h2:=skipL_nl true r;unfold skipL;split
    · rename_i hc;subst hc;rw [Nat.add_comm 1,List.take_succ_cons];simp only [nlC,List.count_cons_self] at h1 ⊢;omega
    · rename_i hc;rw [Nat.add_comm 1,List.take_succ_cons];simp only [nlC] at h2 ⊢;rw [List.count_cons_of_ne hc];exact h2
  | false,c::r=>by
    have h1:=skipL_nl false r;have h2:=skipL_nl true r;unfold skipL;split
    · rename_i hc;subst hc;rw [Nat.add_comm 1,List.take_succ_cons];simp only [nlC,List.count_cons_self] at h1 ⊢;omega
    · rename_i hc;split
      · rw [Nat.add_comm 1,List.take_succ_cons];simp only [nlC] at h1 ⊢;rw [List.count_cons_of_ne hc];exact h1
      · split
        · rw [Nat.add_comm 1,List.take_succ_cons];simp only [nlC] at h2 ⊢;rw [List.count_cons_of_ne hc];exact h2
        · simp [nlC]
structure TkOk (N M:Nat) (t:Tk):Prop where
  kind:1≤t.kind∧t.kind≤5
  text:t.text.size≤65536
  lo:1≤t.line
  hi:t.line≤N
  pos:0≤t.pos∧t.pos≤M
  num:t.kind=3→NumX t.text.data.toList
theorem txA_size (l:Sb):(txA l).size=l.length:=by simp [txA,ByteArray.size]
theorem tokL_ok {a ln N M:Nat} {r:Sb} {t:Tk} {m:Nat} (h:tokL a ln r=.ok (t,m)) (hr:r.length≤65536) (h1:1≤ln) (hN:ln≤N) (hM:a≤M):TkOk N M t:=by
  have hk:∀ (k:Int) (y:Sb),1≤k∧k≤5→y.length≤65536→(k=3→NumX y)→TkOk N M ⟨k,txA y,ln,a⟩:=fun k y h2 h3 h4=>⟨h2,by rw [txA_size];exact h3,by simp only;omega,by simp only;omega,⟨by simp only;omega,by simp only;omega⟩,h4⟩;cases r with
  | nil=>cases h
  | cons c r' =>
    unfold tokL at h;simp only at h;split at h
    · split at h
      · cases h
      · cases h;refine hk _ _ (by split <;> decide) (by simp only [List.length_take];omega) fun h=>?_;split at h <;> cases h
    · split at h
      · split at h
        · cases h
        · rename_i u hu;split at h
          · cases h
          · rename_i h0;split at h
            · cases h
            · cases h;exact hk _ _ (by decide) (by simp only [List.length_take];omega) fun _=>NumX.of_find hu (Decidable.not_not.1 h0)
      · split at h
        · split at h
          · cases h
          · rename_i b k hs;cases h;refine hk _ _ (by decide) ?_ fun h=>by cases h
            rcases strG_len hs with h2|h2
            · omega
            · simp at h2
        · split at h
          · cases h
          · rename_i y hy;cases h;refine hk _ _ (by decide) ?_ fun h=>by cases h
            have h2:=List.mem_of_find?_eq_some hy;have:∀ y ∈ symsL,y.length≤65536:=by decide
            exact this y h2
theorem nlC_split (r:Sb) (k:Nat):nlC (r.take k)+nlC (r.drop k)=nlC r:=by unfold nlC;rw [←List.count_append,List.take_append_drop]
theorem scanX_ok:∀ (n a ln:Nat) (r:Sb) (acc:List Tk) (N M:Nat),r.length≤n→r.length≤65536→1≤ln→ln+nlC r≤N→a+r.length≤M→(∀ t ∈ acc,TkOk N M t) →
    (∀ L,scanX a ln r acc=.ok L→(∀ t ∈ L,TkOk N M t)∧L.length≤acc.length+r.length)∧∀ l e,scanX a ln r acc=.error (l,e)→1≤l∧l≤(N:Int):=by
  intro n
  induction n with
  | zero =>
    intro a ln r acc N M hn hr h1 hN hM hacc;have:r=[]:=List.length_eq_zero_iff.1 (by omega);subst this;rw [scanX_eq];simp only [List.drop_nil];exact ⟨fun L h=>by cases h;exact ⟨hacc,Nat.le_add_right _ _⟩,fun l e h=>by cases h⟩
  | succ n ih =>
    intro a ln r acc N M hn hr h1 hN hM hacc;have hk:=skipL_le false r;have hnl:=skipL_nl false r;have hsp:=nlC_split r (skipL false r).1;rw [scanX_eq];generalize (skipL false r).2=q at *;generalize (skipL false r).1=k at *;split
    · exact ⟨fun L h=>by cases h;exact ⟨hacc,Nat.le_add_right _ _⟩,fun l e h=>by cases h⟩
    · rename_i c r1 hd;have hl:(c::r1).length=r.length - k:=by rw [←hd,List.length_drop]
      split
      · rename_i e he;refine ⟨(fun L h=>by cases h),fun l e h=>?_⟩;cases h;omega
      · rename_i t m ht;have hm:=tokL_len ht;have hs2:=nlC_split (c::r1) m;rw [hd] at hsp;have hl2:((c::r1).drop m).length=r.length - k - m:=by rw [List.length_drop,hl]
        have h5:=ih (a+k+m) (ln+q) ((c::r1).drop m) (acc++[t]) N M (by omega) (by omega) (by omega) (by omega) (by omega) (fun t' ht'=>by
          rcases List.mem_append.1 ht' with h|h
          · exact hacc _ h
          · rw [List.mem_singleton.1 h];exact tokL_ok ht (by omega) (by omega) (by omega) (by omega))
        refine ⟨fun L h=>?_,h5.2⟩;have h6:=h5.1 L h;exact ⟨h6.1,by have:=h6.2;simp only [List.length_append,List.length_singleton] at this;omega⟩
theorem scanT_ok {l:Sb} {L:List Tk} (h:scanT l=.ok L):(∀ t ∈ L,TkOk (1+nlC l) l.length t)∧L.length≤l.length∧l.length≤65536:=by
  rw [scanT_eq] at h;split at h
  · cases h
  · have:=(scanX_ok l.length 0 1 l [] (1+nlC l) l.length (Nat.le_refl _) (by omega) (Nat.le_refl _) (Nat.le_refl _) (by omega) (fun t h=>by cases h)).1 L h;exact ⟨this.1,by simpa using this.2,by omega⟩
end Go.Proofs.YtdekaghipjpgpaaGreatDoor
