/- Pure laws of the scanner: a text before a blank or a line feed is read the same. -/
import Derived.Test.YtdekaghipjpgpaaGreatDoorE3
import Derived.Test.YtdekaghipjpgpaaGreatDoorE1
namespace Go.Proofs.YtdekaghipjpgpaaGreatDoor
open Go.RowKit
set_option linter.unusedVariables false
set_option linter.unusedSimpArgs false
def Sepz (z:Sb):Prop:=∃ c r,z=c::r∧(c=10∨c=32)
section
variable {z:Sb} (hz:Sepz z)
include hz
omit hz in
theorem drop_app {r:Sb} {k:Nat} (h:k≤r.length):(r++z).drop k=r.drop k++z:=by rw [List.drop_append_of_le_length h]
omit hz in
theorem take_app {r:Sb} {k:Nat} (h:k≤r.length):(r++z).take k=r.take k:=List.take_append_of_le_length h
omit hz in
theorem numN_app {r:Sb} {u:Nu} (h:NuOk r u):numN (r++z) u=numN r u:=by
  have h1:=take_app (z:=z) h.en;unfold numN;rw [h1];by_cases h0:u.pt=0
  · rw [if_pos h0,if_pos h0]
  · have h3:=(h.point h0).2.2.1;have h2:=take_app (z:=z) (r:=r) (k:=u.pt) (by have:=h.en;omega);rw [if_neg h0,if_neg h0,h2]
end
theorem skipL_t (c:UInt8) (r:Sb):skipL true (c::r)=if c=10 then (1+(skipL false r).1,1+(skipL false r).2) else (1+(skipL true r).1,(skipL true r).2):=rfl
theorem skipL_f (c:UInt8) (r:Sb):skipL false (c::r)=if c=10 then (1+(skipL false r).1,1+(skipL false r).2) else if c=32∨c=9∨c=13 then (1+(skipL false r).1,(skipL false r).2)
    else if c=45∧r.head?=some 45 then (1+(skipL true r).1,(skipL true r).2) else (0,0):=rfl
theorem drop_nil {r:Sb} {k:Nat} (h:k≤r.length) (hd:r.drop k=[]):k=r.length:=by
  have:=congrArg List.length hd;simp at this;omega
def Xt {α:Type} (z:List Tk) (r r':Res α):Prop:=∀ v l,r=.ok v l→r'=.ok v (l++z)
def Xs {α:Type} (z:List Tk) (r r':Res α):Prop:=∀ v t l,r=.ok v (t::l)→r'=.ok v (t::l++z)
section
variable {α β:Type} {z:List Tk} {m m':Res α} {f f':α→List Tk→Res β}
theorem Xt.s (h:Xt z m m'):Xs z m m':=fun v t l e=>h v _ e
theorem Xt.bind (h:Xt z m m') (k:∀ x l,m=.ok x l→Xt z (f x l) (f' x (l++z))):Xt z (m.bind f) (m'.bind f'):=by
  cases m with
  | ok x l=>rw [h x l rfl];exact k x l rfl
  | bad l=>intro v l' e;cases e
theorem Xs.bindT (h:Xt z m m') (k:∀ x l,m=.ok x l→Xs z (f x l) (f' x (l++z))):Xs z (m.bind f) (m'.bind f'):=by
  cases m with
  | ok x l=>rw [h x l rfl];exact k x l rfl
  | bad l=>intro v t l' e;cases e
theorem Xs.bind (h:Xs z m m') (k:∀ x t l,Xs z (f x (t::l)) (f' x (t::l++z))) (k0:∀ x v t l,f x []≠.ok v (t::l)):Xs z (m.bind f) (m'.bind f'):=by
  cases m with
  | ok x l =>
    cases l with
    | nil=>intro v t l' e;exact absurd e (k0 x v t l')
    | cons t l=>rw [h x t l rfl];exact k x t l
  | bad l=>intro v t l' e;cases e
theorem Xs.kill (h:Xs z m m') (k:∀ x t l,Xt z (f x (t::l)) (f' x (t::l++z))) (k0:∀ x v l,f x []≠.ok v l):Xt z (m.bind f) (m'.bind f'):=by
  cases m with
  | ok x l =>
    cases l with
    | nil=>intro v l' e;exact absurd e (k0 x v l')
    | cons t l=>rw [h x t l rfl];exact k x t l
  | bad l=>intro v l' e;cases e
theorem Xt.ite {c c':Prop} [Decidable c] [Decidable c'] {n n':Res α} (hc:c'↔c) (h1:c→Xt z m m') (h2:¬ c→Xt z n n'):Xt z (if c then m else n) (if c' then m' else n'):=by
  by_cases h:c
  · rw [if_pos (hc.2 h),if_pos h];exact h1 h
  · rw [if_neg (fun h9=>h (hc.1 h9)),if_neg h];exact h2 h
theorem Xs.ite {c c':Prop} [Decidable c] [Decidable c'] {n n':Res α} (hc:c'↔c) (h1:c→Xs z m m') (h2:¬ c→Xs z n n'):Xs z (if c then m else n) (if c' then m' else n'):=by
  by_cases h:c
  · rw [if_pos (hc.2 h),if_pos h];exact h1 h
  · rw [if_neg (fun h9=>h (hc.1 h9)),if_neg h];exact h2 h
theorem Xt.yes {v:α} {l:List Tk}:Xt z (.ok v l) (.ok v (l++z)):=fun v' l' e=>by cases e;rfl
theorem Xt.yes' {v:α} {l l':List Tk} (h:l'=l++z):Xt z (.ok v l) (.ok v l'):=by subst h;exact Xt.yes
theorem Xt.no {l:List Tk} {r:Res α}:Xt z (.bad l) r:=fun v' l' e=>by cases e
end
def Smi (z:List Tk):Prop:=∃ t w,z=t::w∧t.kind=5∧t.text.data.toList=[59]
theorem no_need {α β:Type} {s:Sb} {f:Tk→List Tk→Res β} {v:β} {l:List Tk}:(needR s []).bind f≠.ok v l:=by rintro h;cases h
section
variable {z:List Tk} (hz:Smi z)
include hz
theorem Xt.is {s:Sb} (hs:s≠[59]) (l:List Tk):isB s (l++z)=isB s l:=by
  cases l with
  | nil =>
    obtain ⟨t,w,rfl,hk,ht⟩:=hz;have:([59]==s)=false:=by rw [beq_eq_false_iff_ne];exact fun h=>hs h.symm
    simp [isB,hk,ht,this]
  | cons t r=>rfl
theorem Xt.isi {s:Sb} (l:List Tk) (hs:s≠[59]:=by decide):isB s (l++z)=true↔isB s l=true:=by rw [Xt.is hz hs]
theorem Xt.nk {k:Int} (l:List Tk) (h5:k≠5:=by decide) (h0:k≠0:=by decide):(nextK (l++z)).kind=k↔(nextK l).kind=k:=by
  cases l with
  | nil =>
    obtain ⟨t,w,rfl,hk,ht⟩:=hz;show t.kind=k↔(0:Int)=k;rw [hk];exact ⟨fun h=>absurd h.symm h5,fun h=>absurd h.symm h0⟩
  | cons t r=>exact Iff.rfl
omit hz in
theorem Xt.nx {l:List Tk} (h:l≠[]):nextK (l++z)=nextK l:=by cases l with|nil=>exact absurd rfl h|cons t r=>rfl
omit hz in
theorem Xt.tl {l:List Tk} (h:l≠[]):(l++z).tail=l.tail++z:=by cases l with|nil=>exact absurd rfl h|cons t r=>rfl
omit hz in
theorem is_ne {s:Sb} {l:List Tk} (h:isB s l=true):l≠[]:=by rintro rfl;cases h
omit hz in
theorem kd_ne {k:Int} {l:List Tk} (h:(nextK l).kind=k) (h0:k≠0:=by decide):l≠[]:=by rintro rfl;exact h0 h.symm
theorem Xt.calls (l:List Tk):callsB (l++z)=callsB l:=by
  unfold callsB;rw [Xt.is hz (by decide),Xt.is hz (by decide)];congr 1;rw [Bool.eq_iff_iff,beq_iff_eq,beq_iff_eq];exact Xt.nk hz l
theorem Xt.eq_ (l:List Tk):nextEq (l++z)=nextEq l:=by
  obtain ⟨t,w,rfl,hk,ht⟩:=hz
  match l with
  | []=>cases w <;> simp [nextEq,hk]
  | [u]=>simp [nextEq,ht]
  | u::v::r=>rfl
theorem Xt.un (l:List Tk):unB (nextK (l++z))=unB (nextK l):=by
  cases l with
  | nil=>obtain ⟨t,w,rfl,hk,ht⟩:=hz;show unB t=0;simp [unB,hk,ht]
  | cons t r=>rfl
theorem Xt.bin (l:List Tk):(binB (nextK (l++z))).2.2=(binB (nextK l)).2.2:=by
  cases l with
  | nil =>
    obtain ⟨t,w,rfl,hk,ht⟩:=hz;show (binB t).2.2=0;unfold binB;rw [ht,hk];rfl
  | cons t r=>rfl
theorem Xt.ends {l:List Tk} (h:l≠[]):endsB (l++z)=endsB l:=by
  unfold endsB;rw [Xt.is hz (by decide),Xt.is hz (by decide),Xt.is hz (by decide),Xt.is hz (by decide)];congr 4;cases l with|nil=>exact absurd rfl h|cons t r=>rfl
omit hz in
theorem Xt.take (l:List Tk):Xt z (takeR l) (takeR (l++z)):=by cases l with|nil=>exact Xt.no|cons t r=>exact Xt.yes
theorem Xt.need (s:Sb) (l:List Tk) (hs:s≠[59]:=by decide):Xt z (needR s l) (needR s (l++z)):=Xt.ite (Xt.isi hz l hs) (fun _=>Xt.take l) fun _=>Xt.no
theorem Xt.name (l:List Tk):Xt z (nameR l) (nameR (l++z)):=Xt.ite (Xt.nk hz l) (fun _=>Xt.take l) fun _=>Xt.no
def ZE (z:List Tk) (E:EF):Prop:=∀ lim l,0≤lim→Xt z (E lim l) (E lim (l++z))
def ZB (z:List Tk) (B:BF):Prop:=∀ l,Xs z (B l) (B (l++z))
variable {E:EF} {B:BF} (hE:ZE z E) (hB:ZB z B)
include hE in
theorem Xt.listG:∀ {n n':Nat} {acc l},n≤n'→Xt z (listG E n acc l) (listG E n' acc (l++z))
  | 0,_,_,_,_=>Xt.no
  | n+1,0,_,_,h=>absurd h (by omega)
  | n+1,n'+1,acc,l,h=>Xt.ite (Xt.isi hz l) (fun hc=>Xt.bind (by rw [Xt.tl (is_ne hc)];exact hE 0 _ (by decide)) fun x l1 _=>Xt.listG (by omega)) fun _=>Xt.yes
omit hz in
theorem len_z (l:List Tk):l.length+1≤(l++z).length+1:=by simp
include hE in
theorem Xt.listR (l:List Tk):Xt z (listR E l) (listR E (l++z)):=Xt.bind (hE 0 l (by decide)) fun x l1 _=>Xt.listG hz hE (len_z l1)
include hE in
theorem Xt.item (l:List Tk) (hl:l≠[]):Xt z (itemR E l) (itemR E (l++z)):=by
  unfold itemR;rw [Xt.nx hl];refine Xt.ite (Xt.isi hz l) (fun hc=>Xt.bind (by rw [Xt.tl hl];exact hE 0 _ (by decide)) fun k l1 _=>Xt.bind (Xt.need hz _ l1) fun _ l2 _=>Xt.bind (Xt.need hz _ l2) fun _ l3 _=>Xt.bind (hE 0 l3 (by decide)) fun v l4 _=>Xt.yes) fun _=>?_;refine Xt.ite (by rw [Xt.eq_ hz]) (fun hc=>?_) fun _=>Xt.bind (hE 0 l (by decide)) fun x l1 _=>Xt.yes
  have h2:2≤l.length:=by
    match l,hc with
    | t::u::r,_=>simp
  rw [List.drop_append_of_le_length h2];exact Xt.bind (hE 0 _ (by decide)) fun v l1 _=>Xt.yes
end
section
variable {z:List Tk} (hz:Smi z) {E:EF} {B:BF} (hE:ZE z E) (hB:ZB z B) (hL:SE E)
include hz hE hL
theorem Xt.tabG:∀ {n n':Nat} {acc l},n≤n'→Xs z (tabG E n acc l) (tabG E n' acc (l++z))
  | 0,_,_,_,_=>Xt.no.s
  | n+1,0,_,_,h=>absurd h (by omega)
  | n+1,n'+1,acc,[],h=>by
    intro v t l e
    have:=(Le.bind (t:=fun _=>0) (k':=0) (item_le hL []) fun x l1 h1=>by simp at h1) v (t::l) (by
      have:Go.Proofs.YtdekaghipjpgpaaGreatDoor.tabG E (n+1) acc []=(itemR E []).bind fun x l1=>if isB [44] l1=true then Go.Proofs.YtdekaghipjpgpaaGreatDoor.tabG E n (acc++[x]) l1.tail else if isB [59] l1=true then Go.Proofs.YtdekaghipjpgpaaGreatDoor.tabG E n (acc++[x]) l1.tail else .ok (acc++[x]) l1:=rfl
      rw [this] at e;exact e)
    simp at this
  | n+1,n'+1,acc,t0::r0,h=>by
    have hne:t0::r0≠[]:=by simp
    refine Xs.ite (Xt.isi hz _) (fun hc=>Xt.yes.s) fun _=>Xs.bindT (Xt.item hz hE _ hne) fun x l1 _=>?_;refine Xs.ite (Xt.isi hz l1) (fun hc=>by rw [Xt.tl (is_ne hc)];exact Xt.tabG (by omega)) fun _=>?_;cases l1 with
    | nil=>intro v t l e;simp [isB] at e
    | cons t1 r1 =>
      refine Xs.ite Iff.rfl (fun hc=>?_) fun _=>Xt.yes.s;exact Xt.tabG (by omega)
theorem Xt.table (l:List Tk):Xt z (tableR E l) (tableR E (l++z)) :=
  Xt.bind (Xt.take l) fun t l1 _=>Xs.kill (Xt.tabG hz hE hL (len_z l1)) (fun xs t l=>Xt.bind (Xt.need hz _ _) fun _ l3 _=>Xt.yes) fun x v l=>no_need (α:=Ex)
theorem Xt.bare (l:List Tk):Xt z (bareR E l) (bareR E (l++z)) :=
  Xt.ite (Xt.nk hz l) (fun hc=>by have:=kd_ne hc;rw [Xt.nx this,Xt.tl this];exact Xt.yes) fun _=>Xt.table hz hE hL l
theorem Xt.args (e:Ex) (l:List Tk):Xt z (argsR E e l) (argsR E e (l++z)) :=
  Xt.ite (Xt.isi hz l) (fun hc=>by
    rw [Xt.tl (is_ne hc)];exact Xt.ite (Xt.isi hz _) (fun _=>Xt.bind (Xt.need hz _ _) fun _ l3 _=>Xt.yes) fun _=>Xt.bind (Xt.listR hz hE _) fun xs l1 _=>Xt.bind (Xt.need hz _ l1) fun _ l3 _=>Xt.yes)
    fun _=>Xt.bind (Xt.bare hz hE hL l) fun x l1 _=>Xt.yes
omit hL in
theorem Xt.head (l:List Tk):Xt z (headR E l) (headR E (l++z)) :=
  Xt.ite (Xt.isi hz l) (fun hc=>by
    rw [Xt.tl (is_ne hc),Xt.nx (is_ne hc)];exact Xt.bind (hE 0 _ (by decide)) fun e l1 _=>Xt.bind (Xt.need hz _ l1) fun _ l2 _=>Xt.yes)
    fun _=>Xt.bind (Xt.name hz l) fun n l1 _=>Xt.yes
theorem Xt.sufG:∀ {n n':Nat} {e b l},n≤n'→Xt z (sufG E n e b l) (sufG E n' e b (l++z))
  | 0,_,_,_,_,_=>Xt.no
  | n+1,0,_,_,_,h=>absurd h (by omega)
  | n+1,n'+1,e,b,l,h =>
    Xt.ite (Xt.isi hz l) (fun hc=>by
      rw [Xt.tl (is_ne hc),Xt.nx (is_ne hc)];exact Xt.bind (Xt.name hz _) fun k l1 _=>Xt.sufG (by omega)) fun _ =>
    Xt.ite (Xt.isi hz l) (fun hc=>by
      rw [Xt.tl (is_ne hc),Xt.nx (is_ne hc)];exact Xt.bind (hE 0 _ (by decide)) fun k l1 _=>Xt.bind (Xt.need hz _ l1) fun _ l2 _=>Xt.sufG (by omega)) fun _ =>
    Xt.ite (Xt.isi hz l) (fun hc=>by
      rw [Xt.tl (is_ne hc)];refine Xt.bind (Xt.name hz _) fun k l1 _=>Xt.ite (by rw [Xt.calls hz]) (fun hc1=>?_) fun _=>Xt.no;rw [Xt.nx (calls_ne hc1)];exact Xt.bind (Xt.args hz hE hL e l1) fun a l2 _=>Xt.sufG (by omega)) fun _ =>
    Xt.ite (by rw [Xt.calls hz]) (fun hc=>by
      rw [Xt.nx (calls_ne hc)];exact Xt.bind (Xt.args hz hE hL e l) fun a l1 _=>Xt.sufG (by omega)) fun _=>Xt.yes
theorem Xt.pref (l:List Tk):Xt z (prefR E l) (prefR E (l++z)):=Xt.bind (Xt.head hz hE l) fun x l1 _=>Xt.sufG hz hE hL (len_z l1)
omit hE hL in
theorem Xt.parG:∀ {n n':Nat} {ps l},n≤n'→Xt z (parG n ps l) (parG n' ps (l++z))
  | 0,_,_,_,_=>Xt.no
  | n+1,0,_,_,h=>absurd h (by omega)
  | n+1,n'+1,ps,l,h=>Xt.ite (Xt.isi hz l) (fun hc=>Xt.yes' (Xt.tl (is_ne hc))) fun _=>Xt.bind (Xt.name hz l) fun t l1 _=>Xt.ite (Xt.isi hz l1) (fun hc=>by rw [Xt.tl (is_ne hc)];exact Xt.parG (by omega)) fun _=>Xt.yes
omit hE hL in
include hB in
theorem Xt.body (e:Sb) (l:List Tk) (he:e≠[59]:=by decide):Xt z (bodyR B e l) (bodyR B e (l++z)):=Xs.kill (hB l) (fun b t l=>Xt.bind (Xt.need hz _ _ he) fun _ l2 _=>Xt.yes) fun x v l=>no_need (α:=Ex)
omit hE hL in
include hB in
theorem Xt.clo (line:Int) (name:ByteArray) (self:Bool) (l:List Tk):Xt z (cloR B line name self l) (cloR B line name self (l++z)) :=
  Xt.bind (Xt.need hz _ l) fun _ l1 _=>Xt.bind (Xt.ite (Xt.isi hz l1) (fun _=>Xt.yes) fun _=>Xt.parG hz (len_z l1)) fun ps l2 _=>Xt.bind (Xt.need hz _ l2) fun _ l3 _=>Xt.bind (Xt.body hz hB _ l3) fun b l4 _=>Xt.yes
include hB in
theorem Xt.pri (l:List Tk):Xt z (priR E B l) (priR E B (l++z)):=by
  by_cases hl:l=[]
  · subst hl;intro v l' e;have:priR E B []=.bad []:=rfl;rw [this] at e;cases e
  unfold priR;simp only;rw [Xt.nx hl,Xt.tl hl]
  refine Xt.ite Iff.rfl (fun hc=>Xt.yes) fun _=>Xt.ite Iff.rfl (fun hc=>Xt.yes) fun _=>Xt.ite (Xt.isi hz l) (fun hc=>Xt.yes) fun _=>Xt.ite (Xt.isi hz l) (fun hc=>Xt.yes) fun _=>Xt.ite (Xt.isi hz l) (fun hc=>Xt.yes) fun _ =>
    Xt.ite (Xt.isi hz l) (fun hc=>Xt.yes) fun _=>Xt.ite (Xt.isi hz l) (fun hc=>Xt.clo hz hB _ _ _ _) fun _=>Xt.ite (Xt.isi hz l) (fun hc=>Xt.table hz hE hL l) fun _=>Xt.bind (Xt.pref hz hE hL l) fun x l1 _=>Xt.yes
omit hL in
theorem Xt.binG {lim:Int} (hlim:0≤lim):∀ {n n':Nat} {e l},n≤n'→Xt z (binG E lim n e l) (binG E lim n' e (l++z))
  | 0,_,_,_,_=>Xt.no
  | n+1,0,_,_,h=>absurd h (by omega)
  | n+1,n'+1,e,l,h=>Xt.ite (by rw [Xt.bin hz]) (fun _=>Xt.yes) fun hc=>by
      have hl:l≠[]:=by
        rintro rfl;exact hc (show (0:Int)≤lim from hlim)
      have h0:0≤tight (binB (nextK l)).2.2:=by unfold tight;split <;> omega
      rw [Xt.nx hl,Xt.tl hl];exact Xt.bind (hE _ _ h0) fun x l1 _=>Xt.binG hlim (by omega)
include hB in
theorem Xt.unR (l:List Tk):Xt z (unR E B l) (unR E B (l++z)) :=
  Xt.ite (by rw [Xt.un hz]) (fun hc=>by
    have hl:l≠[]:=by rintro rfl;exact hc rfl
    rw [Xt.nx hl,Xt.tl hl];exact Xt.bind (hE _ _ (by decide)) fun x l1 _=>Xt.yes) fun _=>Xt.pri hz hE hB hL l
include hB in
theorem Xt.exp (lim:Int) (hlim:0≤lim) (l:List Tk):Xt z (expR E B lim l) (expR E B lim (l++z)):=Xt.bind (Xt.unR hz hE hB hL l) fun e l1 _=>Xt.binG hz hE hlim (len_z l1)
omit hz hE hL in
theorem Xt.attr1 (l:List Tk):Xt z (attr1 l) (attr1 (l++z)):=by
  by_cases hl:l=[]
  · subst hl;exact Xt.no
  unfold Go.Proofs.YtdekaghipjpgpaaGreatDoor.attr1;rw [Xt.nx hl,Xt.tl hl];exact Xt.ite Iff.rfl (fun _=>Xt.yes) fun _=>Xt.ite Iff.rfl (fun _=>Xt.yes) fun _=>Xt.no
omit hE hL in
theorem Xt.attr (l:List Tk):Xt z (attrR l) (attrR (l++z)) :=
  Xt.ite (Xt.isi hz l) (fun hc=>by rw [Xt.tl (is_ne hc)];exact Xt.bind (Xt.attr1 _) fun a l1 _=>Xt.bind (Xt.need hz _ l1) fun _ l2 _=>Xt.yes) fun _=>Xt.yes
omit hE hL in
theorem Xt.namesG:∀ {n n':Nat} {ns l},n≤n'→Xt z (namesG n ns l) (namesG n' ns (l++z))
  | 0,_,_,_,_=>Xt.no
  | n+1,0,_,_,h=>absurd h (by omega)
  | n+1,n'+1,ns,l,h=>Xt.bind (Xt.name hz l) fun t l1 _=>Xt.bind (Xt.attr hz l1) fun a l2 _=>Xt.ite (Xt.isi hz l2) (fun hc=>by rw [Xt.tl (is_ne hc)];exact Xt.namesG (by omega)) fun _=>Xt.yes
omit hL in
include hB in
theorem Xt.local_ (l:List Tk):Xt z (localR E B l) (localR E B (l++z)) :=
  Xt.bind (Xt.take l) fun t l1 _=>Xt.ite (Xt.isi hz l1) (fun hc=>by
      rw [Xt.tl (is_ne hc),Xt.nx (is_ne hc)];exact Xt.bind (Xt.name hz _) fun n l2 _=>Xt.bind (Xt.clo hz hB _ _ _ _) fun x l3 _=>Xt.yes)
    fun _=>Xt.bind (Xt.namesG hz (len_z l1)) fun ns l2 _=>Xt.ite (Xt.isi hz l2) (fun hc=>by rw [Xt.tl (is_ne hc)];exact Xt.bind (Xt.listR hz hE _) fun xs l3 _=>Xt.yes) fun _=>Xt.yes
omit hE hL in
theorem Xt.pathG:∀ {n n':Nat} {e s l},n≤n'→Xt z (pathG n e s l) (pathG n' e s (l++z))
  | 0,_,_,_,_,_=>Xt.no
  | n+1,0,_,_,_,h=>absurd h (by omega)
  | n+1,n'+1,e,s,l,h=>Xt.ite (by rw [Xt.is hz (by decide),Xt.is hz (by decide)]) (fun hc=>by
      have hl:l≠[]:=by rcases hc with hc|hc <;> exact is_ne hc
      rw [Xt.nx hl,Xt.tl hl];exact Xt.bind (Xt.name hz _) fun k l1 _=>Xt.ite Iff.rfl (fun _=>Xt.yes) fun _=>Xt.pathG (by omega)) fun _=>Xt.yes
omit hE hL in
include hB in
theorem Xt.func (l:List Tk):Xt z (funcR B l) (funcR B (l++z)) :=
  Xt.bind (Xt.take l) fun t l1 _=>Xt.bind (Xt.name hz l1) fun n l2 _=>Xt.bind (Xt.pathG hz (len_z l2)) fun x l3 _=>Xt.bind (Xt.clo hz hB _ _ _ _) fun c l4 _=>Xt.yes
omit hL in
include hB in
theorem Xt.ifG:∀ {n n':Nat} {cs bs l},n≤n'→Xs z (ifG E B n cs bs l) (ifG E B n' cs bs (l++z))
  | 0,_,_,_,_,_=>Xt.no.s
  | n+1,0,_,_,_,h=>absurd h (by omega)
  | n+1,n'+1,cs,bs,l,h=>Xs.bindT (hE 0 l (by decide)) fun c l1 _=>Xs.bindT (Xt.need hz _ l1) fun _ l2 _=>Xs.bind (hB l2)
      (fun b t l3=>Xs.ite (Xt.isi hz _) (fun hc=>Xt.ifG (by omega)) fun _=>Xt.yes.s) fun b v t l e=>by simp [isB] at e
omit hL in
include hB in
theorem Xt.if_ (l:List Tk):Xt z (ifR E B l) (ifR E B (l++z)) :=
  Xt.bind (Xt.take l) fun t l1 _=>Xs.kill (Xt.ifG hz hE hB (len_z l1)) (fun x t2 l2=>Xs.kill (Xs.ite (Xt.isi hz _) (fun hc=>Xs.bind (hB _) (fun b t3 l3=>Xt.yes.s) fun b v t3 l3 e=>by cases e) fun _=>Xt.yes.s)
    (fun bs t4 l4=>Xt.bind (Xt.need hz _ _) fun _ l5 _=>Xt.yes) fun bs v l=>no_need (α:=Ex)) fun x v l e=>by
      have e2:(Res.bad []:Res St)=.ok v l:=e;cases e2
omit hE hL in
theorem Xt.forG:∀ {n n':Nat} {ns l},n≤n'→Xt z (forG n ns l) (forG n' ns (l++z))
  | 0,_,_,_,_=>Xt.no
  | n+1,0,_,_,h=>absurd h (by omega)
  | n+1,n'+1,ns,l,h=>Xt.ite (Xt.isi hz l) (fun hc=>by rw [Xt.tl (is_ne hc)];exact Xt.bind (Xt.name hz _) fun t l1 _=>Xt.forG (by omega)) fun _=>Xt.yes
omit hL in
include hB in
theorem Xt.loop (l:List Tk):Xt z (loopR E B l) (loopR E B (l++z)) :=
  Xt.bind (Xt.take l) fun t l1 _=>Xt.bind (Xt.name hz l1) fun n l2 _ =>
    Xt.ite (Xt.isi hz l2) (fun hc=>by
        rw [Xt.tl (is_ne hc)];refine Xt.bind (hE 0 _ (by decide)) fun a l3 _=>Xt.bind (Xt.need hz _ l3) fun _ l4 _=>Xt.bind (hE 0 l4 (by decide)) fun b l5 _=>Xt.bind (Xt.ite (Xt.isi hz l5) (fun hc=>?_) fun _=>Xt.yes) fun xs l7 _=>Xt.bind (Xt.need hz _ l7) fun _ l8 _=>Xt.bind (Xt.body hz hB _ l8) fun k l9 _=>Xt.yes;rw [Xt.tl (is_ne hc)];exact Xt.bind (hE 0 _ (by decide)) fun c l6 _=>Xt.yes)
      fun _=>Xt.bind (Xt.forG hz (len_z l2)) fun ns l3 _=>Xt.bind (Xt.need hz _ l3) fun _ l4 _=>Xt.bind (Xt.listR hz hE l4) fun xs l5 _=>Xt.bind (Xt.need hz _ l5) fun _ l6 _=>Xt.bind (Xt.body hz hB _ l6) fun k l7 _=>Xt.yes
theorem Xt.leftG:∀ {n n':Nat} {acc e b l},n≤n'→Xt z (leftG E n acc e b l) (leftG E n' acc e b (l++z))
  | 0,_,_,_,_,_,_=>Xt.no
  | n+1,0,_,_,_,_,h=>absurd h (by omega)
  | n+1,n'+1,acc,e,b,l,h=>Xt.ite Iff.rfl (fun _=>Xt.no) fun _=>Xt.ite (Xt.isi hz l) (fun hc=>by rw [Xt.tl (is_ne hc)];exact Xt.bind (Xt.pref hz hE hL _) fun x l1 _=>Xt.leftG (by omega)) fun _=>Xt.yes
theorem Xt.simple (l:List Tk):Xt z (simpleR E l) (simpleR E (l++z)):=by
  by_cases hl:l=[]
  · subst hl;intro v l' e;have:simpleR E []=.bad []:=rfl;rw [this] at e;cases e
  unfold simpleR;rw [Xt.nx hl];exact Xt.bind (Xt.pref hz hE hL l) fun x l1 _=>Xt.ite Iff.rfl (fun _=>Xt.yes) fun _=>Xt.bind (Xt.leftG hz hE hL (len_z l1)) fun ls l2 _=>Xt.bind (Xt.need hz _ l2) fun _ l3 _=>Xt.bind (Xt.listR hz hE l3) fun rs l4 _=>Xt.yes
omit hL in
include hB in
theorem Xt.key (l:List Tk) (hl:l≠[]):Xt z (keyR E B l) (keyR E B (l++z)):=by
  unfold keyR;simp only;rw [Xt.nx hl]
  exact Xt.ite Iff.rfl (fun _=>Xt.local_ hz hE hB l) fun _=>Xt.ite Iff.rfl (fun _=>Xt.func hz hB l) fun _=>Xt.ite Iff.rfl (fun _=>Xt.if_ hz hE hB l) fun _=>Xt.ite Iff.rfl (fun _=>Xt.loop hz hE hB l) fun _ =>
    Xt.ite Iff.rfl (fun _=>Xt.bind (Xt.take l) fun _ l1 _=>Xt.bind (hE 0 l1 (by decide)) fun c l2 _=>Xt.bind (Xt.need hz _ l2) fun _ l3 _=>Xt.bind (Xt.body hz hB _ l3) fun b l4 _=>Xt.yes) fun _ =>
    Xt.ite Iff.rfl (fun _=>Xt.bind (Xt.take l) fun _ l1 _=>Xt.bind (Xt.body hz hB _ l1) fun b l2 _=>Xt.bind (hE 0 l2 (by decide)) fun c l3 _=>Xt.yes) fun _ =>
    Xt.ite Iff.rfl (fun _=>Xt.bind (Xt.take l) fun _ l1 _=>Xt.bind (Xt.body hz hB _ l1) fun b l2 _=>Xt.yes) fun _ =>
    Xt.ite Iff.rfl (fun _=>Xt.bind (Xt.take l) fun _ l1 _=>Xt.yes) fun _ =>
    Xt.ite Iff.rfl (fun _=>Xt.bind (Xt.take l) fun _ l1 _=>Xt.bind (Xt.name hz l1) fun n l2 _=>Xt.yes) fun _=>Xt.no
include hB in
theorem Xt.stat (l:List Tk):Xt z (statR E B l) (statR E B (l++z)) :=
  Xt.ite (Xt.nk hz l) (fun hc=>Xt.key hz hE hB l (kd_ne hc)) fun _=>Xt.ite (Xt.isi hz l) (fun hc=>by
    rw [Xt.tl (is_ne hc),Xt.nx (is_ne hc)];exact Xt.bind (Xt.name hz _) fun n l1 _=>Xt.bind (Xt.need hz _ l1) fun _ l2 _=>Xt.yes) fun _=>Xt.simple hz hE hL l
omit hL in
theorem Xt.ret (l:List Tk):Xs z (retR E l) (retR E (l++z)) :=
  Xs.bindT (Xt.take l) fun t l1 _=>by
    have hk:∀ (t:Tk) (xs:List Ex) (t2:Tk) (l2:List Tk),Xs z (if endsB (if isB [59] (t2::l2)=true then (t2::l2).tail else t2::l2)=true then .ok (St.mk 11 t.line [] [] xs [] ⟨#[]⟩) (if isB [59] (t2::l2)=true then (t2::l2).tail else t2::l2) else .bad (if isB [59] (t2::l2)=true then (t2::l2).tail else t2::l2))
        (if endsB (if isB [59] (t2::l2++z)=true then (t2::l2++z).tail else t2::l2++z)=true then .ok (St.mk 11 t.line [] [] xs [] ⟨#[]⟩) (if isB [59] (t2::l2++z)=true then (t2::l2++z).tail else t2::l2++z) else .bad (if isB [59] (t2::l2++z)=true then (t2::l2++z).tail else t2::l2++z)):=by
      intro t xs t2 l2
      have hi:(if isB [59] (t2::l2++z)=true then (t2::l2++z).tail else t2::l2++z)=(if isB [59] (t2::l2)=true then (t2::l2).tail else t2::l2)++z:=by
        have:isB [59] (t2::l2++z)=isB [59] (t2::l2):=rfl;rw [this];split <;> rfl
      rw [hi];generalize (if isB [59] (t2::l2)=true then (t2::l2).tail else t2::l2)=l3;intro v t' l' e;split at e
      · rename_i h9;cases e;rw [Xt.ends hz (by simp),if_pos h9]
      · cases e
    have h0:∀ (t:Tk) (xs:List Ex) (v:St) (t':Tk) (l':List Tk),(if endsB (if isB [59] ([]:List Tk)=true then ([]:List Tk).tail else [])=true then .ok (St.mk 11 t.line [] [] xs [] ⟨#[]⟩) (if isB [59] ([]:List Tk)=true then ([]:List Tk).tail else []) else .bad (if isB [59] ([]:List Tk)=true then ([]:List Tk).tail else []):Res St)≠.ok v (t'::l'):=by
      intro t xs v t' l' e;simp [isB,endsB] at e
    cases l1 with
    | nil=>intro v t' l' e;exact absurd (h0 t [] v t' l' e) id
    | cons t1 r1 =>
      refine Xs.bind ?_ (fun xs t2 l2=>hk t xs t2 l2) fun xs v t' l'=>h0 t xs v t' l';have h1:isB [59] (t1::r1++z)=isB [59] (t1::r1):=rfl;exact Xs.ite (by rw [Xt.ends hz (by simp),h1]) (fun _=>(Xt.listR hz hE _).s) fun _=>Xt.yes.s
include hB in
theorem Xt.blkG:∀ {n n':Nat} {acc l},n≤n'→Xs z (blkG E B n acc l) (blkG E B n' acc (l++z))
  | 0,_,_,_,_=>Xt.no.s
  | n+1,0,_,_,h=>absurd h (by omega)
  | n+1,n'+1,acc,[],h=>by
    intro v t l e;have:Go.Proofs.YtdekaghipjpgpaaGreatDoor.blkG E B (n+1) acc []=.ok acc []:=rfl;rw [this] at e;cases e
  | n+1,n'+1,acc,t0::r0,h=>Xs.ite (by rw [Xt.ends hz (by simp)]) (fun _=>Xt.yes.s) fun _=>Xs.ite Iff.rfl (fun _=>Xt.blkG (by omega)) fun _=>Xs.ite Iff.rfl (fun _=>Xs.bind (Xt.ret hz hE _) (fun s t l=>Xt.yes.s) fun s v t l e=>by cases e)
      fun _=>Xs.bindT (Xt.stat hz hE hB hL _) fun s l1 _=>Xt.blkG (by omega)
end
end Go.Proofs.YtdekaghipjpgpaaGreatDoor
