import Derived.Test.YtaddbmkkkollpaaGreatDoorE1
set_option linter.all false
namespace Go.Proofs.YtaddbmkkkollpaaGreatDoor
open Go.RowKit
theorem sl (p:UInt8→Bool) (l:Sb):dW p l≤l.length:=(List.takeWhile_sublist _).length_le
theorem uQ {r:Sb} {d:UInt8} {m:Nat} (h:qF r=.ok (d,m)):2≤m∧m≤r.length+1:=by
  cases r with
  | nil=>cases h
  | cons c r =>
    rw [qF] at h;have h1:=sl vD r;have h2:=sl fd (c::r);simp only [List.length_cons] at h2 ⊢;split at h
    · cases h;omega
    · split at h
      · cases h;omega
      · split at h
        · cases h;omega
        · split at h
          · split at h
            · cases h
            · cases h;omega
          · split at h
            · rename_i hd;split at h
              · cases h
              · cases h;have:1≤dW fd (c::r):=by simp [dW,hd]
                omega
            · cases h
theorem yh {q:UInt8}:∀ {n:Nat} {r b:Sb} {k:Nat} {v:Sb} {m:Nat},kL q n r b k=.ok (v,m)→k+1≤m∧m≤k+r.length∧v.length≤4096∨4096<b.length:=by
  intro n
  induction n with
  | zero=>intro r b k v m h;cases h
  | succ n ih =>
    intro r b k v m h;rcases Nat.lt_or_ge 4096 b.length with h9|h9
    · exact .inr h9
    unfold kL at h;cases r with
    | nil=>cases h
    | cons c r' =>
      simp only at h;split at h
      · cases h
      · split at h
        · cases h;simp only [List.length_cons];omega
        · split at h
          · split at h
            · cases h
            · rename_i d m' he;have hl:=uQ he;split at h
              · cases h
              · rcases ih h with h2|h2
                · rw [List.length_drop] at h2;simp only [List.length_cons] at h2 ⊢;omega
                · simp at h2;omega
          · split at h
            · cases h
            · rcases ih h with h2|h2
              · simp only [List.length_cons] at h2 ⊢;omega
              · simp at h2;omega
theorem mf {a ln:Nat} {r:Sb} {t:Tk} {m:Nat} (h:di a ln r=.ok (t,m)):1≤m∧m≤r.length:=by
  cases r with
  | nil=>cases h
  | cons c r' =>
    unfold di at h;simp only at h;split at h
    · rename_i hi;split at h
      · cases h
      · cases h;refine ⟨?_,sl _ _⟩;have:dL c=true:=by simp [dL,hi]
        simp [dW,this]
    · split at h
      · split at h
        · cases h
        · rename_i u hu;split at h
          · cases h
          · split at h
            · cases h
            · cases h;exact ⟨(jA hu).pos,(jA hu).en⟩
      · split at h
        · split at h
          · cases h
          · rename_i b k hs;cases h;rcases yh hs with h2|h2
            · simp only [List.length_cons];omega
            · simp at h2
        · split at h
          · cases h
          · rename_i y hy;cases h;have h1:=List.find?_some hy;have h2:=List.mem_of_find?_eq_some hy;have h3:=(List.isPrefixOf_iff_prefix.1 h1).length_le;refine ⟨?_,h3⟩;have:∀ y ∈ fm,1≤y.length:=by decide
            exact this y h2
theorem Ik:∀ {n m a ln:Nat} {r:Sb} {acc:List Tk},r.length<n→r.length<m→kI n a ln r acc=kI m a ln r acc:=by
  intro n
  induction n with
  | zero=>intro m a ln r acc h;omega
  | succ n ih =>
    intro m a ln r acc hn hm;cases m with
    | zero=>omega
    | succ m =>
      simp only [kI];split
      · rfl
      · rename_i c r1 hd;split
        · rfl
        · rename_i t k ht;have hl:=mf ht;have h2:(c::r1).length≤r.length:=by rw [←hd,List.length_drop];omega
          have h3:((c::r1).drop k).length<r.length:=by rw [List.length_drop];simp only [List.length_cons] at h2 hl ⊢;omega
          exact ih (by omega) (by omega)
def gR (a ln:Nat) (r:Sb) (acc:List Tk):Except (Int × Int) (List Tk):=kI (r.length+1) a ln r acc
theorem nw (a ln:Nat) (r:Sb) (acc:List Tk):gR a ln r acc=match r.drop (aL false r).1 with
    | []=>.ok acc
    | c::r1=>match di (a+(aL false r).1) (ln+(aL false r).2) (c::r1) with
      | .error e=>.error (((ln+(aL false r).2:Nat):Int),e)
      | .ok (t,m)=>gR (a+(aL false r).1+m) (ln+(aL false r).2) ((c::r1).drop m) (acc++[t]):=by
  unfold gR;rw [kI];rcases hd:r.drop (aL false r).1 with _|⟨c,r1⟩
  · rfl
  · have h2:(c::r1).length≤r.length:=by rw [←hd,List.length_drop];omega
    rcases htk:di (a+(aL false r).1) (ln+(aL false r).2) (c::r1) with x|⟨t,k⟩
    · simp [hd,htk]
    · have hl:=mf htk;simp only [hd,htk];exact Ik (by rw [List.length_drop];simp only [List.length_cons] at h2 hl ⊢;omega) (by omega)
theorem pf (l:Sb):fk l=if 65536<l.length then .error (1,3) else gR 0 1 l []:=rfl
theorem jT:∀ (b:Bool) (r:Sb),(aL b r).1≤r.length
  | _,[]=>by simp [aL]
  | true,c::r=>by
    have h1:=jT false r;have h2:=jT true r;unfold aL;split <;> simp only [List.length_cons] <;> omega
  | false,c::r=>by
    have h1:=jT false r;have h2:=jT true r;unfold aL;split
    · simp only [List.length_cons];omega
    · split
      · simp only [List.length_cons];omega
      · split
        · simp only [List.length_cons];omega
        · exact Nat.zero_le _
def dV (l:Sb):Nat:=l.count 10
theorem lZ:∀ (b:Bool) (r:Sb),(aL b r).2=dV (r.take (aL b r).1)
  | _,[]=>by simp [aL,dV]
  | true,c::r=>by
    have h1:=lZ false r;have h2:=lZ true r;unfold aL;split
    · rename_i hc;subst hc;rw [Nat.add_comm 1,List.take_succ_cons];simp only [dV,List.count_cons_self] at h1 ⊢;omega
    · rename_i hc;rw [Nat.add_comm 1,List.take_succ_cons];simp only [dV] at h2 ⊢;rw [List.count_cons_of_ne hc];exact h2
  | false,c::r=>by
    have h1:=lZ false r;have h2:=lZ true r;unfold aL;split
    · rename_i hc;subst hc;rw [Nat.add_comm 1,List.take_succ_cons];simp only [dV,List.count_cons_self] at h1 ⊢;omega
    · rename_i hc;split
      · rw [Nat.add_comm 1,List.take_succ_cons];simp only [dV] at h1 ⊢;rw [List.count_cons_of_ne hc];exact h1
      · split
        · rw [Nat.add_comm 1,List.take_succ_cons];simp only [dV] at h2 ⊢;rw [List.count_cons_of_ne hc];exact h2
        · simp [dV]
structure iF (N M:Nat) (t:Tk):Prop where
  kind:1≤t.kind∧t.kind≤5
  text:t.text.size≤65536
  lo:1≤t.line
  hi:t.line≤N
  pos:0≤t.pos∧t.pos≤M
  num:t.kind=3→fP t.text.data.toList
theorem nJ (l:Sb):(bL l).size=l.length:=by simp [bL,ByteArray.size]
theorem JJ {a ln N M:Nat} {r:Sb} {t:Tk} {m:Nat} (h:di a ln r=.ok (t,m)) (hr:r.length≤65536) (h1:1≤ln) (hN:ln≤N) (hM:a≤M):iF N M t:=by
  have hk:∀ (k:Int) (y:Sb),1≤k∧k≤5→y.length≤65536→(k=3→fP y)→iF N M ⟨k,bL y,ln,a⟩:=fun k y h2 h3 h4=>⟨h2,by rw [nJ];exact h3,by simp only;omega,by simp only;omega,⟨by simp only;omega,by simp only;omega⟩,h4⟩;cases r with
  | nil=>cases h
  | cons c r' =>
    unfold di at h;simp only at h;split at h
    · split at h
      · cases h
      · cases h;refine hk _ _ (by split <;> decide) (by simp only [List.length_take];omega) fun h=>?_;split at h <;> cases h
    · split at h
      · split at h
        · cases h
        · rename_i u hu;split at h
          · cases h
          · rename_i h0;split at h
            · cases h
            · cases h;exact hk _ _ (by decide) (by simp only [List.length_take];omega) fun _=>fP.of_find hu (Decidable.not_not.1 h0)
      · split at h
        · split at h
          · cases h
          · rename_i b k hs;cases h;refine hk _ _ (by decide) ?_ fun h=>by cases h
            rcases yh hs with h2|h2
            · omega
            · simp at h2
        · split at h
          · cases h
          · rename_i y hy;cases h;refine hk _ _ (by decide) ?_ fun h=>by cases h
            have h2:=List.mem_of_find?_eq_some hy;have:∀ y ∈ fm,y.length≤65536:=by decide
            exact this y h2
theorem wU (r:Sb) (k:Nat):dV (r.take k)+dV (r.drop k)=dV r:=by unfold dV;rw [←List.count_append,List.take_append_drop]
theorem Im:∀ (n a ln:Nat) (r:Sb) (acc:List Tk) (N M:Nat),r.length≤n→r.length≤65536→1≤ln→ln+dV r≤N→a+r.length≤M→(∀ t ∈ acc,iF N M t) →
    (∀ L,gR a ln r acc=.ok L→(∀ t ∈ L,iF N M t)∧L.length≤acc.length+r.length)∧∀ l e,gR a ln r acc=.error (l,e)→1≤l∧l≤(N:Int):=by
  intro n
  induction n with
  | zero =>
    intro a ln r acc N M hn hr h1 hN hM hacc;have:r=[]:=List.length_eq_zero_iff.1 (by omega);subst this;rw [nw];simp only [List.drop_nil];exact ⟨fun L h=>by cases h;exact ⟨hacc,Nat.le_add_right _ _⟩,fun l e h=>by cases h⟩
  | succ n ih =>
    intro a ln r acc N M hn hr h1 hN hM hacc;have hk:=jT false r;have hnl:=lZ false r;have hsp:=wU r (aL false r).1;rw [nw];generalize (aL false r).2=q at *;generalize (aL false r).1=k at *;split
    · exact ⟨fun L h=>by cases h;exact ⟨hacc,Nat.le_add_right _ _⟩,fun l e h=>by cases h⟩
    · rename_i c r1 hd;have hl:(c::r1).length=r.length - k:=by rw [←hd,List.length_drop]
      split
      · rename_i e he;refine ⟨(fun L h=>by cases h),fun l e h=>?_⟩;cases h;omega
      · rename_i t m ht;have hm:=mf ht;have hs2:=wU (c::r1) m;rw [hd] at hsp;have hl2:((c::r1).drop m).length=r.length - k - m:=by rw [List.length_drop,hl]
        have h5:=ih (a+k+m) (ln+q) ((c::r1).drop m) (acc++[t]) N M (by omega) (by omega) (by omega) (by omega) (by omega) (fun t' ht'=>by
          rcases List.mem_append.1 ht' with h|h
          · exact hacc _ h
          · rw [List.mem_singleton.1 h];exact JJ ht (by omega) (by omega) (by omega) (by omega))
        refine ⟨fun L h=>?_,h5.2⟩;have h6:=h5.1 L h;exact ⟨h6.1,by have:=h6.2;simp only [List.length_append,List.length_singleton] at this;omega⟩
theorem ph {l:Sb} {L:List Tk} (h:fk l=.ok L):(∀ t ∈ L,iF (1+dV l) l.length t)∧L.length≤l.length∧l.length≤65536:=by
  rw [pf] at h;split at h
  · cases h
  · have:=(Im l.length 0 1 l [] (1+dV l) l.length (KU _) (by omega) (KU _) (KU _) (by omega) (fun t h=>by cases h)).1 L h;exact ⟨this.1,by simpa using this.2,by omega⟩
def zW (z:Sb):Prop:=∃ c r,z=c::r∧(c=10∨c=32)
section
variable {z:Sb} (hz:zW z)
include hz
end
theorem xR (c:UInt8) (r:Sb):aL true (c::r)=if c=10 then (1+(aL false r).1,1+(aL false r).2) else (1+(aL true r).1,(aL true r).2):=rfl
theorem xP (c:UInt8) (r:Sb):aL false (c::r)=if c=10 then (1+(aL false r).1,1+(aL false r).2) else if c=32∨c=9∨c=13 then (1+(aL false r).1,(aL false r).2)
    else if c=45∧r.head?=some 45 then (1+(aL true r).1,(aL true r).2) else (0,0):=rfl
def po:List Tk→Nat
  | []=>0
  | t::r=>8+t.text.size+po r
def Pe {α:Type} (r:az α) (s:α→Nat) (k:Nat):Prop:=∀ v l,r=.ok v l→po l+s v≤k
section
variable {α β:Type} {m:az α} {f:α→List Tk→az β} {s:α→Nat} {t:β→Nat} {k k':Nat}
theorem Pe.bind (h:Pe m s k) (g:∀ x l,po l+s x≤k→Pe (f x l) t k'):Pe (m.bind f) t k':=by
  cases m with
  | ok x l=>exact g x l (h x l rfl)
  | bad l=>intro v l' h;cases h
theorem Pe.mono (h:Pe m s k) (hk:k≤k'):Pe m s k':=fun v l e=>KT (h v l e) hk
theorem Pe.yes {v:α} {l:List Tk} (h:po l+s v≤k):Pe (.ok v l) s k:=fun v' l' e=>by cases e;exact h
theorem Pe.no {l:List Tk}:Pe (.bad l:az α) s k:=fun v' l' e=>by cases e
theorem Pe.ite {c:Prop} [Decidable c] {m':az α} (h1:c→Pe m s k) (h2:¬ c→Pe m' s k):Pe (if c then m else m') s k:=by
  split
  · exact h1 (by assumption)
  · exact h2 (by assumption)
end
theorem nr {l:List Tk} (h:l≠[]):po l.tail+(8+(aa l).text.size)≤po l:=by cases l with|nil=>exact absurd rfl h|cons t r=>show po r+(8+t.text.size)≤8+t.text.size+po r;omega
theorem dv (l:List Tk):po l.tail≤po l:=by cases l with|nil=>exact KU _|cons t r=>show po r≤8+t.text.size+po r;omega
theorem fF {s:Sb} {l:List Tk} (h:ar s l=true):po l.tail+(8+(aa l).text.size)≤po l:=nr (by rintro rfl;cases h)
theorem r7 {k:Int} {l:List Tk} (h:(aa l).kind=k) (h0:k≠0):po l.tail+(8+(aa l).text.size)≤po l:=nr (by rintro rfl;exact h0 h.symm)
theorem fM (l:List Tk):Pe (bJ l) (fun t=>8+t.text.size) (po l):=by cases l with|nil=>exact Pe.no|cons t r=>exact Pe.yes (by show po r+_≤8+t.text.size+po r;omega)
theorem dn (s:Sb) (l:List Tk):Pe (bz s l) (fun t=>8+t.text.size) (po l):=Pe.ite (fun _=>fM l) fun _=>Pe.no
theorem gh (l:List Tk):Pe (bI l) (fun t=>8+t.text.size) (po l):=Pe.ite (fun _=>fM l) fun _=>Pe.no
theorem ja (a b:List Ex):Ex.wzs (a++b)=Ex.wzs a+Ex.wzs b:=by induction a with|nil=>simp [Ex.wzs]|cons x r ih=>simp [Ex.wzs,ih];omega
theorem yR (a b:List St):St.wzs (a++b)=St.wzs a+St.wzs b:=by induction a with|nil=>simp [St.wzs]|cons x r ih=>simp [St.wzs,ih];omega
theorem sD (a b:List (List St)):St.wzss (a++b)=St.wzss a+St.wzss b:=by induction a with|nil=>simp [St.wzss]|cons x r ih=>simp [St.wzss,ih];omega
theorem pK (k l:Int):(nd k l).wz=1:=rfl
theorem i8 (k l:Int) (s:ByteArray):(bE k l s).wz=1+s.size:=by simp [bE,Ex.wz,Ex.wzs,Fn.wzs]
theorem iv (k l:Int) (a:List Ex):(ck k l a).wz=1+Ex.wzs a:=by show 1+(0:Nat)+Ex.wzs a+0=1+Ex.wzs a;omega
theorem nP (k o l p q:Int) (s:ByteArray) (a:List Ex) (f:List Fn):(Ex.mk k o l p q s a f).wz=1+s.size+Ex.wzs a+Fn.wzs f:=rfl
theorem KE (n:ByteArray) (p:List ByteArray) (v:Bool) (b:List St) (l:Int):(Fn.mk n p v b l).wz=1+St.wzs b:=rfl
theorem eA (k l:Int) (n:List (ByteArray × Int)) (a b:List Ex) (c:List (List St)) (t:ByteArray):(St.mk k l n a b c t).wz=1+Ex.wzs a+Ex.wzs b+St.wzss c:=rfl
theorem bV (x:Ex) (r:List Ex):Ex.wzs (x::r)=x.wz+Ex.wzs r:=rfl
theorem bg:Ex.wzs []=0:=rfl
theorem KD (x:Fn) (r:List Fn):Fn.wzs (x::r)=x.wz+Fn.wzs r:=rfl
theorem nO:Fn.wzs []=0:=rfl
theorem yS (x:St) (r:List St):St.wzs (x::r)=x.wz+St.wzs r:=rfl
theorem sE:St.wzs []=0:=rfl
theorem gV (x:List St) (r:List (List St)):St.wzss (x::r)=1+St.wzs x+St.wzss r:=rfl
theorem dw:St.wzss []=0:=rfl
theorem pl:(⟨#[]⟩:ByteArray).size=0:=rfl
def cD (E:EF):Prop:=∀ lim l,Pe (E lim l) (fun x=>x.wz+4) (po l)
def eT (B:BF):Prop:=∀ l,Pe (B l) St.wzs (po l)
variable {E:EF} {B:BF}
theorem wj (hE:cD E):∀ n acc l,Pe (jG E n acc l) Ex.wzs (po l+Ex.wzs acc)
  | 0,_,_=>Pe.no
  | n+1,acc,l=>Pe.ite (fun hc=>(hE 0 l.tail).bind fun x l1 h=>(wj hE n _ _).mono (by have:=fF hc;simp only [ja,bV,bg];omega)) fun _=>Pe.yes (KU _)
theorem ng (hE:cD E) (l:List Tk):Pe (eH E l) (fun v=>Ex.wzs v+4) (po l):=(hE 0 l).bind fun x l1 h v l' e=>by
  have:=wj hE _ _ _ v l' e;simp only [bV,bg] at this;show po l'+(Ex.wzs v+4)≤po l;omega
theorem ED (hE:cD E) (l:List Tk):Pe (rt E l) (fun x=>x.wz+3) (po l) :=
  Pe.ite (fun hc=>(hE 0 _).bind fun _ l1 h1=>(dn _ l1).bind fun _ l2 h2=>(dn _ l2).bind fun _ l3 h3=>(hE 0 l3).bind fun _ l4 h4=>Pe.yes (by have:=fF hc;simp only [iv,bV,bg];omega))
    fun _=>Pe.ite (fun hc=>(hE 0 _).bind fun _ l1 h1=>Pe.yes (by
      match l,hc with
      | t::u::r,_ =>
        have e1:po (t::u::r)=8+t.text.size+(8+u.text.size+po r):=rfl;have e2:po ((t::u::r).drop 2)=po r:=rfl;have e3:(aa (t::u::r)).text=t.text:=rfl;simp only [iv,bV,bg,i8,e3];omega)) fun _=>(hE 0 l).bind fun _ l1 h1=>Pe.yes (by simp only [iv,bV,bg];omega)
theorem sx (hE:cD E):∀ n acc l,Pe (nH E n acc l) Ex.wzs (po l+Ex.wzs acc)
  | 0,_,_=>Pe.no
  | n+1,acc,l=>Pe.ite (fun hc=>Pe.yes (KU _)) fun _=>(ED hE l).bind fun x l1 h=>Pe.ite (fun hc=>(sx hE n _ _).mono (by have:=dv l1;simp only [ja,bV,bg];omega)) fun _=>Pe.ite (fun hc=>(sx hE n _ _).mono (by have:=dv l1;simp only [ja,bV,bg];omega)) fun _=>Pe.yes (by simp only [ja,bV,bg];omega)
theorem yx (hE:cD E) (l:List Tk):Pe (nI E l) (fun x=>x.wz+4) (po l) :=
  (fM l).bind fun t l1 h1=>(sx hE _ _ _).bind fun xs l2 h2=>(dn _ l2).bind fun _ l3 h3=>Pe.yes (by simp only [iv,bg] at *;omega)
theorem AL (hE:cD E) (l:List Tk):Pe (og E l) (fun x=>x.wz+4) (po l) :=
  Pe.ite (fun hc=>Pe.yes (by have:=r7 hc (by decide);simp only [i8];omega)) fun _=>yx hE l
theorem tz (hE:cD E) (e:Ex) (l:List Tk):Pe (gA E e l) (fun v=>Ex.wzs v+4) (po l+e.wz):=by
  refine Pe.ite (fun hc=>?_) fun _=>(AL hE l).bind fun x l1 h1=>Pe.yes (by simp only [bV,bg];omega);have ht:=fF hc;exact Pe.ite (fun _=>(dn _ _).bind fun _ l3 h3=>Pe.yes (by simp only [bV,bg];omega)) fun _=>(ng hE _).bind fun xs l1 h1=>(dn _ l1).bind fun _ l3 h3=>Pe.yes (by simp only [ja,bV,bg];omega)
theorem Eb (hE:cD E) (l:List Tk):Pe (oF E l) (fun x=>x.1.wz+4) (po l) :=
  Pe.ite (fun hc=>(hE 0 _).bind fun e l1 h1=>(dn _ l1).bind fun _ l2 h2=>Pe.yes (by have:=fF hc;simp only;split <;> (try simp only [iv,bV,bg]) <;> omega)) fun _=>(gh l).bind fun n l1 h1=>Pe.yes (by simp only [i8];omega)
theorem nD (hE:cD E):∀ n e b l,Pe (ez E n e b l) (fun x=>x.1.wz) (po l+e.wz)
  | 0,_,_,_=>Pe.no
  | n+1,e,b,l =>
    Pe.ite (fun hc=>(gh _).bind fun k l1 h1=>(nD hE n _ _ _).mono (by have:=fF hc;simp only [iv,i8,bV,bg];omega)) fun _ =>
    Pe.ite (fun hc=>(hE 0 _).bind fun k l1 h1=>(dn _ l1).bind fun _ l2 h2=>(nD hE n _ _ _).mono (by have:=fF hc;simp only [iv,i8,bV,bg];omega)) fun _ =>
    Pe.ite (fun hc=>(gh _).bind fun k l1 h1=>Pe.ite (fun hc1=>(tz hE e l1).bind fun a l2 h2=>(nD hE n _ _ _).mono (by have:=fF hc;simp only [nP,nO];omega)) fun _=>Pe.no) fun _ =>
    Pe.ite (fun hc=>(tz hE e l).bind fun a l1 h1=>(nD hE n _ _ _).mono (by simp only [iv];omega)) fun _=>Pe.yes (KU _)
theorem se (hE:cD E) (l:List Tk):Pe (fj E l) (fun x=>x.1.wz+4) (po l):=(Eb hE l).bind fun x l1 h1 v l' h=>by
  have:po l'+v.1.wz≤po l1+x.1.wz:=nD hE _ _ _ _ v l' h;show po l'+(v.1.wz+4)≤po l;omega
theorem xo:∀ n ps l,Pe (gP n ps l) (fun _=>0) (po l)
  | 0,_,_=>Pe.no
  | n+1,ps,l=>Pe.ite (fun hc=>Pe.yes (by have:=dv l;omega)) fun _=>(gh l).bind fun t l1 h1=>Pe.ite (fun hc=>(xo n _ _).mono (by have:=dv l1;omega)) fun _=>Pe.yes (by omega)
theorem lm (hB:eT B) (e:Sb) (l:List Tk):Pe (fU B e l) (fun b=>St.wzs b+8) (po l):=(hB l).bind fun b l1 h1=>(dn _ l1).bind fun _ l2 h2=>Pe.yes (by omega)
theorem qq (hB:eT B) (line:Int) (name:ByteArray) (self:Bool) (l:List Tk):Pe (el B line name self l) (fun x=>x.wz+4) (po l) :=
  (dn _ l).bind fun _ l1 h1=>Pe.bind (s:=fun _=>0) (k:=po l1) (Pe.ite (fun hc=>Pe.yes (KU _)) fun hc=>xo _ _ _) fun ps l2 h2=>(dn _ l2).bind fun _ l3 h3 =>
    (lm hB _ l3).bind fun b l4 h4=>Pe.yes (by simp only [nP,bg,KD,nO,KE,pl];omega)
theorem Hp (hE:cD E) (hB:eT B) (l:List Tk):Pe (jQ E B l) (fun x=>x.wz+4) (po l) :=
  Pe.ite (fun hc=>Pe.yes (by have:=r7 hc (by decide);simp only [nP,bg,nO,pl];omega)) fun _=>Pe.ite (fun hc=>Pe.yes (by have:=r7 hc (by decide);simp only [i8];omega)) fun _=>Pe.ite (fun hc=>Pe.yes (by have:=fF hc;simp only [pK];omega)) fun _=>Pe.ite (fun hc=>Pe.yes (by have:=fF hc;simp only [pK];omega)) fun _=>Pe.ite (fun hc=>Pe.yes (by have:=fF hc;simp only [pK];omega)) fun _ =>
  Pe.ite (fun hc=>Pe.yes (by have:=fF hc;simp only [pK];omega)) fun _=>Pe.ite (fun hc=>(qq hB _ _ _ _).mono (dv l)) fun _=>Pe.ite (fun hc=>yx hE l) fun _=>(se hE l).bind fun x l1 h1=>Pe.yes h1
theorem tF (hE:cD E) (lim:Int):∀ n e l,Pe (fx E lim n e l) (fun x=>x.wz) (po l+e.wz)
  | 0,_,_=>Pe.no
  | n+1,e,l=>Pe.ite (fun _=>Pe.yes (KU _)) fun _=>(hE _ _).bind fun x l1 h1=>(tF hE lim n _ _).mono (by have:=dv l;simp only [nP,bV,bg,nO,pl];omega)
theorem J1 (hE:cD E) (hB:eT B) (l:List Tk):Pe (mj E B l) (fun x=>x.wz+4) (po l):=Pe.ite (fun hc=>(hE _ _).bind fun x l1 h1=>Pe.yes (by
  have:=nr (l:=l) (by rintro rfl;exact hc rfl);simp only [nP,bV,bg,nO,pl];omega)) fun _=>Hp hE hB l
theorem CL (hE:cD E) (hB:eT B) (lim:Int) (l:List Tk):Pe (mW E B lim l) (fun x=>x.wz+4) (po l):=(J1 hE hB l).bind fun e l1 h1 v l' h=>by
  have:po l'+v.wz≤po l1+e.wz:=tF hE lim _ _ _ v l' h;show po l'+(v.wz+4)≤po l;omega
theorem Ac (l:List Tk):Pe (qb l) (fun _=>0) (po l):=Pe.ite (fun _=>Pe.yes (dv l)) fun _=>Pe.ite (fun _=>Pe.yes (dv l)) fun _=>Pe.no
theorem Af (l:List Tk):Pe (lh l) (fun _=>0) (po l) :=
  Pe.ite (fun hc=>(Ac _).bind fun a l1 h1=>(dn _ l1).bind fun _ l2 h2=>Pe.yes (by have:=dv l;omega)) fun _=>Pe.yes (KU _)
theorem wQ:∀ n ns l,Pe (fD n ns l) (fun _=>0) (po l)
  | 0,_,_=>Pe.no
  | n+1,ns,l=>(gh l).bind fun t l1 h1=>(Af l1).bind fun a l2 h2=>Pe.ite (fun hc=>(wQ n _ _).mono (by have:=dv l2;omega)) fun _=>Pe.yes (by omega)
theorem Fm (hE:cD E) (hB:eT B) (l:List Tk):Pe (jH E B l) (fun s=>s.wz) (po l) :=
  (fM l).bind fun t l1 h1=>Pe.ite (fun hc=>(gh _).bind fun n l2 h2=>(qq hB _ _ _ _).bind fun f l3 h3=>Pe.yes (by have:=dv l1;simp only [eA,bV,bg,dw];omega)) fun _ =>
    (wQ _ _ _).bind fun ns l2 h2=>Pe.ite (fun hc=>(ng hE _).bind fun xs l3 h3=>Pe.yes (by have:=dv l2;simp only [eA,bg,dw];omega)) fun _=>Pe.yes (by simp only [eA,bg,dw];omega)
theorem xt:∀ n e s l,Pe (jN n e s l) (fun x=>x.1.wz) (po l+e.wz)
  | 0,_,_,_=>Pe.no
  | n+1,e,s,l=>Pe.ite (fun hc=>(gh _).bind fun k l1 h1=>Pe.ite (fun _=>Pe.yes (by have:=nr (l:=l) (by rintro rfl;rcases hc with hc|hc <;> cases hc);simp only [iv,i8,bV,bg];omega))
      fun _=>(xt n _ _ _).mono (by have:=nr (l:=l) (by rintro rfl;rcases hc with hc|hc <;> cases hc);simp only [iv,i8,bV,bg];omega)) fun _=>Pe.yes (KU _)
theorem DY (hB:eT B) (l:List Tk):Pe (jD B l) (fun s=>s.wz) (po l) :=
  (fM l).bind fun f l1 h1=>(gh l1).bind fun t l2 h2=>(xt _ _ _ _).bind fun x l3 h3=>(qq hB _ _ _ _).bind fun c l4 h4=>Pe.yes (by simp only [eA,bV,bg,dw,i8] at *;omega)
theorem vF (hE:cD E) (hB:eT B):∀ n cs bs l,Pe (oG E B n cs bs l) (fun v=>Ex.wzs v.1+St.wzss v.2) (po l+(Ex.wzs cs+St.wzss bs))
  | 0,_,_,_=>Pe.no
  | n+1,cs,bs,l=>(hE 0 l).bind fun c l1 h1=>(dn _ l1).bind fun _ l2 h2=>(hB l2).bind fun b l3 h3=>Pe.ite (fun hc=>(vF hE hB n _ _ _).mono (by have:=dv l3;simp only [ja,sD,bV,bg,gV,dw];omega)) fun _=>Pe.yes (by simp only [ja,sD,bV,bg,gV,dw];omega)
theorem Ed (hE:cD E) (hB:eT B) (l:List Tk):Pe (qX E B l) (fun s=>s.wz) (po l) :=
  (fM l).bind fun t l1 h1=>(vF hE hB _ _ _ _).bind fun x l2 h2=>Pe.bind (s:=fun bs=>St.wzss bs) (k:=po l2+St.wzss x.2) (Pe.ite (fun hc=>(hB _).bind fun b l3 h3=>Pe.yes (by have:=fF hc;simp only [sD,gV,dw];omega)) fun _=>Pe.yes (KU _)) fun bs l4 h4=>(dn _ l4).bind fun _ l5 h5=>Pe.yes (by simp only [eA,bg,dw] at *;omega)
theorem vd:∀ n ns l,Pe (oD n ns l) (fun _=>0) (po l)
  | 0,_,_=>Pe.no
  | n+1,ns,l=>Pe.ite (fun hc=>(gh _).bind fun t l1 h1=>(vd n _ _).mono (by have:=dv l;omega)) fun _=>Pe.yes (KU _)
theorem Fs (hE:cD E) (hB:eT B) (l:List Tk):Pe (rG E B l) (fun s=>s.wz) (po l) :=
  (fM l).bind fun t l1 h1=>(gh l1).bind fun n l2 h2=>Pe.ite (fun hc=>(hE 0 _).bind fun a l3 h3=>(dn _ l3).bind fun _ l4 h4=>(hE 0 l4).bind fun b l5 h5 =>
    Pe.bind (s:=fun xs=>Ex.wzs xs) (k:=po l5+(a.wz+b.wz)) (Pe.ite (fun hc=>(hE 0 _).bind fun c l6 h6=>Pe.yes (by have:=dv l5;simp only [bV,bg];omega)) fun _=>Pe.yes (by simp only [bV,bg];omega)) fun xs l7 h7=>(dn _ l7).bind fun _ l8 h8=>(lm hB _ l8).bind fun k l9 h9=>Pe.yes (by have:=dv l2;simp only [eA,bg,gV,dw];omega))
    fun _=>(vd _ _ _).bind fun ns l3 h3=>(dn _ l3).bind fun _ l4 h4=>(ng hE l4).bind fun xs l5 h5=>(dn _ l5).bind fun _ l6 h6=>(lm hB _ l6).bind fun k l7 h7=>Pe.yes (by simp only [eA,bg,gV,dw];omega)
theorem v8 (hE:cD E):∀ n acc e b l,Pe (gb E n acc e b l) Ex.wzs (po l+(Ex.wzs acc+e.wz))
  | 0,_,_,_,_=>Pe.no
  | n+1,acc,e,b,l=>Pe.ite (fun _=>Pe.no) fun _=>Pe.ite (fun hc=>(se hE _).bind fun x l1 h1=>(v8 hE n _ _ _ _).mono (by have:=dv l;simp only [ja,bV,bg];omega)) fun _=>Pe.yes (by simp only [ja,bV,bg];omega)
theorem Iw (hE:cD E) (l:List Tk):Pe (jS E l) (fun s=>s.wz) (po l) :=
  (se hE l).bind fun x l1 h1=>Pe.ite (fun _=>Pe.yes (by simp only [eA,bV,bg,dw];omega)) fun _=>(v8 hE _ _ _ _ _).bind fun ls l2 h2=>(dn _ l2).bind fun _ l3 h3=>(ng hE l3).bind fun rs l4 h4=>Pe.yes (by simp only [eA,bg,dw] at *;omega)
theorem ES (hE:cD E) (hB:eT B) (l:List Tk):Pe (oL E B l) (fun s=>s.wz) (po l) :=
  Pe.ite (fun _=>Fm hE hB l) fun _=>Pe.ite (fun _=>DY hB l) fun _=>Pe.ite (fun _=>Ed hE hB l) fun _=>Pe.ite (fun _=>Fs hE hB l) fun _ =>
  Pe.ite (fun _=>(fM l).bind fun _ l1 h1=>(hE 0 l1).bind fun c l2 h2=>(dn _ l2).bind fun _ l3 h3=>(lm hB _ l3).bind fun b l4 h4=>Pe.yes (by simp only [eA,bV,bg,gV,dw];omega)) fun _ =>
  Pe.ite (fun _=>(fM l).bind fun _ l1 h1=>(lm hB _ l1).bind fun b l2 h2=>(hE 0 l2).bind fun c l3 h3=>Pe.yes (by simp only [eA,bV,bg,gV,dw];omega)) fun _ =>
  Pe.ite (fun _=>(fM l).bind fun _ l1 h1=>(lm hB _ l1).bind fun b l2 h2=>Pe.yes (by simp only [eA,bV,bg,gV,dw];omega)) fun _ =>
  Pe.ite (fun _=>(fM l).bind fun _ l1 h1=>Pe.yes (by simp only [pr,eA,bV,bg,gV,dw];omega)) fun _=>Pe.ite (fun _=>(fM l).bind fun _ l1 h1=>(gh l1).bind fun n l2 h2=>Pe.yes (by simp only [eA,bV,bg,gV,dw];omega)) fun _=>Pe.no
theorem I1 (hE:cD E) (hB:eT B) (l:List Tk):Pe (kK E B l) (fun s=>s.wz) (po l) :=
  Pe.ite (fun _=>ES hE hB l) fun _=>Pe.ite (fun hc=>(gh _).bind fun n l1 h1=>(dn _ l1).bind fun _ l2 h2=>Pe.yes (by have:=fF hc;simp only [eA,bV,bg,gV,dw];omega)) fun _=>Iw hE l
theorem Ic (hE:cD E) (l:List Tk):Pe (iW E l) (fun s=>s.wz) (po l) :=
  (fM l).bind fun t l1 h1=>Pe.bind (s:=fun xs=>Ex.wzs xs) (k:=po l1) (Pe.ite (fun _=>fun v l' e=>by have:po l'+(Ex.wzs v+4)≤po l1:=ng hE l1 v l' e;show po l'+Ex.wzs v≤_;omega) fun _=>Pe.yes (KU _)) fun xs l2 h2 =>
    Pe.ite (fun _=>Pe.yes (by have:=dv l2;simp only [eA,bg,dw];split <;> omega)) fun _=>Pe.no
theorem qh (hE:cD E) (hB:eT B):∀ n acc l,Pe (gC E B n acc l) St.wzs (po l+St.wzs acc)
  | 0,_,_=>Pe.no
  | n+1,acc,l=>Pe.ite (fun _=>Pe.yes (KU _)) fun _=>Pe.ite (fun hc=>(qh hE hB n _ _).mono (by have:=dv l;omega)) fun _=>Pe.ite (fun _=>(Ic hE l).bind fun s l1 h1=>Pe.yes (by simp only [yR,yS,sE];omega)) fun _=>(I1 hE hB l).bind fun s l1 h1=>(qh hE hB n _ _).mono (by simp only [yR,yS,sE];omega)
theorem mz:∀ n,cD (EB n).1∧eT (EB n).2
  | 0=>⟨fun _ _=>Pe.no,fun _=>Pe.no⟩
  | n+1=>⟨fun lim l=>CL (mz n).1 (mz n).2 lim l,fun l=>(qh (mz n).1 (mz n).2 _ _ _).mono (by simp [sE])⟩
theorem zp {P:Prop} (h:P:=by
  split at h
  · cases h
  · have:=ih h;simp only [List.length_append,List.length_singleton] at this;omega):P:=h
theorem I8 {q:UInt8}:∀ {n:Nat} {r b:Sb} {k:Nat} {v:Sb} {m:Nat},kL q n r b k=.ok (v,m)→v.length+k≤m+b.length:=by
  intro n
  induction n with
  | zero=>intro r b k v m h;cases h
  | succ n ih =>
    intro r b k v m h;unfold kL at h;cases r with
    | nil=>cases h
    | cons c r' =>
      simp only at h;split at h
      · cases h
      · split at h
        · cases h;omega
        · split at h
          · split at h
            · cases h
            · rename_i d m' he;have hl:=uQ he;exact zp
          · exact zp
theorem JK {a ln:Nat} {r:Sb} {t:Tk} {m:Nat} (h:di a ln r=.ok (t,m)):t.text.size≤m:=by
  cases r with
  | nil=>cases h
  | cons c r' =>
    unfold di at h;simp only at h;split at h
    · split at h
      · cases h
      · cases h;simp only [nJ,List.length_take];omega
    · split at h
      · split at h
        · cases h
        · split at h
          · cases h
          · split at h
            · cases h
            · cases h;simp only [nJ,List.length_take];omega
      · split at h
        · split at h
          · cases h
          · rename_i b k hs;cases h;have:=I8 hs;simp only [nJ];simp at this;omega
        · split at h
          · cases h
          · cases h;simp only [nJ];omega
theorem Hj (a b:List Tk):po (a++b)=po a+po b:=by induction a with|nil=>simp [po]|cons x r ih=>simp [po,ih];omega
theorem In:∀ (n a ln:Nat) (r:Sb) (acc L:List Tk),r.length≤n→gR a ln r acc=.ok L→po L≤po acc+9*r.length:=by
  intro n
  induction n with
  | zero =>
    intro a ln r acc L hn h;have:r=[]:=List.length_eq_zero_iff.1 (by omega);subst this;rw [nw] at h;simp only [List.drop_nil] at h;cases h;omega
  | succ n ih =>
    intro a ln r acc L hn h;have hk:=jT false r;rw [nw] at h;rcases hd:r.drop (aL false r).1 with _|⟨c,r1⟩
    · rw [hd] at h;cases h;omega
    · have hl:(c::r1).length=r.length - (aL false r).1:=by rw [←hd,List.length_drop]
      rw [hd] at h;simp only at h;rcases htk:di (a+(aL false r).1) (ln+(aL false r).2) (c::r1) with x|⟨t,m⟩
      · rw [htk] at h;cases h
      · rw [htk] at h;simp only at h;have hm:=mf htk;have ht:=JK htk;have:=ih _ _ _ _ _ (by rw [List.length_drop];omega) h;rw [Hj,List.length_drop] at this;simp only [po] at this;omega
theorem Il {l:Sb} {L:List Tk} (h:fk l=.ok L):po L≤589824:=by
  rw [pf] at h;split at h
  · cases h
  · have:=In l.length 0 1 l [] L (KU _) h;simp only [po] at this;omega
