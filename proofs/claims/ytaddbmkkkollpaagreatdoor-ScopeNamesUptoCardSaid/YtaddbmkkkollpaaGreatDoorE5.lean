/- Pure laws of the scanner: how much a token is, that fuel does not count, texts one behind the other. -/
import Derived.Test.YtaddbmkkkollpaaGreatDoorE1
namespace Go.Proofs.YtaddbmkkkollpaaGreatDoor
open Go.RowKit
set_option linter.unusedVariables false
set_option linter.unusedSimpArgs false
theorem spanB_le (p:UInt8→Bool) (l:Sb):spanB p l≤l.length:=(List.takeWhile_sublist _).length_le
theorem escL_len {r:Sb} {d:UInt8} {m:Nat} (h:escL r=.ok (d,m)):2≤m∧m≤r.length+1:=by
  cases r with
  | nil=>cases h
  | cons c r =>
    rw [escL] at h;have h1:=spanB_le hexB r;have h2:=spanB_le digB (c::r);simp only [List.length_cons] at h2 ⊢;split at h
    · cases h;omega
    · split at h
      · cases h;omega
      · split at h
        · cases h;omega
        · split at h
          · split at h
            · cases h
            · cases h;omega
          · split at h
            · rename_i hd;split at h
              · cases h
              · cases h;have:1≤spanB digB (c::r):=by simp [spanB,hd]
                omega
            · cases h
theorem strG_len {q:UInt8}:∀ {n:Nat} {r b:Sb} {k:Nat} {v:Sb} {m:Nat},strG q n r b k=.ok (v,m)→k+1≤m∧m≤k+r.length∧v.length≤4096∨4096<b.length:=by
  intro n
  induction n with
  | zero=>intro r b k v m h;cases h
  | succ n ih =>
    intro r b k v m h;rcases Nat.lt_or_ge 4096 b.length with h9|h9
    · exact .inr h9
    unfold strG at h;cases r with
    | nil=>cases h
    | cons c r' =>
      simp only at h;split at h
      · cases h
      · split at h
        · cases h;simp only [List.length_cons];omega
        · split at h
          · split at h
            · cases h
            · rename_i d m' he;have hl:=escL_len he;split at h
              · cases h
              · rcases ih h with h2|h2
                · rw [List.length_drop] at h2;simp only [List.length_cons] at h2 ⊢;omega
                · simp at h2;omega
          · split at h
            · cases h
            · rcases ih h with h2|h2
              · simp only [List.length_cons] at h2 ⊢;omega
              · simp at h2;omega
theorem tokL_len {a ln:Nat} {r:Sb} {t:Tk} {m:Nat} (h:tokL a ln r=.ok (t,m)):1≤m∧m≤r.length:=by
  cases r with
  | nil=>cases h
  | cons c r' =>
    unfold tokL at h;simp only at h;split at h
    · rename_i hi;split at h
      · cases h
      · cases h;refine ⟨?_,spanB_le _ _⟩;have:wordB c=true:=by simp [wordB,hi]
        simp [spanB,this]
    · split at h
      · split at h
        · cases h
        · rename_i u hu;split at h
          · cases h
          · split at h
            · cases h
            · cases h;exact ⟨(findN_ok hu).pos,(findN_ok hu).en⟩
      · split at h
        · split at h
          · cases h
          · rename_i b k hs;cases h;rcases strG_len hs with h2|h2
            · simp only [List.length_cons];omega
            · simp at h2
        · split at h
          · cases h
          · rename_i y hy;cases h;have h1:=List.find?_some hy;have h2:=List.mem_of_find?_eq_some hy;have h3:=(List.isPrefixOf_iff_prefix.1 h1).length_le;refine ⟨?_,h3⟩;have:∀ y ∈ symsL,1≤y.length:=by decide
            exact this y h2
theorem scanG_fuel:∀ {n m a ln:Nat} {r:Sb} {acc:List Tk},r.length<n→r.length<m→scanG n a ln r acc=scanG m a ln r acc:=by
  intro n
  induction n with
  | zero=>intro m a ln r acc h;omega
  | succ n ih =>
    intro m a ln r acc hn hm;cases m with
    | zero=>omega
    | succ m =>
      simp only [scanG];split
      · rfl
      · rename_i c r1 hd;split
        · rfl
        · rename_i t k ht;have hl:=tokL_len ht;have h2:(c::r1).length≤r.length:=by rw [←hd,List.length_drop];omega
          have h3:((c::r1).drop k).length<r.length:=by rw [List.length_drop];simp only [List.length_cons] at h2 hl ⊢;omega
          exact ih (by omega) (by omega)
def scanX (a ln:Nat) (r:Sb) (acc:List Tk):Except (Int × Int) (List Tk):=scanG (r.length+1) a ln r acc
theorem scanX_eq (a ln:Nat) (r:Sb) (acc:List Tk):scanX a ln r acc=match r.drop (skipL false r).1 with
    | []=>.ok acc
    | c::r1=>match tokL (a+(skipL false r).1) (ln+(skipL false r).2) (c::r1) with
      | .error e=>.error (((ln+(skipL false r).2:Nat):Int),e)
      | .ok (t,m)=>scanX (a+(skipL false r).1+m) (ln+(skipL false r).2) ((c::r1).drop m) (acc++[t]):=by
  unfold scanX;rw [scanG];rcases hd:r.drop (skipL false r).1 with _|⟨c,r1⟩
  · rfl
  · have h2:(c::r1).length≤r.length:=by rw [←hd,List.length_drop];omega
    rcases htk:tokL (a+(skipL false r).1) (ln+(skipL false r).2) (c::r1) with x|⟨t,k⟩
    · simp [hd,htk]
    · have hl:=tokL_len htk;simp only [hd,htk];exact scanG_fuel (by rw [List.length_drop];simp only [List.length_cons] at h2 hl ⊢;omega) (by omega)
theorem scanT_eq (l:Sb):scanT l=if 65536<l.length then .error (1,3) else scanX 0 1 l []:=rfl
theorem skipL_le:∀ (b:Bool) (r:Sb),(skipL b r).1≤r.length
  | _,[]=>by simp [skipL]
  | true,c::r=>by
    have h1:=skipL_le false r;have h2:=skipL_le true r;unfold skipL;split <;> simp only [List.length_cons] <;> omega
  | false,c::r=>by
    have h1:=skipL_le false r;have h2:=skipL_le true r;unfold skipL;split
    · simp only [List.length_cons];omega
    · split
      · simp only [List.length_cons];omega
      · split
        · simp only [List.length_cons];omega
        · exact Nat.zero_le _
def nlC (l:Sb):Nat:=l.count 10
theorem skipL_nl:∀ (b:Bool) (r:Sb),(skipL b r).2=nlC (r.take (skipL b r).1)
  | _,[]=>by simp [skipL,nlC]
  | true,c::r=>by
    have h1:=skipL_nl false r;have h2:=skipL_nl true r;unfold skipL;split
    · rename_i hc;subst hc;rw [Nat.add_comm 1,List.take_succ_cons];simp only [nlC,List.count_cons_self] at h1 ⊢;omega
    · rename_i hc;rw [Nat.add_comm 1,List.take_succ_cons];simp only [nlC] at h2 ⊢;rw [List.count_cons_of_ne hc];exact h2
  | false,c::r=>by
    have h1:=skipL_nl false r;have h2:=skipL_nl true r;unfold skipL;split
    · rename_i hc;subst hc;rw [Nat.add_comm 1,List.take_succ_cons];simp only [nlC,List.count_cons_self] at h1 ⊢;omega
    · rename_i hc;split
      · rw [Nat.add_comm 1,List.take_succ_cons];simp only [nlC] at h1 ⊢;rw [List.count_cons_of_ne hc];exact h1
      · split
        · rw [Nat.add_comm 1,List.take_succ_cons];simp only [nlC] at h2 ⊢;rw [List.count_cons_of_ne hc];exact h2
        · simp [nlC]
structure TkOk (N M:Nat) (t:Tk):Prop where
  kind:1≤t.kind∧t.kind≤5
  text:t.text.size≤65536
  lo:1≤t.line
  hi:t.line≤N
  pos:0≤t.pos∧t.pos≤M
  num:t.kind=3→NumX t.text.data.toList
theorem txA_size (l:Sb):(txA l).size=l.length:=by simp [txA,ByteArray.size]
theorem tokL_ok {a ln N M:Nat} {r:Sb} {t:Tk} {m:Nat} (h:tokL a ln r=.ok (t,m)) (hr:r.length≤65536) (h1:1≤ln) (hN:ln≤N) (hM:a≤M):TkOk N M t:=by
  have hk:∀ (k:Int) (y:Sb),1≤k∧k≤5→y.length≤65536→(k=3→NumX y)→TkOk N M ⟨k,txA y,ln,a⟩:=fun k y h2 h3 h4=>⟨h2,by rw [txA_size];exact h3,by simp only;omega,by simp only;omega,⟨by simp only;omega,by simp only;omega⟩,h4⟩;cases r with
  | nil=>cases h
  | cons c r' =>
    unfold tokL at h;simp only at h;split at h
    · split at h
      · cases h
      · cases h;refine hk _ _ (by split <;> decide) (by simp only [List.length_take];omega) fun h=>?_;split at h <;> cases h
    · split at h
      · split at h
        · cases h
        · rename_i u hu;split at h
          · cases h
          · rename_i h0;split at h
            · cases h
            · cases h;exact hk _ _ (by decide) (by simp only [List.length_take];omega) fun _=>NumX.of_find hu (Decidable.not_not.1 h0)
      · split at h
        · split at h
          · cases h
          · rename_i b k hs;cases h;refine hk _ _ (by decide) ?_ fun h=>by cases h
            rcases strG_len hs with h2|h2
            · omega
            · simp at h2
        · split at h
          · cases h
          · rename_i y hy;cases h;refine hk _ _ (by decide) ?_ fun h=>by cases h
            have h2:=List.mem_of_find?_eq_some hy;have:∀ y ∈ symsL,y.length≤65536:=by decide
            exact this y h2
theorem nlC_split (r:Sb) (k:Nat):nlC (r.take k)+nlC (r.drop k)=nlC r:=by unfold nlC;rw [←List.count_append,List.take_append_drop]
theorem scanX_ok:∀ (n a ln:Nat) (r:Sb) (acc:List Tk) (N M:Nat),r.length≤n→r.length≤65536→1≤ln→ln+nlC r≤N→a+r.length≤M→(∀ t ∈ acc,TkOk N M t) →
    (∀ L,scanX a ln r acc=.ok L→(∀ t ∈ L,TkOk N M t)∧L.length≤acc.length+r.length)∧∀ l e,scanX a ln r acc=.error (l,e)→1≤l∧l≤(N:Int):=by
  intro n
  induction n with
  | zero =>
    intro a ln r acc N M hn hr h1 hN hM hacc;have:r=[]:=List.length_eq_zero_iff.1 (by omega);subst this;rw [scanX_eq];simp only [List.drop_nil];exact ⟨fun L h=>by cases h;exact ⟨hacc,Nat.le_add_right _ _⟩,fun l e h=>by cases h⟩
  | succ n ih =>
    intro a ln r acc N M hn hr h1 hN hM hacc;have hk:=skipL_le false r;have hnl:=skipL_nl false r;have hsp:=nlC_split r (skipL false r).1;rw [scanX_eq];generalize (skipL false r).2=q at *;generalize (skipL false r).1=k at *;split
    · exact ⟨fun L h=>by cases h;exact ⟨hacc,Nat.le_add_right _ _⟩,fun l e h=>by cases h⟩
    · rename_i c r1 hd;have hl:(c::r1).length=r.length - k:=by rw [←hd,List.length_drop]
      split
      · rename_i e he;refine ⟨(fun L h=>by cases h),fun l e h=>?_⟩;cases h;omega
      · rename_i t m ht;have hm:=tokL_len ht;have hs2:=nlC_split (c::r1) m;rw [hd] at hsp;have hl2:((c::r1).drop m).length=r.length - k - m:=by rw [List.length_drop,hl]
        have h5:=ih (a+k+m) (ln+q) ((c::r1).drop m) (acc++[t]) N M (by omega) (by omega) (by omega) (by omega) (by omega) (fun t' ht'=>by
          rcases List.mem_append.1 ht' with h|h
          · exact hacc _ h
          · rw [List.mem_singleton.1 h];exact tokL_ok ht (by omega) (by omega) (by omega) (by omega))
        refine ⟨fun L h=>?_,h5.2⟩;have h6:=h5.1 L h;exact ⟨h6.1,by have:=h6.2;simp only [List.length_append,List.length_singleton] at this;omega⟩
theorem scanT_ok {l:Sb} {L:List Tk} (h:scanT l=.ok L):(∀ t ∈ L,TkOk (1+nlC l) l.length t)∧L.length≤l.length∧l.length≤65536:=by
  rw [scanT_eq] at h;split at h
  · cases h
  · have:=(scanX_ok l.length 0 1 l [] (1+nlC l) l.length (Nat.le_refl _) (by omega) (Nat.le_refl _) (Nat.le_refl _) (by omega) (fun t h=>by cases h)).1 L h;exact ⟨this.1,by simpa using this.2,by omega⟩
def Sepz (z:Sb):Prop:=∃ c r,z=c::r∧(c=10∨c=32)
section
variable {z:Sb} (hz:Sepz z)
include hz
end
theorem skipL_t (c:UInt8) (r:Sb):skipL true (c::r)=if c=10 then (1+(skipL false r).1,1+(skipL false r).2) else (1+(skipL true r).1,(skipL true r).2):=rfl
theorem skipL_f (c:UInt8) (r:Sb):skipL false (c::r)=if c=10 then (1+(skipL false r).1,1+(skipL false r).2) else if c=32∨c=9∨c=13 then (1+(skipL false r).1,(skipL false r).2)
    else if c=45∧r.head?=some 45 then (1+(skipL true r).1,(skipL true r).2) else (0,0):=rfl
def po:List Tk→Nat
  | []=>0
  | t::r=>8+t.text.size+po r
def Pe {α:Type} (r:Res α) (s:α→Nat) (k:Nat):Prop:=∀ v l,r=.ok v l→po l+s v≤k
section
variable {α β:Type} {m:Res α} {f:α→List Tk→Res β} {s:α→Nat} {t:β→Nat} {k k':Nat}
theorem Pe.bind (h:Pe m s k) (g:∀ x l,po l+s x≤k→Pe (f x l) t k'):Pe (m.bind f) t k':=by
  cases m with
  | ok x l=>exact g x l (h x l rfl)
  | bad l=>intro v l' h;cases h
theorem Pe.mono (h:Pe m s k) (hk:k≤k'):Pe m s k':=fun v l e=>Nat.le_trans (h v l e) hk
theorem Pe.yes {v:α} {l:List Tk} (h:po l+s v≤k):Pe (.ok v l) s k:=fun v' l' e=>by cases e;exact h
theorem Pe.no {l:List Tk}:Pe (.bad l:Res α) s k:=fun v' l' e=>by cases e
theorem Pe.ite {c:Prop} [Decidable c] {m':Res α} (h1:c→Pe m s k) (h2:¬ c→Pe m' s k):Pe (if c then m else m') s k:=by
  split
  · exact h1 (by assumption)
  · exact h2 (by assumption)
end
theorem po_tail {l:List Tk} (h:l≠[]):po l.tail+(8+(nextK l).text.size)≤po l:=by cases l with|nil=>exact absurd rfl h|cons t r=>show po r+(8+t.text.size)≤8+t.text.size+po r;omega
theorem po_le (l:List Tk):po l.tail≤po l:=by cases l with|nil=>exact Nat.le_refl _|cons t r=>show po r≤8+t.text.size+po r;omega
theorem po_is {s:Sb} {l:List Tk} (h:isB s l=true):po l.tail+(8+(nextK l).text.size)≤po l:=po_tail (by rintro rfl;cases h)
theorem po_kd {k:Int} {l:List Tk} (h:(nextK l).kind=k) (h0:k≠0):po l.tail+(8+(nextK l).text.size)≤po l:=po_tail (by rintro rfl;exact h0 h.symm)
theorem take_pe (l:List Tk):Pe (takeR l) (fun t=>8+t.text.size) (po l):=by cases l with|nil=>exact Pe.no|cons t r=>exact Pe.yes (by show po r+_≤8+t.text.size+po r;omega)
theorem need_pe (s:Sb) (l:List Tk):Pe (needR s l) (fun t=>8+t.text.size) (po l):=Pe.ite (fun _=>take_pe l) fun _=>Pe.no
theorem name_pe (l:List Tk):Pe (nameR l) (fun t=>8+t.text.size) (po l):=Pe.ite (fun _=>take_pe l) fun _=>Pe.no
theorem wzs_app (a b:List Ex):Ex.wzs (a++b)=Ex.wzs a+Ex.wzs b:=by induction a with|nil=>simp [Ex.wzs]|cons x r ih=>simp [Ex.wzs,ih];omega
theorem wzS_app (a b:List St):St.wzs (a++b)=St.wzs a+St.wzs b:=by induction a with|nil=>simp [St.wzs]|cons x r ih=>simp [St.wzs,ih];omega
theorem wzB_app (a b:List (List St)):St.wzss (a++b)=St.wzss a+St.wzss b:=by induction a with|nil=>simp [St.wzss]|cons x r ih=>simp [St.wzss,ih];omega
theorem wz_nd (k l:Int):(nd k l).wz=1:=rfl
theorem wz_ndS (k l:Int) (s:ByteArray):(ndS k l s).wz=1+s.size:=by simp [ndS,Ex.wz,Ex.wzs,Fn.wzs]
theorem wz_ndA (k l:Int) (a:List Ex):(ndA k l a).wz=1+Ex.wzs a:=by show 1+(0:Nat)+Ex.wzs a+0=1+Ex.wzs a;omega
theorem wz_mk (k o l p q:Int) (s:ByteArray) (a:List Ex) (f:List Fn):(Ex.mk k o l p q s a f).wz=1+s.size+Ex.wzs a+Fn.wzs f:=rfl
theorem wzF_mk (n:ByteArray) (p:List ByteArray) (v:Bool) (b:List St) (l:Int):(Fn.mk n p v b l).wz=1+St.wzs b:=rfl
theorem wzS_mk (k l:Int) (n:List (ByteArray × Int)) (a b:List Ex) (c:List (List St)) (t:ByteArray):(St.mk k l n a b c t).wz=1+Ex.wzs a+Ex.wzs b+St.wzss c:=rfl
theorem wz_c (x:Ex) (r:List Ex):Ex.wzs (x::r)=x.wz+Ex.wzs r:=rfl
theorem wz_n:Ex.wzs []=0:=rfl
theorem wzF_c (x:Fn) (r:List Fn):Fn.wzs (x::r)=x.wz+Fn.wzs r:=rfl
theorem wzF_n:Fn.wzs []=0:=rfl
theorem wzS_c (x:St) (r:List St):St.wzs (x::r)=x.wz+St.wzs r:=rfl
theorem wzS_n:St.wzs []=0:=rfl
theorem wzB_c (x:List St) (r:List (List St)):St.wzss (x::r)=1+St.wzs x+St.wzss r:=rfl
theorem wzB_n:St.wzss []=0:=rfl
theorem size_e:(⟨#[]⟩:ByteArray).size=0:=rfl
def PEx (E:EF):Prop:=∀ lim l,Pe (E lim l) (fun x=>x.wz+4) (po l)
def PBx (B:BF):Prop:=∀ l,Pe (B l) St.wzs (po l)
variable {E:EF} {B:BF}
theorem listG_pe (hE:PEx E):∀ n acc l,Pe (listG E n acc l) Ex.wzs (po l+Ex.wzs acc)
  | 0,_,_=>Pe.no
  | n+1,acc,l=>Pe.ite (fun hc=>(hE 0 l.tail).bind fun x l1 h=>(listG_pe hE n _ _).mono (by have:=po_is hc;simp only [wzs_app,wz_c,wz_n];omega)) fun _=>Pe.yes (Nat.le_refl _)
theorem listR_pe (hE:PEx E) (l:List Tk):Pe (listR E l) (fun v=>Ex.wzs v+4) (po l):=(hE 0 l).bind fun x l1 h v l' e=>by
  have:=listG_pe hE _ _ _ v l' e;simp only [wz_c,wz_n] at this;show po l'+(Ex.wzs v+4)≤po l;omega
theorem item_pe (hE:PEx E) (l:List Tk):Pe (itemR E l) (fun x=>x.wz+3) (po l) :=
  Pe.ite (fun hc=>(hE 0 _).bind fun _ l1 h1=>(need_pe _ l1).bind fun _ l2 h2=>(need_pe _ l2).bind fun _ l3 h3=>(hE 0 l3).bind fun _ l4 h4=>Pe.yes (by have:=po_is hc;simp only [wz_ndA,wz_c,wz_n];omega))
    fun _=>Pe.ite (fun hc=>(hE 0 _).bind fun _ l1 h1=>Pe.yes (by
      match l,hc with
      | t::u::r,_ =>
        have e1:po (t::u::r)=8+t.text.size+(8+u.text.size+po r):=rfl;have e2:po ((t::u::r).drop 2)=po r:=rfl;have e3:(nextK (t::u::r)).text=t.text:=rfl;simp only [wz_ndA,wz_c,wz_n,wz_ndS,e3];omega)) fun _=>(hE 0 l).bind fun _ l1 h1=>Pe.yes (by simp only [wz_ndA,wz_c,wz_n];omega)
theorem tabG_pe (hE:PEx E):∀ n acc l,Pe (tabG E n acc l) Ex.wzs (po l+Ex.wzs acc)
  | 0,_,_=>Pe.no
  | n+1,acc,l=>Pe.ite (fun hc=>Pe.yes (Nat.le_refl _)) fun _=>(item_pe hE l).bind fun x l1 h=>Pe.ite (fun hc=>(tabG_pe hE n _ _).mono (by have:=po_le l1;simp only [wzs_app,wz_c,wz_n];omega)) fun _=>Pe.ite (fun hc=>(tabG_pe hE n _ _).mono (by have:=po_le l1;simp only [wzs_app,wz_c,wz_n];omega)) fun _=>Pe.yes (by simp only [wzs_app,wz_c,wz_n];omega)
theorem table_pe (hE:PEx E) (l:List Tk):Pe (tableR E l) (fun x=>x.wz+4) (po l) :=
  (take_pe l).bind fun t l1 h1=>(tabG_pe hE _ _ _).bind fun xs l2 h2=>(need_pe _ l2).bind fun _ l3 h3=>Pe.yes (by simp only [wz_ndA,wz_n] at *;omega)
theorem bare_pe (hE:PEx E) (l:List Tk):Pe (bareR E l) (fun x=>x.wz+4) (po l) :=
  Pe.ite (fun hc=>Pe.yes (by have:=po_kd hc (by decide);simp only [wz_ndS];omega)) fun _=>table_pe hE l
theorem args_pe (hE:PEx E) (e:Ex) (l:List Tk):Pe (argsR E e l) (fun v=>Ex.wzs v+4) (po l+e.wz):=by
  refine Pe.ite (fun hc=>?_) fun _=>(bare_pe hE l).bind fun x l1 h1=>Pe.yes (by simp only [wz_c,wz_n];omega);have ht:=po_is hc;exact Pe.ite (fun _=>(need_pe _ _).bind fun _ l3 h3=>Pe.yes (by simp only [wz_c,wz_n];omega)) fun _=>(listR_pe hE _).bind fun xs l1 h1=>(need_pe _ l1).bind fun _ l3 h3=>Pe.yes (by simp only [wzs_app,wz_c,wz_n];omega)
theorem head_pe (hE:PEx E) (l:List Tk):Pe (headR E l) (fun x=>x.1.wz+4) (po l) :=
  Pe.ite (fun hc=>(hE 0 _).bind fun e l1 h1=>(need_pe _ l1).bind fun _ l2 h2=>Pe.yes (by have:=po_is hc;simp only;split <;> (try simp only [wz_ndA,wz_c,wz_n]) <;> omega)) fun _=>(name_pe l).bind fun n l1 h1=>Pe.yes (by simp only [wz_ndS];omega)
theorem suf_pe (hE:PEx E):∀ n e b l,Pe (sufG E n e b l) (fun x=>x.1.wz) (po l+e.wz)
  | 0,_,_,_=>Pe.no
  | n+1,e,b,l =>
    Pe.ite (fun hc=>(name_pe _).bind fun k l1 h1=>(suf_pe hE n _ _ _).mono (by have:=po_is hc;simp only [wz_ndA,wz_ndS,wz_c,wz_n];omega)) fun _ =>
    Pe.ite (fun hc=>(hE 0 _).bind fun k l1 h1=>(need_pe _ l1).bind fun _ l2 h2=>(suf_pe hE n _ _ _).mono (by have:=po_is hc;simp only [wz_ndA,wz_ndS,wz_c,wz_n];omega)) fun _ =>
    Pe.ite (fun hc=>(name_pe _).bind fun k l1 h1=>Pe.ite (fun hc1=>(args_pe hE e l1).bind fun a l2 h2=>(suf_pe hE n _ _ _).mono (by have:=po_is hc;simp only [wz_mk,wzF_n];omega)) fun _=>Pe.no) fun _ =>
    Pe.ite (fun hc=>(args_pe hE e l).bind fun a l1 h1=>(suf_pe hE n _ _ _).mono (by simp only [wz_ndA];omega)) fun _=>Pe.yes (Nat.le_refl _)
theorem pref_pe (hE:PEx E) (l:List Tk):Pe (prefR E l) (fun x=>x.1.wz+4) (po l):=(head_pe hE l).bind fun x l1 h1 v l' h=>by
  have:po l'+v.1.wz≤po l1+x.1.wz:=suf_pe hE _ _ _ _ v l' h;show po l'+(v.1.wz+4)≤po l;omega
theorem par_pe:∀ n ps l,Pe (parG n ps l) (fun _=>0) (po l)
  | 0,_,_=>Pe.no
  | n+1,ps,l=>Pe.ite (fun hc=>Pe.yes (by have:=po_le l;omega)) fun _=>(name_pe l).bind fun t l1 h1=>Pe.ite (fun hc=>(par_pe n _ _).mono (by have:=po_le l1;omega)) fun _=>Pe.yes (by omega)
theorem body_pe (hB:PBx B) (e:Sb) (l:List Tk):Pe (bodyR B e l) (fun b=>St.wzs b+8) (po l):=(hB l).bind fun b l1 h1=>(need_pe _ l1).bind fun _ l2 h2=>Pe.yes (by omega)
theorem clo_pe (hB:PBx B) (line:Int) (name:ByteArray) (self:Bool) (l:List Tk):Pe (cloR B line name self l) (fun x=>x.wz+4) (po l) :=
  (need_pe _ l).bind fun _ l1 h1=>Pe.bind (s:=fun _=>0) (k:=po l1) (Pe.ite (fun hc=>Pe.yes (Nat.le_refl _)) fun hc=>par_pe _ _ _) fun ps l2 h2=>(need_pe _ l2).bind fun _ l3 h3 =>
    (body_pe hB _ l3).bind fun b l4 h4=>Pe.yes (by simp only [wz_mk,wz_n,wzF_c,wzF_n,wzF_mk,size_e];omega)
theorem pri_pe (hE:PEx E) (hB:PBx B) (l:List Tk):Pe (priR E B l) (fun x=>x.wz+4) (po l) :=
  Pe.ite (fun hc=>Pe.yes (by have:=po_kd hc (by decide);simp only [wz_mk,wz_n,wzF_n,size_e];omega)) fun _=>Pe.ite (fun hc=>Pe.yes (by have:=po_kd hc (by decide);simp only [wz_ndS];omega)) fun _=>Pe.ite (fun hc=>Pe.yes (by have:=po_is hc;simp only [wz_nd];omega)) fun _=>Pe.ite (fun hc=>Pe.yes (by have:=po_is hc;simp only [wz_nd];omega)) fun _=>Pe.ite (fun hc=>Pe.yes (by have:=po_is hc;simp only [wz_nd];omega)) fun _ =>
  Pe.ite (fun hc=>Pe.yes (by have:=po_is hc;simp only [wz_nd];omega)) fun _=>Pe.ite (fun hc=>(clo_pe hB _ _ _ _).mono (po_le l)) fun _=>Pe.ite (fun hc=>table_pe hE l) fun _=>(pref_pe hE l).bind fun x l1 h1=>Pe.yes h1
theorem bin_pe (hE:PEx E) (lim:Int):∀ n e l,Pe (binG E lim n e l) (fun x=>x.wz) (po l+e.wz)
  | 0,_,_=>Pe.no
  | n+1,e,l=>Pe.ite (fun _=>Pe.yes (Nat.le_refl _)) fun _=>(hE _ _).bind fun x l1 h1=>(bin_pe hE lim n _ _).mono (by have:=po_le l;simp only [wz_mk,wz_c,wz_n,wzF_n,size_e];omega)
theorem un_pe (hE:PEx E) (hB:PBx B) (l:List Tk):Pe (unR E B l) (fun x=>x.wz+4) (po l):=Pe.ite (fun hc=>(hE _ _).bind fun x l1 h1=>Pe.yes (by
  have:=po_tail (l:=l) (by rintro rfl;exact hc rfl);simp only [wz_mk,wz_c,wz_n,wzF_n,size_e];omega)) fun _=>pri_pe hE hB l
theorem exp_pe (hE:PEx E) (hB:PBx B) (lim:Int) (l:List Tk):Pe (expR E B lim l) (fun x=>x.wz+4) (po l):=(un_pe hE hB l).bind fun e l1 h1 v l' h=>by
  have:po l'+v.wz≤po l1+e.wz:=bin_pe hE lim _ _ _ v l' h;show po l'+(v.wz+4)≤po l;omega
theorem attr1_pe (l:List Tk):Pe (attr1 l) (fun _=>0) (po l):=Pe.ite (fun _=>Pe.yes (po_le l)) fun _=>Pe.ite (fun _=>Pe.yes (po_le l)) fun _=>Pe.no
theorem attr_pe (l:List Tk):Pe (attrR l) (fun _=>0) (po l) :=
  Pe.ite (fun hc=>(attr1_pe _).bind fun a l1 h1=>(need_pe _ l1).bind fun _ l2 h2=>Pe.yes (by have:=po_le l;omega)) fun _=>Pe.yes (Nat.le_refl _)
theorem names_pe:∀ n ns l,Pe (namesG n ns l) (fun _=>0) (po l)
  | 0,_,_=>Pe.no
  | n+1,ns,l=>(name_pe l).bind fun t l1 h1=>(attr_pe l1).bind fun a l2 h2=>Pe.ite (fun hc=>(names_pe n _ _).mono (by have:=po_le l2;omega)) fun _=>Pe.yes (by omega)
theorem local_pe (hE:PEx E) (hB:PBx B) (l:List Tk):Pe (localR E B l) (fun s=>s.wz) (po l) :=
  (take_pe l).bind fun t l1 h1=>Pe.ite (fun hc=>(name_pe _).bind fun n l2 h2=>(clo_pe hB _ _ _ _).bind fun f l3 h3=>Pe.yes (by have:=po_le l1;simp only [wzS_mk,wz_c,wz_n,wzB_n];omega)) fun _ =>
    (names_pe _ _ _).bind fun ns l2 h2=>Pe.ite (fun hc=>(listR_pe hE _).bind fun xs l3 h3=>Pe.yes (by have:=po_le l2;simp only [wzS_mk,wz_n,wzB_n];omega)) fun _=>Pe.yes (by simp only [wzS_mk,wz_n,wzB_n];omega)
theorem path_pe:∀ n e s l,Pe (pathG n e s l) (fun x=>x.1.wz) (po l+e.wz)
  | 0,_,_,_=>Pe.no
  | n+1,e,s,l=>Pe.ite (fun hc=>(name_pe _).bind fun k l1 h1=>Pe.ite (fun _=>Pe.yes (by have:=po_tail (l:=l) (by rintro rfl;rcases hc with hc|hc <;> cases hc);simp only [wz_ndA,wz_ndS,wz_c,wz_n];omega))
      fun _=>(path_pe n _ _ _).mono (by have:=po_tail (l:=l) (by rintro rfl;rcases hc with hc|hc <;> cases hc);simp only [wz_ndA,wz_ndS,wz_c,wz_n];omega)) fun _=>Pe.yes (Nat.le_refl _)
theorem func_pe (hB:PBx B) (l:List Tk):Pe (funcR B l) (fun s=>s.wz) (po l) :=
  (take_pe l).bind fun f l1 h1=>(name_pe l1).bind fun t l2 h2=>(path_pe _ _ _ _).bind fun x l3 h3=>(clo_pe hB _ _ _ _).bind fun c l4 h4=>Pe.yes (by simp only [wzS_mk,wz_c,wz_n,wzB_n,wz_ndS] at *;omega)
theorem ifG_pe (hE:PEx E) (hB:PBx B):∀ n cs bs l,Pe (ifG E B n cs bs l) (fun v=>Ex.wzs v.1+St.wzss v.2) (po l+(Ex.wzs cs+St.wzss bs))
  | 0,_,_,_=>Pe.no
  | n+1,cs,bs,l=>(hE 0 l).bind fun c l1 h1=>(need_pe _ l1).bind fun _ l2 h2=>(hB l2).bind fun b l3 h3=>Pe.ite (fun hc=>(ifG_pe hE hB n _ _ _).mono (by have:=po_le l3;simp only [wzs_app,wzB_app,wz_c,wz_n,wzB_c,wzB_n];omega)) fun _=>Pe.yes (by simp only [wzs_app,wzB_app,wz_c,wz_n,wzB_c,wzB_n];omega)
theorem if_pe (hE:PEx E) (hB:PBx B) (l:List Tk):Pe (ifR E B l) (fun s=>s.wz) (po l) :=
  (take_pe l).bind fun t l1 h1=>(ifG_pe hE hB _ _ _ _).bind fun x l2 h2=>Pe.bind (s:=fun bs=>St.wzss bs) (k:=po l2+St.wzss x.2) (Pe.ite (fun hc=>(hB _).bind fun b l3 h3=>Pe.yes (by have:=po_is hc;simp only [wzB_app,wzB_c,wzB_n];omega)) fun _=>Pe.yes (Nat.le_refl _)) fun bs l4 h4=>(need_pe _ l4).bind fun _ l5 h5=>Pe.yes (by simp only [wzS_mk,wz_n,wzB_n] at *;omega)
theorem for_pe:∀ n ns l,Pe (forG n ns l) (fun _=>0) (po l)
  | 0,_,_=>Pe.no
  | n+1,ns,l=>Pe.ite (fun hc=>(name_pe _).bind fun t l1 h1=>(for_pe n _ _).mono (by have:=po_le l;omega)) fun _=>Pe.yes (Nat.le_refl _)
theorem loop_pe (hE:PEx E) (hB:PBx B) (l:List Tk):Pe (loopR E B l) (fun s=>s.wz) (po l) :=
  (take_pe l).bind fun t l1 h1=>(name_pe l1).bind fun n l2 h2=>Pe.ite (fun hc=>(hE 0 _).bind fun a l3 h3=>(need_pe _ l3).bind fun _ l4 h4=>(hE 0 l4).bind fun b l5 h5 =>
    Pe.bind (s:=fun xs=>Ex.wzs xs) (k:=po l5+(a.wz+b.wz)) (Pe.ite (fun hc=>(hE 0 _).bind fun c l6 h6=>Pe.yes (by have:=po_le l5;simp only [wz_c,wz_n];omega)) fun _=>Pe.yes (by simp only [wz_c,wz_n];omega)) fun xs l7 h7=>(need_pe _ l7).bind fun _ l8 h8=>(body_pe hB _ l8).bind fun k l9 h9=>Pe.yes (by have:=po_le l2;simp only [wzS_mk,wz_n,wzB_c,wzB_n];omega))
    fun _=>(for_pe _ _ _).bind fun ns l3 h3=>(need_pe _ l3).bind fun _ l4 h4=>(listR_pe hE l4).bind fun xs l5 h5=>(need_pe _ l5).bind fun _ l6 h6=>(body_pe hB _ l6).bind fun k l7 h7=>Pe.yes (by simp only [wzS_mk,wz_n,wzB_c,wzB_n];omega)
theorem left_pe (hE:PEx E):∀ n acc e b l,Pe (leftG E n acc e b l) Ex.wzs (po l+(Ex.wzs acc+e.wz))
  | 0,_,_,_,_=>Pe.no
  | n+1,acc,e,b,l=>Pe.ite (fun _=>Pe.no) fun _=>Pe.ite (fun hc=>(pref_pe hE _).bind fun x l1 h1=>(left_pe hE n _ _ _ _).mono (by have:=po_le l;simp only [wzs_app,wz_c,wz_n];omega)) fun _=>Pe.yes (by simp only [wzs_app,wz_c,wz_n];omega)
theorem simple_pe (hE:PEx E) (l:List Tk):Pe (simpleR E l) (fun s=>s.wz) (po l) :=
  (pref_pe hE l).bind fun x l1 h1=>Pe.ite (fun _=>Pe.yes (by simp only [wzS_mk,wz_c,wz_n,wzB_n];omega)) fun _=>(left_pe hE _ _ _ _ _).bind fun ls l2 h2=>(need_pe _ l2).bind fun _ l3 h3=>(listR_pe hE l3).bind fun rs l4 h4=>Pe.yes (by simp only [wzS_mk,wz_n,wzB_n] at *;omega)
theorem key_pe (hE:PEx E) (hB:PBx B) (l:List Tk):Pe (keyR E B l) (fun s=>s.wz) (po l) :=
  Pe.ite (fun _=>local_pe hE hB l) fun _=>Pe.ite (fun _=>func_pe hB l) fun _=>Pe.ite (fun _=>if_pe hE hB l) fun _=>Pe.ite (fun _=>loop_pe hE hB l) fun _ =>
  Pe.ite (fun _=>(take_pe l).bind fun _ l1 h1=>(hE 0 l1).bind fun c l2 h2=>(need_pe _ l2).bind fun _ l3 h3=>(body_pe hB _ l3).bind fun b l4 h4=>Pe.yes (by simp only [wzS_mk,wz_c,wz_n,wzB_c,wzB_n];omega)) fun _ =>
  Pe.ite (fun _=>(take_pe l).bind fun _ l1 h1=>(body_pe hB _ l1).bind fun b l2 h2=>(hE 0 l2).bind fun c l3 h3=>Pe.yes (by simp only [wzS_mk,wz_c,wz_n,wzB_c,wzB_n];omega)) fun _ =>
  Pe.ite (fun _=>(take_pe l).bind fun _ l1 h1=>(body_pe hB _ l1).bind fun b l2 h2=>Pe.yes (by simp only [wzS_mk,wz_c,wz_n,wzB_c,wzB_n];omega)) fun _ =>
  Pe.ite (fun _=>(take_pe l).bind fun _ l1 h1=>Pe.yes (by simp only [st0,wzS_mk,wz_c,wz_n,wzB_c,wzB_n];omega)) fun _=>Pe.ite (fun _=>(take_pe l).bind fun _ l1 h1=>(name_pe l1).bind fun n l2 h2=>Pe.yes (by simp only [wzS_mk,wz_c,wz_n,wzB_c,wzB_n];omega)) fun _=>Pe.no
theorem stat_pe (hE:PEx E) (hB:PBx B) (l:List Tk):Pe (statR E B l) (fun s=>s.wz) (po l) :=
  Pe.ite (fun _=>key_pe hE hB l) fun _=>Pe.ite (fun hc=>(name_pe _).bind fun n l1 h1=>(need_pe _ l1).bind fun _ l2 h2=>Pe.yes (by have:=po_is hc;simp only [wzS_mk,wz_c,wz_n,wzB_c,wzB_n];omega)) fun _=>simple_pe hE l
theorem ret_pe (hE:PEx E) (l:List Tk):Pe (retR E l) (fun s=>s.wz) (po l) :=
  (take_pe l).bind fun t l1 h1=>Pe.bind (s:=fun xs=>Ex.wzs xs) (k:=po l1) (Pe.ite (fun _=>fun v l' e=>by have:po l'+(Ex.wzs v+4)≤po l1:=listR_pe hE l1 v l' e;show po l'+Ex.wzs v≤_;omega) fun _=>Pe.yes (Nat.le_refl _)) fun xs l2 h2 =>
    Pe.ite (fun _=>Pe.yes (by have:=po_le l2;simp only [wzS_mk,wz_n,wzB_n];split <;> omega)) fun _=>Pe.no
theorem blk_pe (hE:PEx E) (hB:PBx B):∀ n acc l,Pe (blkG E B n acc l) St.wzs (po l+St.wzs acc)
  | 0,_,_=>Pe.no
  | n+1,acc,l=>Pe.ite (fun _=>Pe.yes (Nat.le_refl _)) fun _=>Pe.ite (fun hc=>(blk_pe hE hB n _ _).mono (by have:=po_le l;omega)) fun _=>Pe.ite (fun _=>(ret_pe hE l).bind fun s l1 h1=>Pe.yes (by simp only [wzS_app,wzS_c,wzS_n];omega)) fun _=>(stat_pe hE hB l).bind fun s l1 h1=>(blk_pe hE hB n _ _).mono (by simp only [wzS_app,wzS_c,wzS_n];omega)
theorem EB_pe:∀ n,PEx (EB n).1∧PBx (EB n).2
  | 0=>⟨fun _ _=>Pe.no,fun _=>Pe.no⟩
  | n+1=>⟨fun lim l=>exp_pe (EB_pe n).1 (EB_pe n).2 lim l,fun l=>(blk_pe (EB_pe n).1 (EB_pe n).2 _ _ _).mono (by simp [wzS_n])⟩
theorem yE9a {P:Prop} (h:P:=by
  split at h
  · cases h
  · have:=ih h;simp only [List.length_append,List.length_singleton] at this;omega):P:=h
theorem strG_tx {q:UInt8}:∀ {n:Nat} {r b:Sb} {k:Nat} {v:Sb} {m:Nat},strG q n r b k=.ok (v,m)→v.length+k≤m+b.length:=by
  intro n
  induction n with
  | zero=>intro r b k v m h;cases h
  | succ n ih =>
    intro r b k v m h;unfold strG at h;cases r with
    | nil=>cases h
    | cons c r' =>
      simp only at h;split at h
      · cases h
      · split at h
        · cases h;omega
        · split at h
          · split at h
            · cases h
            · rename_i d m' he;have hl:=escL_len he;exact yE9a
          · exact yE9a
theorem tokL_tx {a ln:Nat} {r:Sb} {t:Tk} {m:Nat} (h:tokL a ln r=.ok (t,m)):t.text.size≤m:=by
  cases r with
  | nil=>cases h
  | cons c r' =>
    unfold tokL at h;simp only at h;split at h
    · split at h
      · cases h
      · cases h;simp only [txA_size,List.length_take];omega
    · split at h
      · split at h
        · cases h
        · split at h
          · cases h
          · split at h
            · cases h
            · cases h;simp only [txA_size,List.length_take];omega
      · split at h
        · split at h
          · cases h
          · rename_i b k hs;cases h;have:=strG_tx hs;simp only [txA_size];simp at this;omega
        · split at h
          · cases h
          · cases h;simp only [txA_size];omega
theorem po_app (a b:List Tk):po (a++b)=po a+po b:=by induction a with|nil=>simp [po]|cons x r ih=>simp [po,ih];omega
theorem scan_po:∀ (n a ln:Nat) (r:Sb) (acc L:List Tk),r.length≤n→scanX a ln r acc=.ok L→po L≤po acc+9*r.length:=by
  intro n
  induction n with
  | zero =>
    intro a ln r acc L hn h;have:r=[]:=List.length_eq_zero_iff.1 (by omega);subst this;rw [scanX_eq] at h;simp only [List.drop_nil] at h;cases h;omega
  | succ n ih =>
    intro a ln r acc L hn h;have hk:=skipL_le false r;rw [scanX_eq] at h;rcases hd:r.drop (skipL false r).1 with _|⟨c,r1⟩
    · rw [hd] at h;cases h;omega
    · have hl:(c::r1).length=r.length - (skipL false r).1:=by rw [←hd,List.length_drop]
      rw [hd] at h;simp only at h;rcases htk:tokL (a+(skipL false r).1) (ln+(skipL false r).2) (c::r1) with x|⟨t,m⟩
      · rw [htk] at h;cases h
      · rw [htk] at h;simp only at h;have hm:=tokL_len htk;have ht:=tokL_tx htk;have:=ih _ _ _ _ _ (by rw [List.length_drop];omega) h;rw [po_app,List.length_drop] at this;simp only [po] at this;omega
theorem scanT_po {l:Sb} {L:List Tk} (h:scanT l=.ok L):po L≤589824:=by
  rw [scanT_eq] at h;split at h
  · cases h
  · have:=scan_po l.length 0 1 l [] L (Nat.le_refl _) h;simp only [po] at this;omega
end Go.Proofs.YtaddbmkkkollpaaGreatDoor
