/- How deep one may go does not matter: n levels and n + 1 say the same of fewer than n tokens. -/
import Derived.Test.YtdekaghipjpgpaaGreatDoorE1
import Derived.Test.YtdekaghipjpgpaaGreatDoorE3
import Derived.Test.YtdekaghipjpgpaaGreatDoorE6
import Derived.Test.YtdekaghipjpgpaaGreatDoorB1
namespace Go.Proofs.YtdekaghipjpgpaaGreatDoor
open Go.RowKit
set_option linter.unusedVariables false
set_option linter.unusedSimpArgs false
theorem Ag.bind {α β:Type} {m m':Res α} {f f':α→List Tk→Res β} {s:α→Nat} {k:Nat} (h:m=m') (hl:Le m s k) (hk:∀ x l,l.length+s x≤k→f x l=f' x l):m.bind f=m'.bind f':=by
  subst h;cases m with
  | ok x l=>exact hk x l (hl x l rfl)
  | bad l=>rfl
theorem Ag.ite {α:Type} {c:Prop} [Decidable c] {m n m' n':Res α} (h1:c→m=m') (h2:¬ c→n=n'):(if c then m else n)=(if c then m' else n'):=by
  by_cases h:c
  · rw [if_pos h,if_pos h,h1 h]
  · rw [if_neg h,if_neg h,h2 h]
def AE (N:Nat) (E E':EF):Prop:=∀ lim l,l.length<N→E lim l=E' lim l
def AB (N:Nat) (B B':BF):Prop:=∀ l,l.length<N→B l=B' l
section
variable {N:Nat} {E E':EF} {B B':BF} (aE:AE N E E') (aB:AB N B B') (hE:SE E) (hB:SB B)
include aE hE in
theorem ag_listG:∀ n acc l,l.length≤N→listG E n acc l=listG E' n acc l
  | 0,_,_,_=>rfl
  | n+1,acc,l,h=>Ag.ite (fun hc=>Ag.bind (aE 0 _ (by have:=tail_lt hc;omega)) (hE 0 _) fun x l1 h1=>ag_listG n _ l1 (by have:=tail_lt hc;omega)) fun _=>rfl
include aE hE in
theorem ag_listR (l:List Tk) (h:l.length<N):listR E l=listR E' l:=Ag.bind (aE 0 l h) (hE 0 l) fun x l1 h1=>ag_listG aE hE _ _ _ (by omega)
include aE hE in
theorem ag_item (l:List Tk) (h:l.length<N):itemR E l=itemR E' l :=
  Ag.ite (fun hc=>Ag.bind (aE 0 _ (by have:=tail_lt hc;omega)) (hE 0 _) fun k l1 h1=>Ag.bind rfl (need_le _ l1) fun _ l2 h2=>Ag.bind rfl (need_le _ l2) fun _ l3 h3=>Ag.bind (aE 0 _ (by have:=tail_lt hc;omega)) (hE 0 _) fun v l4 h4=>rfl)
    fun _=>Ag.ite (fun hc=>Ag.bind (aE 0 _ (by simp;omega)) (hE 0 _) fun v l1 h1=>rfl) fun _=>Ag.bind (aE 0 l h) (hE 0 l) fun x l1 h1=>rfl
include aE hE in
theorem ag_tabG:∀ n acc l,l.length<N→tabG E n acc l=tabG E' n acc l
  | 0,_,_,_=>rfl
  | n+1,acc,l,h=>Ag.ite (fun hc=>rfl) fun _=>Ag.bind (ag_item aE hE l h) (item_le hE l) fun x l1 h1 =>
      Ag.ite (fun hc=>ag_tabG n _ _ (by have:=tail_le l1;omega)) fun _=>Ag.ite (fun hc=>ag_tabG n _ _ (by have:=tail_le l1;omega)) fun _=>rfl
include aE hE in
theorem ag_table (l:List Tk) (h:l.length≤N):tableR E l=tableR E' l :=
  Ag.bind rfl (take_le l) fun t l1 h1=>Ag.bind (ag_tabG aE hE _ _ _ (by omega)) (tabG_le hE _ _ _) fun xs l2 h2=>rfl
include aE hE in
theorem ag_bare (l:List Tk) (h:l.length≤N):bareR E l=bareR E' l:=Ag.ite (fun _=>rfl) fun _=>ag_table aE hE l h
include aE hE in
theorem ag_args (e:Ex) (l:List Tk) (h:l.length≤N):argsR E e l=argsR E' e l :=
  Ag.ite (fun hc=>Ag.ite (fun _=>rfl) fun _=>Ag.bind (ag_listR aE hE _ (by have:=tail_lt hc;omega)) (listR_le hE _) fun xs l1 h1=>rfl) fun _=>by rw [ag_bare aE hE l h]
include aE hE in
theorem ag_head (l:List Tk) (h:l.length≤N):headR E l=headR E' l :=
  Ag.ite (fun hc=>Ag.bind (aE 0 _ (by have:=tail_lt hc;omega)) (hE 0 _) fun e l1 h1=>rfl) fun _=>rfl
include aE hE in
theorem ag_sufG:∀ n e b l,l.length≤N→sufG E n e b l=sufG E' n e b l
  | 0,_,_,_,_=>rfl
  | n+1,e,b,l,h =>
    Ag.ite (fun hc=>Ag.bind rfl (name_le _) fun k l1 h1=>ag_sufG n _ _ _ (by have:=tail_lt hc;omega)) fun _ =>
    Ag.ite (fun hc=>Ag.bind (aE 0 _ (by have:=tail_lt hc;omega)) (hE 0 _) fun k l1 h1=>Ag.bind rfl (need_le _ l1) fun _ l2 h2=>ag_sufG n _ _ _ (by have:=tail_lt hc;omega)) fun _ =>
    Ag.ite (fun hc=>Ag.bind rfl (name_le _) fun k l1 h1=>Ag.ite (fun hc1=>Ag.bind (ag_args aE hE e l1 (by have:=tail_lt hc;omega)) (args_le hE e l1 (calls_ne hc1)) fun a l2 h2=>ag_sufG n _ _ _ (by have:=tail_lt hc;omega)) fun _=>rfl) fun _ =>
    Ag.ite (fun hc=>Ag.bind (s:=fun _=>0) (k:=l.length) (ag_args aE hE e l h) (fun v l' h9=>by have:=args_len hE e l (calls_ne hc) v l' h9;show _+0≤_;omega) fun a l1 h1=>ag_sufG n _ _ _ (by omega)) fun _=>rfl
include aE hE in
theorem ag_pref (l:List Tk) (h:l.length≤N):prefR E l=prefR E' l:=Ag.bind (ag_head aE hE l h) (head_le hE l) fun x l1 h1=>ag_sufG aE hE _ _ _ _ (by omega)
include aB in
theorem ag_body (e:Sb) (l:List Tk) (h:l.length<N):bodyR B e l=bodyR B' e l:=by unfold bodyR;rw [aB l h]
include aB in
theorem ag_clo (line:Int) (name:ByteArray) (self:Bool) (l:List Tk) (h:l.length≤N):cloR B line name self l=cloR B' line name self l :=
  Ag.bind rfl (need_le _ l) fun _ l1 h1=>Ag.bind (s:=fun v=>v.1.length) (k:=l1.length+1) rfl (Le.ite (fun hc=>Le.yes (by cases self <;> simp)) fun hc=>(par_le _ _ _).mono (by cases self <;> simp)) fun ps l2 h2=>Ag.bind rfl (need_le _ l2) fun _ l3 h3=>by
    rw [ag_body aB _ l3 (by omega)]
include aE aB hE in
theorem ag_pri (l:List Tk) (h:l.length≤N):priR E B l=priR E' B' l :=
  Ag.ite (fun _=>rfl) fun _=>Ag.ite (fun _=>rfl) fun _=>Ag.ite (fun _=>rfl) fun _=>Ag.ite (fun _=>rfl) fun _=>Ag.ite (fun _=>rfl) fun _=>Ag.ite (fun _=>rfl) fun _ =>
  Ag.ite (fun hc=>ag_clo aB _ _ _ _ (by have:=tail_lt hc;omega)) fun _=>Ag.ite (fun _=>ag_table aE hE l h) fun _=>by rw [ag_pref aE hE l h]
include aE hE in
theorem ag_binG (lim:Int):∀ n e l,l.length<N→binG E lim n e l=binG E' lim n e l
  | 0,_,_,_=>rfl
  | n+1,e,l,h=>Ag.ite (fun _=>rfl) fun _=>Ag.bind (aE _ _ (by have:=tail_le l;omega)) (hE _ _) fun x l1 h1=>ag_binG lim n _ _ (by have:=tail_le l;omega)
include aE aB hE in
theorem ag_un (l:List Tk) (h:l.length≤N):unR E B l=unR E' B' l:=Ag.ite (fun hc=>by rw [aE _ _ (by have:=unB_ne hc;omega)]) fun _=>ag_pri aE aB hE l h
include aE aB hE hB in
theorem ag_exp (lim:Int) (l:List Tk) (h:l.length≤N):expR E B lim l=expR E' B' lim l:=Ag.bind (ag_un aE aB hE l h) (un_le hE hB l) fun e l1 h1=>ag_binG aE hE lim _ _ _ (by omega)
include aE aB hE in
theorem ag_local (l:List Tk) (h:l.length≤N):localR E B l=localR E' B' l :=
  Ag.bind rfl (take_le l) fun t l1 h1=>Ag.ite (fun hc=>Ag.bind rfl (name_le _) fun n l2 h2=>by rw [ag_clo aB _ _ _ l2 (by have:=tail_lt hc;omega)]) fun _ =>
    Ag.bind rfl (names_le _ _ _) fun ns l2 h2=>Ag.ite (fun hc=>by rw [ag_listR aE hE _ (by have:=tail_lt hc;simp at h2;omega)]) fun _=>rfl
include aB in
theorem ag_func (l:List Tk) (h:l.length≤N):funcR B l=funcR B' l :=
  Ag.bind rfl (take_le l) fun f l1 h1=>Ag.bind rfl (name_le l1) fun t l2 h2=>Ag.bind rfl (path_le _ _ _ _) fun x l3 h3=>by rw [ag_clo aB _ _ _ l3 (by omega)]
include aE aB hE hB in
theorem ag_ifG:∀ n cs bs l,l.length<N→ifG E B n cs bs l=ifG E' B' n cs bs l
  | 0,_,_,_,_=>rfl
  | n+1,cs,bs,l,h=>Ag.bind (aE 0 l h) (hE 0 l) fun c l1 h1=>Ag.bind rfl (need_le _ l1) fun _ l2 h2=>Ag.bind (aB l2 (by omega)) (hB l2) fun b l3 h3=>Ag.ite (fun hc=>ag_ifG n _ _ _ (by have:=tail_lt hc;omega)) fun _=>rfl
include aE aB hE hB in
theorem ag_if (l:List Tk) (h:l.length≤N):ifR E B l=ifR E' B' l :=
  Ag.bind rfl (take_le l) fun t l1 h1=>Ag.bind (ag_ifG aE aB hE hB _ _ _ _ (by omega)) (ifG_le hE hB _ _ _ _) fun x l2 h2 =>
    Ag.bind (s:=fun _=>0) (k:=l2.length) (Ag.ite (fun hc=>by rw [aB _ (by have:=tail_lt hc;simp at h2;omega)]) fun _=>rfl) (Le.ite (fun hc=>(hB _).bind fun b l3 h3=>Le.yes (by have:=tail_lt hc;omega)) fun _=>Le.yes (Nat.le_refl _)) fun bs l4 h4=>rfl
include aE aB hE in
theorem ag_loop (l:List Tk) (h:l.length≤N):loopR E B l=loopR E' B' l :=
  Ag.bind rfl (take_le l) fun t l1 h1=>Ag.bind rfl (name_le l1) fun n l2 h2=>Ag.ite (fun hc=>Ag.bind (aE 0 _ (by have:=tail_lt hc;omega)) (hE 0 _) fun a l3 h3=>Ag.bind rfl (need_le _ l3) fun _ l4 h4=>Ag.bind (aE 0 _ (by have:=tail_lt hc;omega)) (hE 0 l4) fun b l5 h5 =>
      Ag.bind (s:=fun _=>0) (k:=l5.length) (Ag.ite (fun hc5=>by rw [aE _ _ (by have:=tail_lt hc;have:=tail_lt hc5;omega)]) fun _=>rfl) (Le.ite (fun hc=>(hE 0 _).bind fun c l6 h6=>Le.yes (by have:=tail_lt hc;omega)) fun _=>Le.yes (Nat.le_refl _)) fun xs l7 h7=>Ag.bind rfl (need_le _ l7) fun _ l8 h8=>by
        rw [ag_body aB _ l8 (by have:=tail_lt hc;omega)])
    fun _=>Ag.bind rfl (for_le _ _ _) fun ns l3 h3=>Ag.bind rfl (need_le _ l3) fun _ l4 h4=>Ag.bind (ag_listR aE hE _ (by simp at h3;omega)) (listR_le hE l4) fun xs l5 h5=>Ag.bind rfl (need_le _ l5) fun _ l6 h6=>by
      rw [ag_body aB _ l6 (by simp at h3;omega)]
include aE hE in
theorem ag_leftG:∀ n acc e b l,l.length≤N→leftG E n acc e b l=leftG E' n acc e b l
  | 0,_,_,_,_,_=>rfl
  | n+1,acc,e,b,l,h=>Ag.ite (fun _=>rfl) fun _=>Ag.ite (fun hc=>Ag.bind (ag_pref aE hE _ (by have:=tail_lt hc;omega)) (pref_le hE _) fun x l1 h1=>ag_leftG n _ _ _ _ (by have:=tail_lt hc;omega)) fun _=>rfl
include hE in
theorem left_len:∀ n acc e b l,Le (leftG E n acc e b l) (fun _=>0) l.length
  | 0,_,_,_,_=>Le.no
  | n+1,acc,e,b,l=>Le.ite (fun _=>Le.no) fun _=>Le.ite (fun hc=>(pref_le hE _).bind fun x l1 h1=>(left_len n _ _ _ _).mono (by have:=tail_lt hc;omega)) fun _=>Le.yes (Nat.le_refl _)
include aE hE in
theorem ag_simple (l:List Tk) (h:l.length≤N):simpleR E l=simpleR E' l :=
  Ag.bind (ag_pref aE hE l h) (pref_le hE l) fun x l1 h1=>Ag.ite (fun _=>rfl) fun _=>Ag.bind (ag_leftG aE hE _ _ _ _ _ (by omega)) (left_len hE _ _ _ _ _) fun ls l2 h2=>Ag.bind rfl (need_le _ l2) fun _ l3 h3=>by
    rw [ag_listR aE hE l3 (by omega)]
include aE aB hE hB in
theorem ag_key (l:List Tk) (h:l.length≤N):keyR E B l=keyR E' B' l :=
  Ag.ite (fun _=>ag_local aE aB hE l h) fun _=>Ag.ite (fun _=>ag_func aB l h) fun _=>Ag.ite (fun _=>ag_if aE aB hE hB l h) fun _=>Ag.ite (fun _=>ag_loop aE aB hE l h) fun _ =>
  Ag.ite (fun _=>Ag.bind rfl (take_le l) fun _ l1 h1=>Ag.bind (aE 0 l1 (by omega)) (hE 0 l1) fun c l2 h2=>Ag.bind rfl (need_le _ l2) fun _ l3 h3=>by rw [ag_body aB _ l3 (by omega)]) fun _ =>
  Ag.ite (fun _=>Ag.bind rfl (take_le l) fun _ l1 h1=>Ag.bind (ag_body aB _ l1 (by omega)) (body_le hB _ l1) fun b l2 h2=>by rw [aE 0 l2 (by omega)]) fun _ =>
  Ag.ite (fun _=>Ag.bind rfl (take_le l) fun _ l1 h1=>by rw [ag_body aB _ l1 (by omega)]) fun _=>rfl
include aE aB hE hB in
theorem ag_stat (l:List Tk) (h:l.length≤N):statR E B l=statR E' B' l:=Ag.ite (fun _=>ag_key aE aB hE hB l h) fun _=>Ag.ite (fun _=>rfl) fun _=>ag_simple aE hE l h
include aE hE in
theorem ag_ret (l:List Tk) (h:l.length≤N):retR E l=retR E' l :=
  Ag.bind rfl (take_le l) fun t l1 h1=>by rw [ag_listR aE hE l1 (by omega)]
include aE aB hE hB in
theorem ag_blkG:∀ n acc l,l.length≤N→blkG E B n acc l=blkG E' B' n acc l
  | 0,_,_,_=>rfl
  | n+1,acc,l,h=>Ag.ite (fun _=>rfl) fun _=>Ag.ite (fun hc=>ag_blkG n _ _ (by have:=tail_lt hc;omega)) fun _=>Ag.ite (fun _=>by rw [ag_ret aE hE l h]) fun _=>Ag.bind (ag_stat aE aB hE hB l h) (stat_le hE hB l) fun s l1 h1=>ag_blkG n _ _ (by omega)
end
theorem EB_ag:∀ n,AE n (EB n).1 (EB (n+1)).1∧AB n (EB n).2 (EB (n+1)).2
  | 0=>⟨fun _ _ h=>absurd h (Nat.not_lt_zero _),fun _ h=>absurd h (Nat.not_lt_zero _)⟩
  | n+1=>⟨fun lim l h=>ag_exp (EB_ag n).1 (EB_ag n).2 (EB_le n).1 (EB_le n).2 lim l (Nat.le_of_lt_succ h),fun l h=>ag_blkG (EB_ag n).1 (EB_ag n).2 (EB_le n).1 (EB_le n).2 _ _ l (Nat.le_of_lt_succ h)⟩
def retZ:Sb:=[114,101,116,117,114,110,32]
def rtk:Tk:=⟨2,txA [114,101,116,117,114,110],1,0⟩
theorem scanX_bl (a ln:Nat) (r:Sb) (acc:List Tk):scanX a ln (32::r) acc=scanX (a+1) ln r acc:=by
  have h:skipL false (32::r)=(1+(skipL false r).1,(skipL false r).2):=by rw [skipL_f];simp
  rw [scanX_eq a,scanX_eq (a+1),h];have h2:(32::r).drop (1+(skipL false r).1)=r.drop (skipL false r).1:=by rw [Nat.add_comm];rfl
  simp only [h2,show a+(1+(skipL false r).1)=a+1+(skipL false r).1 from by omega]
theorem ret_tok (s:Sb):tokL 0 1 (114::([101,116,117,114,110,32]++s))=.ok (rtk,6):=by
  have h6:spanB wordB (114::([101,116,117,114,110,32]++s))=6:=by
    unfold spanB;simp [List.takeWhile_cons,show wordB 114=true by decide,show wordB 101=true by decide,show wordB 116=true by decide,show wordB 117=true by decide,show wordB 110=true by decide,show wordB 32=false by decide]
  unfold tokL;simp only [h6];rw [if_pos (show initB 114=true by decide)];rw [if_neg (show ¬ 40<6 by decide)];rfl
theorem scan_ret (s:Sb):scanX 0 1 (retZ++s) []=scanX 7 1 s [rtk]:=by
  have h:skipL false (retZ++s)=(0,0):=rfl;rw [scanX_eq 0,h];have h2:(retZ++s).drop 0=114::([101,116,117,114,110,32]++s):=rfl;have h3:tokL (0+0) (1+0) (114::([101,116,117,114,110,32]++s))=.ok (rtk,6):=ret_tok s;simp only [h2,h3];exact scanX_bl 6 1 s [rtk]
theorem scanT_ret {s:Sb} (hs:s.length≤2000):scanT (retZ++s)=match scanT s with
    | .error x=>.error (x.1+0,x.2)
    | .ok L=>.ok (rtk::L.map (shT 7 0)):=by
  have hl:(retZ++s).length≤65536:=by rw [List.length_append];show 7+_≤_;omega
  rw [scanT_eq,scanT_eq,if_neg (by omega),if_neg (by omega),scan_ret,scan_acc s.length 7 1 s [rtk] (Nat.le_refl _)];have h:=scan_sh 7 0 s.length 0 1 s [] (Nat.le_refl _);rw [show (0+7:Nat)=7 from rfl,show (1+0:Nat)=1 from rfl,List.map_nil] at h;rw [h];rcases scanX 0 1 s [] with x|L <;> rfl
mutual
theorem Ex.ml_id:∀ x:Ex,x.ml id=x
  | .mk k o l p q s a f=>by simp only [Ex.ml,id,Ex.mls_id a,Fn.mls_id f]
theorem Ex.mls_id:∀ l:List Ex,Ex.mls id l=l
  | []=>rfl
  | x::r=>by simp only [Ex.mls,Ex.ml_id x,Ex.mls_id r]
theorem Fn.ml_id:∀ x:Fn,x.ml id=x
  | .mk n p v b l=>by simp only [Fn.ml,id,St.mls_id b]
theorem Fn.mls_id:∀ l:List Fn,Fn.mls id l=l
  | []=>rfl
  | x::r=>by simp only [Fn.mls,Fn.ml_id x,Fn.mls_id r]
theorem St.ml_id:∀ x:St,x.ml id=x
  | .mk k l n a b c t=>by simp only [St.ml,id,Ex.mls_id a,Ex.mls_id b,St.mlss_id c]
theorem St.mls_id:∀ l:List St,St.mls id l=l
  | []=>rfl
  | x::r=>by simp only [St.mls,St.ml_id x,St.mls_id r]
theorem St.mlss_id:∀ l:List (List St),St.mlss id l=l
  | []=>rfl
  | x::r=>by simp only [St.mlss,St.mls_id x,St.mlss_id r]
end
theorem nt_sh (d:Nat):Nt (shT d 0) id:=⟨fun _=>rfl,fun _=>rfl,fun t=>by simp [shT],rfl⟩
theorem exp_no {E:EF} {B:BF} {lim:Int} {l:List Tk} (h:endsB l=true∨isB [59] l=true):∀ v r,expR E B lim l≠.ok v r:=by
  intro v r hx;cases l with
  | nil=>simp [expR,unR,priR,prefR,headR,nameR,Res.bind,isB,nextK,unB,tk0] at hx
  | cons t r2 =>
    have h2:∃ s,(s=sEnd∨s=[101,108,115,101]∨s=[101,108,115,101,105,102]∨s=[117,110,116,105,108]∨s=[59])∧isB s (t::r2)=true:=by
      rcases h with h|h
      · unfold endsB at h;simp only [Bool.or_eq_true,List.isEmpty_cons,Bool.false_eq_true,false_or] at h;rcases h with ((h|h)|h)|h
        · exact ⟨_,.inl rfl,h⟩
        · exact ⟨_,.inr (.inl rfl),h⟩
        · exact ⟨_,.inr (.inr (.inl rfl)),h⟩
        · exact ⟨_,.inr (.inr (.inr (.inl rfl))),h⟩
      · exact ⟨_,.inr (.inr (.inr (.inr rfl))),h⟩
    obtain ⟨s,hs,hi⟩:=h2;simp only [isB,Bool.and_eq_true,Bool.or_eq_true,beq_iff_eq] at hi;obtain ⟨hk,ht⟩:=hi
    rcases hs with rfl|rfl|rfl|rfl|rfl <;> rcases hk with hk|hk <;>
      simp [expR,unR,priR,prefR,headR,nameR,Res.bind,isB,nextK,unB,hk,ht] at hx
theorem blk_ret (l:List Tk):(EB 70000).2 (rtk::l)=(retR (EB 69999).1 (rtk::l)).bind fun s l1=>.ok [s] l1:=by
  show blkG (EB 69999).1 (EB 69999).2 ((l.length+1)+1) [] (rtk::l)=_;rw [blkG];have e1:endsB (rtk::l)=false:=rfl;have e2:isB [59] (rtk::l)=false:=rfl;have e3:isB [114,101,116,117,114,110] (rtk::l)=true:=rfl;rw [if_neg (by rw [e1];decide),if_neg (by rw [e2];decide),if_pos e3];rfl
theorem ret_kind {E:EF} {l:List Tk} {s:St} {r:List Tk} (h:retR E l=.ok s r):s.kind=11:=by
  unfold retR at h;rcases ht:takeR l with ⟨t,l1⟩|l1
  · rw [ht] at h;simp only [Res.bind] at h;generalize (if endsB l1=false∧isB [59] l1=false then listR E l1 else .ok [] l1)=R at h;rcases R with ⟨xs,l2⟩|l2
    · simp only at h;generalize (if isB [59] l2=true then l2.tail else l2)=l3 at h;by_cases h5:endsB l3=true
      · rw [if_pos h5] at h;cases h;rfl
      · rw [if_neg h5] at h;cases h
    · cases h
  · rw [ht] at h;cases h
theorem ret_one {E:EF} {l:List Tk} {x:Ex} (h:E 0 l=.ok x []) (h1:endsB l=false) (h2:isB [59] l=false):retR E (rtk::l)=.ok (.mk 11 1 [] [] [x] [] ⟨#[]⟩) []:=by
  unfold retR;have hl:listR E l=.ok [x] []:=by unfold listR;rw [h];rfl
  show Res.bind (if endsB l=false∧isB [59] l=false then listR E l else .ok [] l) _=_;rw [if_pos ⟨h1,h2⟩,hl];rfl
theorem ret_ok {cv:List St→Int} (hcv:∀ x,cv [.mk 11 1 [] [] [x] [] ⟨#[]⟩]=cv [retS x]) {s:Sb} (hs:s.length≤2000) {x:Ex} (h:exprV cv s=.ok x):chunkV cv (retZ++s)=.ok [.mk 11 1 [] [] [x] [] ⟨#[]⟩]:=by
  unfold exprV at h;rcases hp:pexpW s with e|y
  · rw [hp] at h;cases h
  · rw [hp] at h;simp only at h;split at h
    · rename_i hc;cases h;obtain ⟨L,h1,h2⟩:=parseW_inv hp;have hlen:=(scanT_ok h1).2.1
      have hx:(EB 69999).1 0 (L.map (shT 7 0))=.ok x []:=by
        rw [(EB_ag 69999).1 0 _ (by rw [List.length_map];omega),((nt_sh 7).EB 70000).1 0 L,h2];simp [Res.lift,Ex.ml_id]
      have hno:∀ h9:endsB (L.map (shT 7 0))=true∨isB [59] (L.map (shT 7 0))=true,False:=fun h9=>exp_no (E:=(EB 69998).1) (B:=(EB 69998).2) (lim:=0) h9 _ _ hx
      have hb:(EB 70000).2 (rtk::L.map (shT 7 0))=.ok [.mk 11 1 [] [] [x] [] ⟨#[]⟩] []:=by
        rw [blk_ret,ret_one hx (Bool.eq_false_iff.2 fun h9=>hno (.inl h9)) (Bool.eq_false_iff.2 fun h9=>hno (.inr h9))];rfl
      have hsc:scanT (retZ++s)=.ok (rtk::L.map (shT 7 0)):=by rw [scanT_ret hs,h1]
      unfold chunkV pblkW;rw [parseW_ok hsc,hb]
      (try simp only)
      show (if cv [.mk 11 1 [] [] [x] [] ⟨#[]⟩]=0 then _ else _)=_;rw [if_pos (by rw [hcv];exact hc)]
    · cases h
theorem ret_bad {cv:List St→Int} {s:Sb} (hs:s.length≤2000):(∃ e,chunkV cv (retZ++s)=.error e)∨∃ st r,chunkV cv (retZ++s)=.ok (st::r)∧st.kind=11:=by
  rcases hc:chunkV cv (retZ++s) with e|b
  · exact .inl ⟨e,rfl⟩
  · unfold chunkV at hc;rcases hp:pblkW (retZ++s) with e|b'
    · rw [hp] at hc;cases hc
    · rw [hp] at hc;simp only at hc;split at hc
      · cases hc;obtain ⟨L,h1,h2⟩:=parseW_inv hp;rw [scanT_ret hs] at h1;rcases hs:scanT s with e|L'
        · rw [hs] at h1;cases h1
        · rw [hs] at h1;cases h1;rw [blk_ret] at h2;rcases hr:retR (EB 69999).1 (rtk::L'.map (shT 7 0)) with ⟨st,l⟩|l
          · rw [hr] at h2;cases h2;exact .inr ⟨_,_,rfl,ret_kind hr⟩
          · rw [hr] at h2;cases h2
      · cases hc
end Go.Proofs.YtdekaghipjpgpaaGreatDoor
