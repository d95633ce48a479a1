import Derived.Test.YtgncgcfnlbfahaaGreatDoorC1
set_option linter.all false
namespace Go.Proofs.YtgncgcfnlbfahaaGreatDoor
open Go.RowKit
section
variable{P:Program}{ops:Array Oper}{Q:Exit→Act→World→Prop}{md:Region.Mode}{G:Array Bool→World→Prop}
def j9(P:Program)(md:Region.Mode)(ops:Array Oper)(Q:Exit→Act→World→Prop)(G:Array Bool→World→Prop):Nat→Array Bool→Act→World→Prop
 |0,l,a,w=>Region.ready md ops l=[]∧Q .normal a w
 |n+1,l,a,w=>(Region.ready md ops l=[]→Q .normal a w)∧∀i∈Region.ready md ops l,wpOp P ops Q i (fun a' w'=>G (l.setIfInBounds i true) w'∧j9 P md ops Q G n (l.setIfInBounds i true) a' w') a w
theorem yj:∀(n:Nat) (l:Array Bool) (a:Act) (w:World),j9 P md ops Q G n l a w→wpAny P md ops Q n l a w
 |0,_,_,_,h=>h
 |n+1,_,_,_,h=>⟨h.1,fun i hi=>wpOp_mono (fun a' w' h'=>yj n _ a' w' h'.2) (h.2 i hi)⟩
theorem cg{l:Array Bool}{a:Act}{w:World}(hr:Region.ready md ops l=[])(h:Q .normal a w):∀n,j9 P md ops Q G n l a w
 |0=>⟨hr,h⟩
 |_+1=>⟨fun _=>h,by rw[hr];simp⟩
theorem yh{i:Nat}{oi:Oper}{v:Value}{Y:World→Prop}{V:Array Bool→Prop}(hi:ops[i]?=some oi)(hsel:∀(j:Nat) (o:Oper) cs b,ops[j]?=some o→o.op≠.select cs b)(hQ:∀c a w,Q (.panic c) (a.put oi.dst v) w→Q (.panic c) a w)(hG:∀l w,V l→G l w→Y w)(hGi:∀l w,G (l.setIfInBounds i true) w↔G l w)(hV:∀l j,V l→l.getD i true=false→j∈Region.ready md ops l→j≠i→V (l.setIfInBounds j true)):
  ∀(n:Nat) (l:Array Bool) (a:Act) (w:World),(∀j oj,ops[j]?=some oj→j≠i→l.getD j true=false→(∀e∈oj.after,Region.binds md e=true→e.on≠i)→oi.apart ops oj=true) →
   i∈Region.ready md ops l→YieldsIf P ops Y oi v a→G l w→V l→j9 P md ops Q G n (l.setIfInBounds i true) (a.put oi.dst v) w→j9 P md ops Q G (n+1) l a w:=by
 intro n
 induction n with
 |zero =>
  intro l a w _ hr hy hS hv H;refine⟨fun h=>(by rw[h]at hr;cases hr),fun j hj=>?_⟩;by_cases hji:j=i
  ·subst hji;exact hy.wpOp hi (hG _ _ hv hS) ⟨(hGi _ _).2 hS,H⟩
  ·have:=ready_mono hj hji;rw[H.1]at this;cases this
 |succ n ih =>
  intro l a w hfree hr hy hS hv H;refine⟨fun h=>(by rw[h]at hr;cases hr),fun j hj=>?_⟩;by_cases hji:j=i
  ·subst hji;exact hy.wpOp hi (hG _ _ hv hS) ⟨(hGi _ _).2 hS,H⟩
  ·have h1:=H.2 j (ready_mono hj hji);have h0:=(mem_ready.1 hr).1;obtain⟨hjun,oj,hoj,hall⟩:=mem_ready.1 hj
   have hnot:∀e∈oj.after,Region.binds md e=true→e.on≠i:=fun e he hb heq=>by
    have h1:=hall e he hb;rw[heq]at h1;rcases Nat.lt_or_ge i l.size with h'|h'
    ·simp[h']at h0 h1;rw[h0]at h1;cases h1
    ·simp[Array.getElem?_eq_none h']at h1
   have h2:=wpOp_putIf hoj (hfree j oj hoj hji hjun hnot) (fun cs b=>hsel i oi cs b hi) (fun cs b=>hsel j oj cs b hoj) hQ hy h1
   have hfree':∀k ok,ops[k]?=some ok→k≠i→(l.setIfInBounds j true).getD k true=false→(∀e∈ok.after,Region.binds md e=true→e.on≠i)→oi.apart ops ok=true:=fun k ok hk hki hun hno=>by
    refine hfree k ok hk hki ?_ hno;by_cases hjk:j=k
    ·subst hjk;exact hjun
    ·rw[getD_set_ne true hjk]at hun;exact hun
   refine wpOp_mono (fun a' w' h3=>?_) h2;have h4:=h3.2.1;have hc:(l.setIfInBounds i true).setIfInBounds j true=(l.setIfInBounds j true).setIfInBounds i true:=Array.setIfInBounds_comm _ _ (Ne.symm hji);rw[hc]at h4;have h5:=(hGi _ _).1 h4;refine⟨h5,ih (l.setIfInBounds j true) a' w' hfree' (ready_mono hr (Ne.symm hji)) h3.1 h5 (hV l j hv h0 hj hji) ?_⟩;rw[←hc];exact h3.2.2
end
section
variable{P:Program}{ops:Array Oper}{Q:Exit→Act→World→Prop}{md:Region.Mode}{T:World→Prop}{c:Nat}
def G2(T:World→Prop)(c:Nat)(l:Array Bool)(w:World):Prop:=l.getD c true=false→T w
abbrev dP(P:Program)(md:Region.Mode)(ops:Array Oper)(Q:Exit→Act→World→Prop)(T:World→Prop)(c:Nat):=j9 P md ops Q (G2 T c)
def rt(md:Region.Mode)(ops:Array Oper)(j i:Nat):Bool:=(ops[j]?.map fun o=>o.after.any fun e=>Region.binds md e&&e.on==i)==some true
def iB(md:Region.Mode)(ops:Array Oper)(c:Nat):Nat→List Nat→Bool
 |i,[]=>i==c
 |i,j::r=>rt md ops j i&&iB md ops c j r
theorem II{i j k:Nat}{l:Array Bool}(hw:rt md ops j i=true)(hu:l.getD i true=false)(hk:k∈Region.ready md ops l):k≠j:=by
 rintro rfl;obtain⟨-,oj,hoj,hall⟩:=mem_ready.1 hk;unfold rt at hw;rw[hoj]at hw;simp only[Option.map_some,beq_iff_eq,Option.some.injEq]at hw;obtain⟨e,he,hb⟩:=Array.any_eq_true'.1 hw;rw[Bool.and_eq_true,beq_iff_eq]at hb;have h1:=hall e he hb.1;rw[hb.2]at h1;rcases Nat.lt_or_ge i l.size with h'|h'
 ·simp[h']at hu h1;rw[hu]at h1;cases h1
 ·simp[Array.getElem?_eq_none h']at h1
theorem sT{k:Nat}{l:Array Bool}(hk:k∈Region.ready md ops l):∀{i:Nat} {cs:List Nat},iB md ops c i cs=true→l.getD i true=false→(∀j∈cs,l.getD j true=false)→∀j∈cs,(l.setIfInBounds k true).getD j true=false
 |i,[],_,_,_=>fun j hj=>by cases hj
 |i,j::r,h,hu,ha=>by
  rw[iB,Bool.and_eq_true]at h;intro m hm;rcases List.mem_cons.1 hm with rfl|hm
  ·rw[getD_set_ne true (II h.1 hu hk)];exact ha _ List.mem_cons_self
  ·exact sT hk h.2 (ha j List.mem_cons_self) (fun x hx=>ha x (List.mem_cons_of_mem _ hx)) m hm
theorem sU:∀{i:Nat} {cs:List Nat},iB md ops c i cs=true→c∈i::cs
 |i,[],h=>by rw[iB,beq_iff_eq]at h;subst h;exact List.mem_cons_self
 |i,j::r,h=>by rw[iB,Bool.and_eq_true]at h;exact List.mem_cons_of_mem _ (sU h.2)
theorem IR{i:Nat}{oi:Oper}{v:Value}{fuel:Nat}{l:Array Bool}{a:Act}{w:World}(hi:ops[i]?=some oi)(hs:Region.noSelect ops=true)(hf:Region.free md ops l i=true)(hr:(Region.ready md ops l).contains i=true)(hc:i≠c)(hQ:∀c a w,Q (.panic c) (a.put oi.dst v) w→Q (.panic c) a w)(hy:YieldsIf P ops (fun _=>True) oi v a)(hT:T w)(h:dP P md ops Q T c fuel (l.setIfInBounds i true) (a.put oi.dst v) w):dP P md ops Q T c (fuel+1) l a w:=
 yh (Y:=fun _=>True) (V:=fun _=>True) hi (Region.noSelect_spec hs) hQ (fun l w _ h=>trivial) (fun l w=>by unfold G2;rw[getD_set_ne true hc]) (fun _ _ _ _ _ _=>trivial) fuel l a w (Region.free_spec hi hf) (by simpa using hr) hy (fun _=>hT) trivial h
theorem IQ{i:Nat}{oi:Oper}{v:Value}{fuel:Nat}{l:Array Bool}{a:Act}{w:World}(cs:List Nat)(hi:ops[i]?=some oi)(hs:Region.noSelect ops=true)(hf:Region.free md ops l i=true)(hr:(Region.ready md ops l).contains i=true)(hc:i≠c)(hw:iB md ops c i cs=true)(hl:(cs.all fun j=>l.getD j true==false)=true)(hQ:∀c a w,Q (.panic c) (a.put oi.dst v) w→Q (.panic c) a w)(hy:YieldsIf P ops T oi v a)(hT:T w)(h:dP P md ops Q T c fuel (l.setIfInBounds i true) (a.put oi.dst v) w):dP P md ops Q T c (fuel+1) l a w:=
 yh (Y:=T) (V:=fun l=>∀j∈cs,l.getD j true=false) hi (Region.noSelect_spec hs) hQ (fun l w hv h=>h (hv c (by rcases List.mem_cons.1 (sU hw)with h|h;exact absurd h.symm hc;exact h))) (fun l w=>by unfold G2;rw[getD_set_ne true hc])
  (fun l j hv hu hj hji=>sT hj hw hu hv) fuel l a w (Region.free_spec hi hf) (by simpa using hr) hy (fun _=>hT) (fun j hj=>by have:=List.all_eq_true.1 hl j hj;rwa [beq_iff_eq]at this) h
theorem ch{id:Nat}{a:Act}{w:World}(hm:P.follows .mixedOrders=true)(hT:T w.drew)(h:T w.drew→dP P .any ops Q T c ops.size (Array.replicate ops.size false) a w.drew):(Code.region id ops true).wp P Q a w:=
 wp_region_any hm (yj _ _ _ _ (h hT))
def dR(P:Program)(md:Region.Mode)(ops:Array Oper)(Q:Exit→Act→World→Prop)(T:World→Prop)(c fuel:Nat)(l:Array Bool)(a:Act)(w:World)(rs:List Nat):Prop:=
 ∀i∈rs,wpOp P ops Q i (fun a' w'=>G2 T c (l.setIfInBounds i true) w'∧dP P md ops Q T c fuel (l.setIfInBounds i true) a' w') a w
theorem dR.nil{fuel:Nat}{l:Array Bool}{a:Act}{w:World}:dR P md ops Q T c fuel l a w []:=fun _ h=>by cases h
theorem dR.cons{fuel:Nat}{l:Array Bool}{a:Act}{w:World}{i:Nat}{o:Oper}{rs:List Nat}(ho:ops[i]?=some o)(h:∀K':Act→World→Prop,Shut (∀a w,T w→(T w→dP P md ops Q T c fuel (l.setIfInBounds i true) a w)→K' a w)→if Region.wanted o (yielded ops a.tmps)=true then Oper.wp P o a w K' Q else K' (a.put o.dst undef) w)(hs:dR P md ops Q T c fuel l a w rs):dR P md ops Q T c fuel l a w (i::rs):=fun j hj=>by
 rcases List.mem_cons.1 hj with rfl|hj
 ·exact wpOp_step ho (fun K' hK=>h K' (fun a w hT hW=>hK a w ⟨fun _=>hT,hW hT⟩))
 ·exact hs j hj
theorem dR.late{fuel:Nat}{l:Array Bool}{a:Act}{w:World}{i:Nat}{o:Oper}{rs:List Nat}(ho:ops[i]?=some o)(hl:(l.setIfInBounds i true).getD c true=true)(h:∀K':Act→World→Prop,Shut (∀a w,dP P md ops Q T c fuel (l.setIfInBounds i true) a w→K' a w)→if Region.wanted o (yielded ops a.tmps)=true then Oper.wp P o a w K' Q else K' (a.put o.dst undef) w)(hs:dR P md ops Q T c fuel l a w rs):dR P md ops Q T c fuel l a w (i::rs):=fun j hj=>by
 rcases List.mem_cons.1 hj with rfl|hj
 ·exact wpOp_step ho (fun K' hK=>h K' (fun a w hW=>hK a w ⟨fun h9=>(by rw[hl]at h9;cases h9),hW⟩))
 ·exact hs j hj
theorem ry{rs:List Nat}{fuel:Nat}{l:Array Bool}{a:Act}{w:World}(hr:Region.ready md ops l=rs)(hne:rs≠[])(h:dR P md ops Q T c fuel l a w rs):dP P md ops Q T c (fuel+1) l a w:=⟨fun h0=>absurd (hr▸h0) hne,hr▸h⟩
theorem dG{fuel:Nat}{l:Array Bool}{a:Act}{w:World}{o:Oper}(i:Nat)(h:∀K':Act→World→Prop,Shut (∀a w,dP P md ops Q T c fuel (l.setIfInBounds i true) a w→K' a w)→if Region.wanted o (yielded ops a.tmps)=true then Oper.wp P o a w K' Q else K' (a.put o.dst undef) w)(hr:Region.ready md ops l=[i]:=by kernel_rfl)(ho:ops[i]?=some o:=by exact rfl)(hl:(l.setIfInBounds i true).getD c true=true:=by kernel_rfl):dP P md ops Q T c (fuel+1) l a w:=ry hr (by simp) (dR.late ho hl h dR.nil)
theorem eG{fuel:Nat}{l:Array Bool}{a:Act}{w:World}{o:Oper}(i:Nat)(h:∀K':Act→World→Prop,Shut (∀a w,T w→(T w→dP P md ops Q T c fuel (l.setIfInBounds i true) a w)→K' a w)→if Region.wanted o (yielded ops a.tmps)=true then Oper.wp P o a w K' Q else K' (a.put o.dst undef) w)(hr:Region.ready md ops l=[i]:=by kernel_rfl)(ho:ops[i]?=some o:=by exact rfl):dP P md ops Q T c (fuel+1) l a w:=ry hr (by simp) (dR.cons ho h dR.nil)
section
variable{oi:Oper}{v:Value}{fuel:Nat}{listed:Array Bool}{a a':Act}{w:World}{d:Nat}
theorem tG(i:Nat)(h:dP P md ops Q T c fuel (listed.setIfInBounds i true) a' w)(hi:ops[i]?=some oi:=by exact rfl)(hd:oi.dst=some d:=by exact rfl)(hs:Region.noSelect ops=true:=by kernel_rfl)(hf:Region.free md ops listed i=true:=by kernel_rfl)(hr:(Region.ready md ops listed).contains i=true:=by kernel_rfl)(hc:i≠c:=by decide)(hy:YieldsIf P ops (fun _=>True) oi v a:=by exact Or.inl ⟨by rfl,by(intro w9 _;go_simp;try with_reducible rfl)⟩)(ha:Act.put a (some d) v=a':=by(try simp only[Act.put,au,av,aw]);first|done|exact rfl)(hQ:∀c a w,Q (.panic c) (a.put oi.dst v) w→Q (.panic c) a w:=by exact fun _ _ _ h=>h)(hT:T w:=by assumption):dP P md ops Q T c (fuel+1) listed a w:=
 IR hi hs hf hr hc hQ hy hT (by rw[hd,ha];exact h)
theorem lG(i:Nat)(cs:List Nat)(h:dP P md ops Q T c fuel (listed.setIfInBounds i true) a' w)(hi:ops[i]?=some oi:=by exact rfl)(hd:oi.dst=some d:=by exact rfl)(hs:Region.noSelect ops=true:=by kernel_rfl)(hf:Region.free md ops listed i=true:=by kernel_rfl)(hr:(Region.ready md ops listed).contains i=true:=by kernel_rfl)(hc:i≠c:=by decide)(hw:iB md ops c i cs=true:=by kernel_rfl)(hl:(cs.all fun j=>listed.getD j true==false)=true:=by kernel_rfl)(hy:YieldsIf P ops T oi v a:=by exact Or.inl ⟨by rfl,by(intro w9 hS9;(try dsimp only at hS9);(try obtain⟨hS9,hS8⟩:=hS9);(try obtain⟨hS8,hS7⟩:=hS8);go_simp;try with_reducible rfl)⟩)(ha:Act.put a (some d) v=a':=by(try simp only[Act.put,au,av,aw]);first|done|exact rfl)(hQ:∀c a w,Q (.panic c) (a.put oi.dst v) w→Q (.panic c) a w:=by exact fun _ _ _ h=>h)(hT:T w:=by assumption):dP P md ops Q T c (fuel+1) listed a w:=
 IQ cs hi hs hf hr hc hw hl hQ hy hT (by rw[hd,ha];exact h)
end
end
