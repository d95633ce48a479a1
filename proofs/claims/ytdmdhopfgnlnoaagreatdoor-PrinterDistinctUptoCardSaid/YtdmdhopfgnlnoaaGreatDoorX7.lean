/- The tokens of a statement are parsed to the statement. -/
import Derived.Test.YtdmdhopfgnlnoaaGreatDoorX1
import Derived.Test.YtdmdhopfgnlnoaaGreatDoorE1
namespace Go.Proofs.YtdmdhopfgnlnoaaGreatDoor
open Go.RowKit
set_option linter.unusedVariables false
set_option linter.unusedSimpArgs false
theorem att_law (a:Int) (h:0≤a∧a≤2) {rest:List Tk} (hr:zh [60] rest=false):Xe (jH a++rest)=.ok a rest:=by
  have h2:a=0∨a=1∨a=2:=by omega
  rcases h2 with rfl|rfl|rfl
  · show Xe rest=_;unfold Xe;rw [hr];rfl
  · show Xe (sy [60]::qw _::sy [62]::rest)=_;unfold Xe;rw [Vj,if_pos (by decide),List.tail_cons];show (attr1 (qw ⟨#[99,111,110,115,116]⟩::sy [62]::rest)).bind _=_;have e:attr1 (qw ⟨#[99,111,110,115,116]⟩::sy [62]::rest)=.ok 1 (sy [62]::rest):=rfl;rw [e,Zo,Jk,Zo]
  · show Xe (sy [60]::qw _::sy [62]::rest)=_;unfold Xe;rw [Vj,if_pos (by decide),List.tail_cons];have e:attr1 (qw ⟨#[99,108,111,115,101]⟩::sy [62]::rest)=.ok 2 (sy [62]::rest):=rfl;rw [e,Zo,Jk,Zo]
theorem nam_cons (x z:ByteArray × Int) (l:List (ByteArray × Int)):Kj (x::z::l)=qw x.1::(jH x.2++sy [44]::Kj (z::l)):=by simp [Kj,VM]
theorem yX:∀ (l:List (ByteArray × Int)) (x:ByteArray × Int),(∀ y ∈ x::l,0≤y.2∧y.2≤2)→∀ (F:Nat) (acc:List (ByteArray × Int)) (rest:List Tk),l.length+1≤F→zh [44] rest=false→zh [60] rest=false →
    namesG F acc (Kj (x::l)++rest)=.ok (acc++x::l) rest
  | [],x,hy,F+1,acc,rest,_,h1,h2=>by
    have e:Kj [x]++rest=qw x.1::(jH x.2++rest):=by simp [Kj,VM]
    rw [e,namesG,qT,Zo,att_law x.2 (hy x (by simp)) h2,Zo,h1,if_neg (by decide)];rfl
  | z::l,x,hy,F+1,acc,rest,hF,h1,h2=>by
    have e:Kj (x::z::l)++rest=qw x.1::(jH x.2++sy [44]::(Kj (z::l)++rest)):=by
      rw [nam_cons];simp
    rw [e,namesG,qT,Zo,att_law x.2 (hy x (by simp)) (by rw [Vj];rfl),Zo,Vj,if_pos (by decide),List.tail_cons];show namesG F (acc++[(x.1,x.2)]) _=_;rw [yX l z (fun y h=>hy y (by simp at h ⊢;exact .inr h)) F _ rest (by simp at hF;omega) h1 h2];simp
theorem xnam_len:∀ l:List (ByteArray × Int),l.length≤(Kj l).length
  | []=>Nat.zero_le _
  | [x]=>by simp [Kj,VM]
  | x::y::r=>by
    have:=xnam_len (y::r);rw [nam_cons];simp only [List.length_append,List.length_cons] at this ⊢;omega
theorem for_go:∀ (l:List (ByteArray × Int)),(∀ y ∈ l,y.2=0)→∀ (F:Nat) (acc:List (ByteArray × Int)) (rest:List Tk),l.length+1≤F→zh [44] rest=false →
    forG F acc ((l.map fun x=>qw x.1::jH x.2).flatMap (sy [44] :: ·)++rest)=.ok (acc++l) rest
  | [],_,F+1,acc,rest,_,h=>by
    show forG (F+1) acc rest=_;rw [forG,h,if_neg (by decide)];simp
  | x::l,hy,F+1,acc,rest,hF,h=>by
    have h0:=hy x (by simp)
    have e:((x::l).map fun x=>qw x.1::jH x.2).flatMap (sy [44] :: ·)++rest=sy [44]::qw x.1::((l.map fun x=>qw x.1::jH x.2).flatMap (sy [44] :: ·)++rest):=by
      rw [List.map_cons,List.flatMap_cons,h0];simp [jH]
    rw [e,forG,Vj,if_pos (by decide),List.tail_cons,qT,Zo];show forG F (acc++[(x.1,0)]) _=_;rw [for_go l (fun y h=>hy y (by simp [h])) F _ rest (by simp at hF;omega) h,←h0];simp
def ye (e:Ex) (r:List ByteArray):Ex:=r.foldl (fun e k=>yg 8 0 [e,ndS 5 0 k]) e
def JV (s:Sb):List ByteArray→Bool→Sb
  | [],_=>s
  | [b],m=>s++(if m=true then [58] else [46])++b.data.toList
  | b::c::r,m=>JV (s++[46]++b.data.toList) (c::r) m
theorem path_go:∀ (r:List ByteArray) (m:Bool) (F:Nat) (e:Ex) (s:Sb) (rest:List Tk),r.length+1≤F→zh [46] rest=false→zh [58] rest=false →
    pathG F e s (XV r m++rest)=.ok (ye e r,JV s r m,m && !r.isEmpty) rest
  | [],m,F+1,e,s,rest,_,h1,h2=>by
    show pathG (F+1) e s rest=_;rw [pathG,if_neg (by rw [h1,h2];simp)];simp [ye,JV]
  | [b],true,F+1,e,s,rest,_,h1,h2=>by
    show pathG (F+1) e s (sy [58]::qw b::rest)=_;rw [pathG,if_pos (.inr (by rw [Vj];rfl)),List.tail_cons,qT,Zo,Vo,ja,if_pos rfl];rfl
  | [b],false,F+1,e,s,rest,hF,h1,h2=>by
    obtain ⟨F,rfl⟩:∃ F',F=F'+1:=⟨F - 1,by simp at hF;omega⟩
    show pathG (F+1+1) e s (sy [46]::qw b::rest)=_;rw [pathG,if_pos (.inl (by rw [Vj];rfl)),List.tail_cons,qT,Zo,Vo,ja,if_neg (by decide),pathG,if_neg (by rw [h1,h2];simp)];rfl
  | b::c::r,m,F+1,e,s,rest,hF,h1,h2=>by
    show pathG (F+1) e s (sy [46]::qw b::(XV (c::r) m++rest))=_;rw [pathG,if_pos (.inl (by rw [Vj];rfl)),List.tail_cons,qT,Zo,Vo,ja,if_neg (by decide),path_go (c::r) m F _ _ rest (by simp at hF ⊢;omega) h1 h2];rfl
theorem pathX_app (e:Ex) (r:List ByteArray) (k:ByteArray):ye e (r++[k])=yg 8 0 [ye e r,ndS 5 0 k]:=by simp [ye]
theorem path_ml:∀ (m:Nat) (x:Ex),x.sz≤m→(∃ t p,ZH t p x=0)→∀ l,Qr x=some l→∃ a r,l=a::r∧x.ml Z=ye (ndS 7 0 a) r:=by
  intro m
  induction m with
  | zero=>intro x hx;have:=x.sz_eq;omega
  | succ m ih =>
    intro x hx ⟨t,p,he⟩ l hp;have hf:=Qw he;rw [yS] at hp;by_cases h7:x.kind=7
    · rw [if_pos h7] at hp;cases hp;exact ⟨x.str,[],rfl,by rw [shp5 hf (.inr h7),h7];rfl⟩
    · rw [if_neg h7] at hp;split at hp
      · rename_i a b hab;by_cases h8:x.kind=8
        · rw [if_pos h8] at hp;by_cases hb:b.kind=5∧ZG b.str=true
          · rw [if_pos hb] at hp;obtain ⟨l',hl',rfl⟩:=Option.map_eq_some_iff.1 hp;have ha:a ∈ x.args:=by rw [hab];simp
            have hbm:b ∈ x.args:=by rw [hab];simp
            obtain ⟨a1,r,rfl,hv⟩:=ih a (by have:=Ex.args_lt ha;omega) ⟨_,_,(Qm.1 he).2.1 a ha⟩ l' hl';refine ⟨a1,r++[b.str],rfl,?_⟩;obtain ⟨a',b',hab',-,hx8⟩:=shp8 hf h8;rw [hab] at hab';cases hab';rw [hx8,pathX_app,hv,shp5 (Qw ((Qm.1 he).2.1 b hbm)) (.inl hb.1),hb.1]
          · rw [if_neg hb] at hp;cases hp
        · rw [if_neg h8] at hp;cases hp
      · cases hp
theorem yZ:∀ (r:List ByteArray) (s:Sb),JV s r false=s++Lib.joinTail [46] (r.map (·.data.toList))
  | [],s=>by simp [JV,Lib.joinTail]
  | [b],s=>by simp [JV,Lib.joinTail]
  | b::c::r,s=>by
    rw [JV,yZ (c::r)];simp [Lib.joinTail]
theorem yY:∀ (r:List ByteArray) (b:ByteArray) (s:Sb),JV s (r++[b]) true=s++Lib.joinTail [46] (r.map (·.data.toList))++58::b.data.toList
  | [],b,s=>by simp [JV,Lib.joinTail]
  | [c],b,s=>by simp [JV,Lib.joinTail]
  | c::d::r,b,s=>by
    show JV s (c::d::(r++[b])) true=_;rw [JV];have:=yY (d::r) b (s++[46]++c.data.toList);rw [List.cons_append] at this;rw [this];simp [Lib.joinTail]
theorem dots_name (a:ByteArray) (r:List ByteArray):Xh (JV a.data.toList r false)=zu (a::r):=by
  rw [yZ];unfold zu Xh;rw [List.map_cons,Lib.join_cons]
def jM (E:EF) (B:BF) (s:St) (rest:List Tk):Prop:=∃ (c:Bool) (t:List Tk),kS s=(if c=true then [sy [59]] else [])++t∧t≠[]∧zV (t++rest)=false∧zh [59] (t++rest)=false∧zh [114,101,116,117,114,110] (t++rest)=false∧jJ E B (t++rest)=.ok (s.ml Z) rest∧XR (kS s++rest)
section
variable {E:EF} {B:BF} {n:Nat}
theorem jQ {s:St} {rest t:List Tk} (u:Sb) (hu:u ∈ kwsS) (hn:u ∉ ([VP,[101,108,115,101],KF,[117,110,116,105,108],[59],[114,101,116,117,114,110]]:List Sb)) (hk:kS s=ky u::t) (h:jg E B (ky u::(t++rest))=.ok (s.ml Z) rest):jM E B s rest:=by
  have e:∀ w ∈ ([VP,[101,108,115,101],KF,[117,110,116,105,108],[59],[114,101,116,117,114,110]]:List Sb),zh w (ky u::(t++rest))=false:=fun w hw=>by
    rw [Jn,beq_eq_false_iff_ne];rintro rfl;exact hn hw
  refine ⟨false,_,hk,by simp,?_,?_,?_,?_,?_⟩
  · show zV (ky u::(t++rest))=false;unfold zV;rw [e _ (by decide),e _ (by decide),e _ (by decide),e _ (by decide)];rfl
  · exact e _ (by decide)
  · exact e _ (by decide)
  · show jJ E B (ky u::(t++rest))=_;unfold jJ;rw [Vo,if_pos (show (ky u).kind=2 from rfl),h]
  · rw [hk];exact stp_ky u _ hu
theorem vw (t:Tk) (r:List Tk):KI (t::r)=.ok t r:=rfl
variable (hE:PE E n) (hB:PB B n)
include hB in
theorem st_5 {s:St} {last:Bool} (he:Qs last s=0) (hk:s.kind=5) (hn:2*s.sz≤n) (rest:List Tk) (hr:XR rest):jM E B s rest:=by
  obtain ⟨hy,-,-,h4⟩:=Zq.1 he;have hf:=Jh hy;unfold Zp at hf;simp [hk] at hf;obtain ⟨c1,c2,c3,c4,c5⟩:=zB hf;obtain ⟨b,hb⟩:=JY c4;have c5:s.label=⟨#[]⟩:=by simpa using c5
  have hsz:St.szs b+2≤s.sz:=by rw [s.sz_eq,hb];simp only [St.szss];omega
  refine jQ (t:=kSs b++[ky VP]) Xp (by decide) (by decide) (by rw [KQ];simp [vv,hk,hb]) ?_;rw [List.append_assoc];show jg E B (ky Xp::(kSs b++ky VP::rest))=_;simp only [jg,Vo,YD];rw [if_neg (by decide),if_neg (by decide),if_neg (by decide),if_neg (by decide),if_neg (by decide),if_neg (by decide),if_pos (by decide),vw,Zo,jy hB (by omega) (h4 b (by rw [hb];simp)) VP jd,Zo,YN,hk,VX c1,VX c2,VX c3,hb,c5];rfl
include hE hB in
theorem st_6 {s:St} {last:Bool} (he:Qs last s=0) (hk:s.kind=6) (hn:2*s.sz≤n) (rest:List Tk) (hr:XR rest):jM E B s rest:=by
  obtain ⟨hy,-,h3,h4⟩:=Zq.1 he;have hf:=Jh hy;unfold Zp at hf;simp [hk] at hf;obtain ⟨c1,c2,c3,c4,c5⟩:=zB hf;obtain ⟨b,hb⟩:=JY c4;obtain ⟨x,hx⟩:=JY c3;have c5:s.label=⟨#[]⟩:=by simpa using c5
  have hsz:St.szs b+x.sz+2≤s.sz:=by rw [s.sz_eq,hb,hx];simp only [St.szss,Ex.szs];omega
  have hg:Jt x:=Xw (Ka (by omega) (by omega)) (h3 x (by rw [hx];simp));refine jQ (t:=Qa x++ky Xp::(kSs b++[ky VP])) [119,104,105,108,101] (by decide) (by decide) (by rw [KQ];simp [vv,hk,hb,hx]) ?_;have e:Qa x++ky Xp::(kSs b++[ky VP])++rest=Qa x++ky Xp::(kSs b++ky VP::rest):=by simp
  rw [e];simp only [jg,Vo,YD]
  rw [if_neg (by decide),if_neg (by decide),if_neg (by decide),if_neg (by decide),if_pos (by decide),vw,Zo,PE.arg hE (by omega) hg (by rw [UB _ _ (by decide) (by decide)];decide) (by rw [yd];rfl),Zo,KG,Zo,
    jy hB (by omega) (h4 b (by rw [hb];simp)) VP jd,Zo,YN,hk,VX c1,VX c2,hx,hb,c5]
  rfl
theorem ends_until (r:List Tk):zV (ky [117,110,116,105,108]::r)=true:=by unfold zV;simp only [Jn];rfl
theorem ends_else (r:List Tk):zV (ky [101,108,115,101]::r)=true:=by unfold zV;simp only [Jn];rfl
theorem ends_elseif (r:List Tk):zV (ky KF::r)=true:=by unfold zV;simp only [Jn];rfl
include hE hB in
theorem st_7 {s:St} {last:Bool} (he:Qs last s=0) (hk:s.kind=7) (hn:2*s.sz≤n) (rest:List Tk) (hr:XR rest):jM E B s rest:=by
  obtain ⟨hy,-,h3,h4⟩:=Zq.1 he;have hf:=Jh hy;unfold Zp at hf;simp [hk] at hf;obtain ⟨c1,c2,c3,c4,c5⟩:=zB hf;obtain ⟨b,hb⟩:=JY c4;obtain ⟨x,hx⟩:=JY c3;have c5:s.label=⟨#[]⟩:=by simpa using c5
  have hsz:St.szs b+x.sz+2≤s.sz:=by rw [s.sz_eq,hb,hx];simp only [St.szss,Ex.szs];omega
  have hg:Jt x:=Xw (Ka (by omega) (by omega)) (h3 x (by rw [hx];simp));refine jQ (t:=kSs b++ky [117,110,116,105,108]::Qa x) [114,101,112,101,97,116] (by decide) (by decide) (by rw [KQ];simp [vv,hk,hb,hx]) ?_;have e:kSs b++ky [117,110,116,105,108]::Qa x++rest=kSs b++ky [117,110,116,105,108]::(Qa x++rest):=by simp
  rw [e];simp only [jg,Vo,YD];rw [if_neg (by decide),if_neg (by decide),if_neg (by decide),if_neg (by decide),if_neg (by decide),if_pos (by decide),vw,Zo,jy hB (by omega) (h4 b (by rw [hb];simp)) _ ends_until,Zo,PE.arg hE (by omega) hg (by rw [hr.lv];decide) hr.su,Zo,YN,hk,VX c1,VX c2,hx,hb,c5];rfl
theorem st_12 {s:St} {last:Bool} (he:Qs last s=0) (hk:s.kind=12) (rest:List Tk) (hr:XR rest):jM E B s rest:=by
  obtain ⟨hy,-,h3,h4⟩:=Zq.1 he;have hf:=Jh hy;unfold Zp at hf;simp [hk] at hf;obtain ⟨c1,c2,c3,c4,c5⟩:=zB hf;have c5:s.label=⟨#[]⟩:=by simpa using c5
  refine jQ (t:=[]) [98,114,101,97,107] (by decide) (by decide) (by rw [KQ];simp [vv,hk]) ?_;show jg E B (ky _::rest)=_;simp only [jg,Vo,YD];rw [if_neg (by decide),if_neg (by decide),if_neg (by decide),if_neg (by decide),if_neg (by decide),if_neg (by decide),if_neg (by decide),if_pos (by decide),vw,Zo,YN,hk,VX c1,VX c2,VX c3,VX c4,c5];rfl
theorem st_13 {s:St} {last:Bool} (he:Qs last s=0) (hk:s.kind=13) (rest:List Tk) (hr:XR rest):jM E B s rest:=by
  obtain ⟨hy,-,h3,h4⟩:=Zq.1 he;have hf:=Jh hy;unfold Zp at hf;simp [hk] at hf;obtain ⟨c1,c2,c3,c4,c5⟩:=zB hf;refine jQ (t:=[qw s.label]) [103,111,116,111] (by decide) (by decide) (by rw [KQ];simp [vv,hk]) ?_;show jg E B (ky _::qw s.label::rest)=_;simp only [jg,Vo,YD];rw [if_neg (by decide),if_neg (by decide),if_neg (by decide),if_neg (by decide),if_neg (by decide),if_neg (by decide),if_neg (by decide),if_neg (by decide),if_pos (by decide),vw,Zo,qT,Zo,YN,hk,VX c1,VX c2,VX c3,VX c4];rfl
theorem st_14 {s:St} {last:Bool} (he:Qs last s=0) (hk:s.kind=14) (rest:List Tk) (hr:XR rest):jM E B s rest:=by
  obtain ⟨hy,-,h3,h4⟩:=Zq.1 he;have hf:=Jh hy;unfold Zp at hf;simp [hk] at hf;obtain ⟨c1,c2,c3,c4,c5⟩:=zB hf;have hks:kS s=[sy [58,58],qw s.label,sy [58,58]]:=by rw [KQ];simp [vv,hk]
  refine ⟨false,_,hks,by simp,?_,?_,?_,?_,?_⟩
  · show zV (sy _::_)=false;unfold zV;simp only [Vj];rfl
  · show zh _ (sy _::_)=false;rw [Vj];rfl
  · show zh _ (sy _::_)=false;rw [Vj];rfl
  · show jJ E B (sy [58,58]::qw s.label::sy [58,58]::rest)=_;unfold jJ;rw [Vo,if_neg (by decide),Vj,if_pos (by decide),List.tail_cons,qT,Zo,Jk,Zo,YN,hk,VX c1,VX c2,VX c3,VX c4];rfl
  · rw [hks];exact stp_sy _ _ (by decide)
theorem pln_0 {l:List (ByteArray × Int)} (h:Vh l=true):∀ y ∈ l,y.2=0:=by
  intro y hy;have:=List.all_eq_true.1 h y hy;simpa using this
theorem yX8a {P:Prop} (h:P:=by
  exact ⟨by have:=Ex.sz_mem hm;rw [s.sz_eq] at hn;omega,Xw (Ka (by omega) (by omega)) (h3 y hm)⟩):P:=h
include hE in
theorem st_1 {s:St} {last:Bool} (he:Qs last s=0) (hk:s.kind=1) (hn:2*s.sz≤n) (rest:List Tk) (hr:XR rest):jM E B s rest:=by
  obtain ⟨hy,-,h3,h4⟩:=Zq.1 he;have hf:=Jh hy;unfold Zp at hf;simp [hk] at hf;obtain ⟨hf,hat⟩:=hf;obtain ⟨c1,c2,c3,c4,c5⟩:=zB hf;have c5:s.label=⟨#[]⟩:=by simpa using c5
  obtain ⟨nm,ns,hns⟩:=UD c1;have hat2:∀ y ∈ nm::ns,0≤y.2∧y.2≤2:=fun y hy=>hat y.1 y.2 (by rw [hns];exact hy);refine jQ (t:=Kj s.names++if (s.right.map Qa).isEmpty=true then [] else sy [61]::VM (s.right.map Qa)) [108,111,99,97,108] (by decide) (by decide) (by rw [KQ];simp [vv,hk]) ?_;simp only [jg,Vo,YD];rw [if_pos (by decide)];unfold jY;rw [vw,Zo]
  have hfn:zh jU (Kj s.names++(if (s.right.map Qa).isEmpty=true then [] else sy [61]::VM (s.right.map Qa))++rest)=false:=by
    rw [hns]
    have:∃ r,Kj (nm::ns)=qw nm.1::r:=by
      unfold Kj;exact ⟨_,rfl⟩
    obtain ⟨r,hr⟩:=this;rw [hr];rfl
  have hlen:=xnam_len s.names;rw [hfn,if_neg (by decide),List.append_assoc];cases hri:s.right with
  | nil =>
    show (namesG _ [] (Kj s.names++rest)).bind _=_;rw [hns,yX ns nm hat2 _ _ _ (by rw [hns] at hlen;simp at hlen ⊢;omega) (hr.is _ (by decide)) (hr.is _ (by decide)),Zo,hr.is _ (by decide),if_neg (by decide),YN,hk,hns,VX c2,hri,VX c4,c5];rfl
  | cons x l =>
    show (namesG _ [] (Kj s.names++(sy [61]::(VM ((x::l).map Qa)++rest)))).bind _=_
    have hx:∀ y ∈ x::l,2*y.sz≤n∧Jt y:=fun y hy=>by
      have hm:y ∈ s.right:=by rw [hri];exact hy
      exact yX8a
    rw [hns,yX ns nm hat2 _ _ _ (by rw [hns] at hlen;simp at hlen ⊢;omega) (by rw [Vj];rfl) (by rw [Vj];rfl),Zo,Vj,if_pos (by decide),List.tail_cons,jZ hE x l hx rest (by rw [hr.lv];decide) hr.su (hr.is _ (by decide)),Zo,YN,hk,hns,VX c2,hri,VX c4,c5];rfl
theorem fun_ml {x:Ex} {f:Fn} {t:Ttl} {p:Int} (he:ZH t p x=0) (hk:x.kind=11) (hf:x.funcs=[f]) (hn:2*x.sz≤n):2*St.szs f.body+1≤n∧Zf (ZI f.body)=0∧x.ml Z=.mk 11 0 0 0 0 ⟨#[]⟩ [] [.mk f.name f.params f.vararg (St.mls Z f.body) 0]:=by
  have hm:f ∈ x.funcs:=by rw [hf];simp
  obtain ⟨f',hf',hv⟩:=Xt (Qw he) hk;rw [hf] at hf';cases hf';exact ⟨by have:=Ex.body_lt hm;omega,(Qm.1 he).2.2 f hm,by rw [hv,ml_fn]⟩
include hB in
theorem st_2 {s:St} {last:Bool} (he:Qs last s=0) (hk:s.kind=2) (hn:2*s.sz≤n) (rest:List Tk) (hr:XR rest):jM E B s rest:=by
  obtain ⟨hy,-,h3,h4⟩:=Zq.1 he;have hf:=Jh hy;unfold Zp at hf;simp [hk] at hf;obtain ⟨⟨hf,hpl⟩,hh⟩:=hf;obtain ⟨c1,c2,c3,c4,c5⟩:=zB hf;have c5:s.label=⟨#[]⟩:=by simpa using c5
  obtain ⟨nm,hns⟩:=JY c1;obtain ⟨x,hx⟩:=JY c3;have hm:x ∈ s.right:=by rw [hx];simp
  have hxk:x.kind=11:=by rw [hx] at hh;exact hh
  have hex:=h3 x hm;obtain ⟨f,hfn,-⟩:=Xt (Qw hex) hxk;obtain ⟨b1,b2,b3⟩:=fun_ml (n:=n) hex hxk hfn (by have:=Ex.sz_mem hm;rw [s.sz_eq] at hn;omega);have h0:nm.2=0:=pln_0 hpl nm (by rw [hns];simp);have hnm:nm=(nm.1,0):=by rw [←h0]
  have hname:f.name=nm.1:=by
    obtain ⟨-,-,-,h4,-⟩:=ql.1 (Qm.1 hex).1
    have h9:zn (ZP s) f=true:=by
      cases hq:zn (ZP s) f
      · exact absurd (List.any_eq_true.2 ⟨f,by rw [hfn];simp,by rw [hq];simp⟩) h4
      · rfl
    have ht:ZP s=⟨[nm.1],.empty⟩:=by unfold ZP;rw [if_pos ⟨hk,by rw [hns];rfl⟩,hns];rfl
    rw [ht] at h9;unfold zn at h9;have h1:(ByteArray.empty.toList.isEmpty)=true:=by rw [ByteArray.toList_eq];rfl
    simp only [h1] at h9;simp at h9;exact h9.symm
  refine jQ (t:=ky jU::qw nm.1::jp f 0 (kSs f.body)) [108,111,99,97,108] (by decide) (by decide) (by rw [KQ];simp [vv,hk,hx,hfn,hns,kF_eq]) ?_;show jg E B (ky _::ky jU::qw nm.1::(jp f 0 (kSs f.body)++rest))=_;simp only [jg,Vo,YD];rw [if_pos (by decide)];unfold jY;rw [vw,Zo,Jn,if_pos (by decide),List.tail_cons,qT,Zo];show (yp B 0 nm.1 false _).bind _=_;rw [clo_law hB nm.1 0 rest (by simp) b1 b2,Zo,YN,hk,hns,VX c2,hx,VX c4,c5];show Res.ok (St.mk 2 0 [(nm.1,0)] [] _ [] _) rest=.ok (St.mk 2 0 [nm] [] [x.ml Z] [] _) rest;rw [b3,hname,←hnm]
include hE hB in
theorem st_9 {s:St} {last:Bool} (he:Qs last s=0) (hk:s.kind=9) (hn:2*s.sz≤n) (rest:List Tk) (hr:XR rest):jM E B s rest:=by
  obtain ⟨hy,-,h3,h4⟩:=Zq.1 he;have hf:=Jh hy;unfold Zp at hf;simp [hk] at hf;obtain ⟨hf,hpl⟩:=hf
  have hsh:ZM s.names.length 1=true∧ZM s.left.length 0=true∧(s.right.length=2∨s.right.length=3)∧ZM s.blocks.length 1=true∧s.label=⟨#[]⟩:=by
    rcases hf with hf|hf
    · obtain ⟨c1,c2,c3,c4,c5⟩:=zB hf;exact ⟨c1,c2,.inl (by unfold ZM at c3;simp at c3;omega),c4,by simpa using c5⟩
    · obtain ⟨c1,c2,c3,c4,c5⟩:=zB hf;exact ⟨c1,c2,.inr (by unfold ZM at c3;simp at c3;omega),c4,by simpa using c5⟩
  obtain ⟨c1,c2,c3,c4,c5⟩:=hsh;obtain ⟨nm,hns⟩:=JY c1;obtain ⟨b,hb⟩:=JY c4;have h0:nm.2=0:=pln_0 hpl nm (by rw [hns];simp);have hnm:nm=(nm.1,0):=by rw [←h0]
  have hsz:St.szs b+2≤s.sz:=by rw [s.sz_eq,hb];simp only [St.szss];omega
  have hx:∀ y ∈ s.right,2*y.sz≤n∧Jt y:=fun y hm=>⟨by have:=Ex.sz_mem hm;rw [s.sz_eq] at hn;omega,Xw (Ka (by omega) (by omega)) (h3 y hm)⟩;have hbl:=jy hB (b:=b) (by omega) (h4 b (by rw [hb];simp)) VP jd rest;refine jQ (t:=qw nm.1::sy [61]::(VM (s.right.map Qa)++ky Xp::(kSs b++[ky VP]))) [102,111,114] (by decide) (by decide) (by rw [KQ];simp [vv,hk,hns,hb,Kj,VM,h0,jH]) ?_;have e:qw nm.1::sy [61]::(VM (s.right.map Qa)++ky Xp::(kSs b++[ky VP]))++rest=qw nm.1::sy [61]::(VM (s.right.map Qa)++ky Xp::(kSs b++ky VP::rest)):=by simp
  rw [e];simp only [jg,Vo,YD];rw [if_neg (by decide),if_neg (by decide),if_neg (by decide),if_pos (by decide)];unfold yh;rw [vw,Zo,qT,Zo,Vj,if_pos (by decide),List.tail_cons];rcases c3 with c3|c3
  · obtain ⟨x,y,hxy⟩:∃ x y,s.right=[x,y]:=by
      match s.right,c3 with
      | [x,y],_=>exact ⟨x,y,rfl⟩
    rw [hxy] at hx ⊢;have e2:VM ([x,y].map Qa)++ky Xp::(kSs b++ky VP::rest)=Qa x++sy [44]::(Qa y++ky Xp::(kSs b++ky VP::rest)):=by simp [VM]
    rw [e2,PE.arg hE (hx x (by simp)).1 (hx x (by simp)).2 (by rw [jX];decide) (by rw [KT];rfl),Zo,Jk,Zo,PE.arg hE (hx y (by simp)).1 (hx y (by simp)).2 (by rw [UB _ _ (by decide) (by decide)];decide) (by rw [yd];rfl),Zo,
      Jn,if_neg (by decide),Zo,KG,Zo,hbl,Zo,YN,hk,hns,VX c2,hxy,hb,c5]
    show Res.ok (St.mk 9 0 [(nm.1,0)] [] _ _ _) rest=_;rw [←hnm];rfl
  · obtain ⟨x,y,z,hxy⟩:∃ x y z,s.right=[x,y,z]:=by
      match s.right,c3 with
      | [x,y,z],_=>exact ⟨x,y,z,rfl⟩
    rw [hxy] at hx ⊢;have e2:VM ([x,y,z].map Qa)++ky Xp::(kSs b++ky VP::rest)=Qa x++sy [44]::(Qa y++sy [44]::(Qa z++ky Xp::(kSs b++ky VP::rest))):=by simp [VM]
    rw [e2,PE.arg hE (hx x (by simp)).1 (hx x (by simp)).2 (by rw [jX];decide) (by rw [KT];rfl),Zo,Jk,Zo,PE.arg hE (hx y (by simp)).1 (hx y (by simp)).2 (by rw [jX];decide) (by rw [KT];rfl),Zo,
      Vj,if_pos (by decide),List.tail_cons,PE.arg hE (hx z (by simp)).1 (hx z (by simp)).2 (by rw [UB _ _ (by decide) (by decide)];decide) (by rw [yd];rfl),Zo,Zo,KG,Zo,hbl,Zo,YN,hk,hns,VX c2,hxy,hb,c5]
    show Res.ok (St.mk 9 0 [(nm.1,0)] [] _ _ _) rest=_;rw [←hnm];rfl
include hE hB in
theorem st_10 {s:St} {last:Bool} (he:Qs last s=0) (hk:s.kind=10) (hn:2*s.sz≤n) (rest:List Tk) (hr:XR rest):jM E B s rest:=by
  obtain ⟨hy,-,h3,h4⟩:=Zq.1 he;have hf:=Jh hy;unfold Zp at hf;simp [hk] at hf;obtain ⟨hf,hpl⟩:=hf;obtain ⟨c1,c2,c3,c4,c5⟩:=zB hf;have c5:s.label=⟨#[]⟩:=by simpa using c5
  obtain ⟨nm,ns,hns⟩:=UD c1;obtain ⟨x,l,hxl⟩:=UD c3;obtain ⟨b,hb⟩:=JY c4;have hpl:=pln_0 hpl;have h0:nm.2=0:=hpl nm (by rw [hns];simp);have hnm:nm=(nm.1,0):=by rw [←h0]
  have hsz:St.szs b+2≤s.sz:=by rw [s.sz_eq,hb];simp only [St.szss];omega
  have hx:∀ y ∈ x::l,2*y.sz≤n∧Jt y:=fun y hm=>by
    have hm:y ∈ s.right:=by rw [hxl];exact hm
    exact yX8a
  have hbl:=jy hB (b:=b) (by omega) (h4 b (by rw [hb];simp)) VP jd rest;refine jQ (t:=Kj s.names++ky [105,110]::(VM (s.right.map Qa)++ky Xp::(kSs b++[ky VP]))) [102,111,114] (by decide) (by decide) (by rw [KQ];simp [vv,hk,hb]) ?_
  have e:Kj s.names++ky [105,110]::(VM (s.right.map Qa)++ky Xp::(kSs b++[ky VP]))++rest=qw nm.1::((ns.map fun x=>qw x.1::jH x.2).flatMap (sy [44] :: ·)++ky [105,110]::(VM ((x::l).map Qa)++ky Xp::(kSs b++ky VP::rest))):=by
    rw [hns,hxl];simp [Kj,VM,h0,jH]
  rw [e];simp only [jg,Vo,YD];rw [if_neg (by decide),if_neg (by decide),if_neg (by decide),if_pos (by decide)]
  have h61:zh [61] ((ns.map fun x=>qw x.1::jH x.2).flatMap (sy [44] :: ·)++ky [105,110]::(VM ((x::l).map Qa)++ky Xp::(kSs b++ky VP::rest)))=false:=by
    cases ns with
    | nil=>show zh [61] (ky _::_)=false;rw [Jn];rfl
    | cons z r=>show zh [61] (sy _::_)=false;rw [Vj];rfl
  have hlen:ns.length≤((ns.map fun x=>qw x.1::jH x.2).flatMap (sy [44] :: ·)).length:=by
    clear hns hpl h61 e
    induction ns with
    | nil=>exact Nat.le_refl _
    | cons a r ih=>simp only [List.map_cons,List.flatMap_cons,List.length_append,List.length_cons];omega
  unfold yh
  rw [vw,Zo,qT,Zo,h61,if_neg (by decide),for_go ns (fun y hy=>hpl y (by rw [hns];simp [hy])) _ _ _ (by rw [List.length_append];omega) (by rw [Jn];rfl),Zo,KG,Zo,
    jZ hE x l hx _ (by rw [UB _ _ (by decide) (by decide)];decide) (by rw [yd];rfl) (by rw [Jn];rfl),Zo,KG,Zo,hbl,Zo,YN,hk,hns,VX c2,hxl,hb,c5]
  show Res.ok (St.mk 10 0 ([(nm.1,0)]++ns) [] _ _ _) rest=_;rw [←hnm];rfl
end
section
variable {E:EF} {B:BF} {n:Nat} (hE:PE E n) (hB:PB B n)
def elsK (bs:List (List St)):List Tk:=match bs with|[]=>[]|d::_=>ky [101,108,115,101]::kSs d
include hE hB in
theorem if_go:∀ (cs:List Ex) (bs:List (List St)) (c:Ex) (b:List St),bs.length=cs.length∨bs.length=cs.length+1→(∀ y ∈ c::cs,2*y.sz≤n∧Jt y)→(∀ d ∈ b::bs,2*St.szs d+1≤n∧Zf (ZI d)=0) →
    ∀ (i F:Nat) (a0:List Ex) (b0:List (List St)) (rest:List Tk),cs.length+1≤F →
    ifG E B F a0 b0 (Qa c++ky [116,104,101,110]::(kSs b++(Yo (i+1) (cs.map Qa) (bs.map kSs)++ky VP::rest)))=.ok (a0++(c::cs).map (Ex.ml Z),b0++(b::bs.take cs.length).map (St.mls Z)) (elsK (bs.drop cs.length)++ky VP::rest)
  | [],bs,c,b,hl,hc,hd,i,F+1,a0,b0,rest,hF=>by
    obtain ⟨c1,c2⟩:=hc c (by simp);obtain ⟨d1,d2⟩:=hd b (by simp);have hcond:=PE.arg hE c1 c2 (rest:=ky [116,104,101,110]::(kSs b++(Yo (i+1) [] (bs.map kSs)++ky VP::rest))) (by rw [UB _ _ (by decide) (by decide)];decide) (by rw [yd];rfl);rw [List.map_nil,ifG,hcond,Zo,KG,Zo];cases bs with
    | nil =>
      show (B (kSs b++ky VP::rest)).bind _=_;rw [hB b _ d1 d2 (jd _),Zo,Jn,if_neg (by decide)];rfl
    | cons d r =>
      have:r=[]:=by simp at hl;exact hl
      subst this;show (B (kSs b++(ky [101,108,115,101]::kSs d++ky VP::rest))).bind _=_;rw [List.cons_append,hB b _ d1 d2 (ends_else _),Zo,Jn,if_neg (by decide)];rfl
  | c'::cs,[],c,b,hl,_,_,_,_,_,_,_,_=>by simp at hl
  | c'::cs,b'::bs,c,b,hl,hc,hd,i,F+1,a0,b0,rest,hF=>by
    obtain ⟨c1,c2⟩:=hc c (by simp);obtain ⟨d1,d2⟩:=hd b (by simp)
    have e:Yo (i+1) ((c'::cs).map Qa) ((b'::bs).map kSs)++ky VP::rest=ky KF::(Qa c'++ky [116,104,101,110]::(kSs b'++(Yo (i+1+1) (cs.map Qa) (bs.map kSs)++ky VP::rest))):=by
      rw [List.map_cons,List.map_cons,Yo,if_neg (by omega)];simp
    rw [e];have hcond:=PE.arg hE c1 c2 (rest:=ky [116,104,101,110]::(kSs b++ky KF::(Qa c'++ky [116,104,101,110]::(kSs b'++(Yo (i+1+1) (cs.map Qa) (bs.map kSs)++ky VP::rest))))) (by rw [UB _ _ (by decide) (by decide)];decide) (by rw [yd];rfl)
    rw [ifG,hcond,Zo,KG,Zo,hB b _ d1 d2 (ends_elseif _),Zo,Jn,if_pos (by decide),List.tail_cons,
      if_go cs bs c' b' (by simp at hl;omega) (fun y h=>hc y (by simp at h ⊢;exact .inr h)) (fun y h=>hd y (by simp at h ⊢;exact .inr h)) (i+1) F _ _ rest (by simp at hF;omega)]
    simp
theorem Ur:∀ (cs:List Ex) (bs:List (List St)) (i:Nat),bs.length=cs.length∨bs.length=cs.length+1→cs.length≤(Yo i (cs.map Qa) (bs.map kSs)).length
  | [],_,_,_=>Nat.zero_le _
  | c::cs,[],_,h=>by simp at h
  | c::cs,b::bs,i,h=>by
    have:=Ur cs bs (i+1) (by simp at h;omega);rw [List.map_cons,List.map_cons,Yo];simp only [List.length_cons,List.length_append];omega
include hE hB in
theorem st_8 {s:St} {last:Bool} (he:Qs last s=0) (hk:s.kind=8) (hn:2*s.sz≤n) (rest:List Tk) (hr:XR rest):jM E B s rest:=by
  obtain ⟨hy,-,h3,h4⟩:=Zq.1 he;have hf:=Jh hy;unfold Zp at hf;simp [hk] at hf;obtain ⟨hf,hlen⟩:=hf;obtain ⟨c1,c2,c3,c4,c5⟩:=zB hf;have c5:s.label=⟨#[]⟩:=by simpa using c5
  obtain ⟨c,cs,hx⟩:=UD c3
  obtain ⟨b,bs,hb⟩:∃ b bs,s.blocks=b::bs:=by
    cases hb:s.blocks with
    | nil=>rw [hx,hb] at hlen;simp at hlen
    | cons b bs=>exact ⟨b,bs,rfl⟩
  have hlen:bs.length=cs.length∨bs.length=cs.length+1:=by rw [hx,hb] at hlen;simp at hlen;omega
  have hc:∀ y ∈ c::cs,2*y.sz≤n∧Jt y:=fun y hm=>by
    have hm:y ∈ s.right:=by rw [hx];exact hm
    exact ⟨by have:=Ex.sz_mem hm;rw [s.sz_eq] at hn;omega,Xw (Ka (by omega) (by omega)) (h3 y hm)⟩
  have hd:∀ d ∈ b::bs,2*St.szs d+1≤n∧Zf (ZI d)=0:=fun y hm=>by
    have hm:y ∈ s.blocks:=by rw [hb];exact hm
    exact ⟨by have:=St.szs_mem hm;rw [s.sz_eq] at hn;omega,h4 y hm⟩
  refine jQ (t:=Qa c++ky [116,104,101,110]::(kSs b++(Yo 1 (cs.map Qa) (bs.map kSs)++[ky VP]))) [105,102] (by decide) (by decide) (by rw [KQ];simp [vv,hk,hx,hb,Yo]) ?_;have e:Qa c++ky [116,104,101,110]::(kSs b++(Yo 1 (cs.map Qa) (bs.map kSs)++[ky VP]))++rest=Qa c++ky [116,104,101,110]::(kSs b++(Yo (0+1) (cs.map Qa) (bs.map kSs)++ky VP::rest)):=by simp
  have hal:=Ur cs bs (0+1) hlen;rw [e];simp only [jg,Vo,YD];rw [if_neg (by decide),if_neg (by decide),if_pos (by decide)];unfold ifR;rw [vw,Zo,if_go hE hB cs bs c b hlen hc hd 0 _ [] [] rest (by simp only [List.length_append,List.length_cons];omega),Zo];have hsplit:bs=bs.take cs.length++bs.drop cs.length:=(List.take_append_drop _ _).symm;have hdl:(bs.drop cs.length).length=0∨(bs.drop cs.length).length=1:=by rw [List.length_drop];omega
  have hdd:∀ d ∈ bs.drop cs.length,2*St.szs d+1≤n∧Zf (ZI d)=0:=fun d h=>hd d (List.mem_cons_of_mem _ (List.mem_of_mem_drop h));rw [YN,hk,VX c1,VX c2,hx,hb,c5];generalize hq:bs.drop cs.length=q at hdl hdd hsplit;generalize bs.take cs.length=u at hsplit;subst hsplit
  match q,hdl with
  | [],_ =>
    rw [show elsK []++ky VP::rest=ky VP::rest from rfl,Jn,if_neg (by decide),Zo,KG,Zo];simp;rfl
  | [d],_ =>
    obtain ⟨d1,d2⟩:=hdd d (by simp);rw [show elsK [d]++ky VP::rest=ky [101,108,115,101]::(kSs d++ky VP::rest) from rfl,Jn,if_pos (by decide),List.tail_cons,hB d _ d1 d2 (jd _),Zo,Zo,KG,Zo];simp;rfl
theorem pre_name:∀ (m:Nat) (x:Ex),x.sz≤m→(∃ t p,ZH t p x=0)→Qf x=true→ZF x=false→∀ rest,∃ b r,Qa x++rest=qw b::r:=by
  intro m
  induction m with
  | zero=>intro x hx;have:=x.sz_eq;omega
  | succ m ih =>
    intro x hx ⟨t,p,he⟩ hp ho rest;have hf:=Qw he
    have arg:∀ a r,x.args=a::r→(x.kind=8∨x.kind=9∨x.kind=10)→∀ l,∃ b r,Jy (!Qf a) (Qa a)++l=qw b::r:=fun a r ha hk l=>by
      have ho2:(!Qf a || ZF a)=false:=by
        obtain ⟨k,o,ll,pp,q,s,args,f⟩:=x;simp only [Ex.args] at ha;subst ha;simp only [Ex.kind] at hk;simp only [ZF,if_pos hk] at ho;exact ho
      simp only [Bool.or_eq_false_iff,Bool.not_eq_false'] at ho2;have hm:a ∈ x.args:=by rw [ha];simp
      rw [ho2.1];exact ih a (by have:=Ex.args_lt hm;omega) ⟨_,_,(Qm.1 he).2.1 a hm⟩ ho2.1 ho2.2 l
    have hc:x.kind=7∨x.kind=8∨x.kind=9∨x.kind=10∨x.kind=19:=by unfold Qf at hp;simp at hp;omega
    rcases hc with h|h|h|h|h
    · rw [tk7 h];exact ⟨_,_,rfl⟩
    · obtain ⟨a,b,ha,-⟩:=shp8 hf h;rw [tk8 h ha,List.append_assoc];exact arg a _ ha (.inl h) _
    · obtain ⟨a,r,ha,-⟩:=Xv hf (.inl h);rw [tk9 h ha,List.append_assoc];exact arg a _ ha (.inr (.inl h)) _
    · obtain ⟨a,r,ha,-⟩:=Xv hf (.inr h);rw [tk10 h ha,List.append_assoc];exact arg a _ ha (.inr (.inr h)) _
    · exfalso;obtain ⟨a,ha,-⟩:=yL hf h;obtain ⟨k,o,ll,pp,q,s,args,f⟩:=x;simp only [Ex.args] at ha;subst ha;simp only [Ex.kind] at h;subst h;simp [ZF] at ho
theorem st_pre {s:St} {x:Ex} {rest u:List Tk} (hg:Jt x) (hp:Qf x=true) (hk:kS s=(if ZF x=true then [sy [59]] else [])++(Qa x++u)) (h:KV E (Qa x++(u++rest))=.ok (s.ml Z) rest):jM E B s rest:=by
  have hs:=(KJ hg).app (m:=u++rest);have hg2:=hg;obtain ⟨-,-,p,he⟩:=hg2;refine ⟨ZF x,_,hk,?_,?_,?_,?_,?_,?_⟩
  · intro h0;obtain ⟨t,r,ht,-⟩:=KJ hg;rw [ht] at h0;cases h0
  · rw [List.append_assoc];exact hs.ends
  · rw [List.append_assoc];exact hs.is _ (by decide)
  · rw [List.append_assoc];exact hs.is _ (by decide)
  · rw [List.append_assoc];unfold jJ
    rw [hs.is [58,58] (by decide),if_neg (by
      rcases Ut x.sz x (Nat.le_refl _) ⟨_,_,he⟩ hp (u++rest) with ⟨b,r,h9⟩|⟨r,h9⟩
      · rw [h9];exact (show ¬ (1:Int)=2 by decide)
      · rw [h9];exact (show ¬ (5:Int)=2 by decide)),if_neg (by decide)]
    exact h
  · rw [hk];cases ho:ZF x
    · obtain ⟨b,r,h9⟩:=pre_name x.sz x (Nat.le_refl _) ⟨_,_,he⟩ hp ho (u++rest);simp only [Bool.false_eq_true,if_false,List.nil_append,List.append_assoc];rw [h9];exact stp_nm b r
    · exact stp_sy _ _ (by decide)
include hE in
theorem st_4 {s:St} {last:Bool} (he:Qs last s=0) (hk:s.kind=4) (hn:2*s.sz≤n) (rest:List Tk) (hr:XR rest):jM E B s rest:=by
  obtain ⟨hy,-,h3,h4⟩:=Zq.1 he;have hf:=Jh hy;unfold Zp at hf;simp [hk] at hf;obtain ⟨hf,hh⟩:=hf;obtain ⟨c1,c2,c3,c4,c5⟩:=zB hf;have c5:s.label=⟨#[]⟩:=by simpa using c5
  obtain ⟨x,hx⟩:=JY c3;have hm:x ∈ s.right:=by rw [hx];simp
  have hxk:x.kind=9∨x.kind=10:=by rw [hx] at hh;exact hh
  have hg:Jt x:=Xw (Ka (by omega) (by omega)) (h3 x hm);have hp:Qf x=true:=by unfold Qf;rcases hxk with h|h <;> rw [h] <;> rfl
  refine st_pre (u:=[]) hg hp (by rw [KQ];simp [vv,hk,hx]) ?_;unfold KV;rw [List.nil_append,XF hE (by have:=Ex.sz_mem hm;rw [s.sz_eq] at hn;omega) hg hp hr.su,Zo,if_pos (by rw [Ex.kind_ml];exact hxk),((KJ hg).app).ln,YN,hk,VX c1,VX c2,hx,VX c4,c5];rfl
include hE in
theorem left_go:∀ (l:List Ex) (x:Ex),(∀ y ∈ x::l,2*y.sz≤n∧Jt y∧(y.kind=7∨y.kind=8))→∀ (F:Nat) (acc:List Ex) (rest:List Tk),l.length+1≤F →
    leftG E F acc (x.ml Z) false ((l.map Qa).flatMap (sy [44] :: ·)++sy [61]::rest)=.ok (acc++(x::l).map (Ex.ml Z)) (sy [61]::rest)
  | [],x,hy,F+1,acc,rest,_=>by
    obtain ⟨-,-,h3⟩:=hy x (by simp);show leftG E (F+1) acc (x.ml Z) false (sy [61]::rest)=_;rw [leftG,if_neg (by rw [Ex.kind_ml];intro h;rcases h with h|h;cases h;omega),Vj,if_neg (by decide)];rfl
  | z::l,x,hy,F+1,acc,rest,hF=>by
    obtain ⟨-,-,h3⟩:=hy x (by simp);obtain ⟨z1,z2,z3⟩:=hy z (by simp);have e:((z::l).map Qa).flatMap (sy [44] :: ·)++sy [61]::rest=sy [44]::(Qa z++((l.map Qa).flatMap (sy [44] :: ·)++sy [61]::rest)):=by simp
    have st:YM ((l.map Qa).flatMap (sy [44] :: ·)++sy [61]::rest)=false:=by
      cases l with
      | nil=>show YM (sy [61]::_)=false;rw [KT];rfl
      | cons a r=>show YM (sy [44]::_)=false;rw [KT];rfl
    have hp:Qf z=true:=by unfold Qf;rcases z3 with h|h <;> rw [h] <;> rfl
    have h19:(z.kind==19)=false:=by rw [beq_eq_false_iff_ne];omega
    rw [e,leftG,if_neg (by rw [Ex.kind_ml];intro h;rcases h with h|h;cases h;omega),Vj,if_pos (by decide),List.tail_cons,XF hE (by omega) z2 hp st,Zo,h19,
      left_go l z (fun y h=>hy y (by simp at h ⊢;exact .inr h)) F _ rest (by simp at hF;omega)]
    simp
include hE in
theorem asg_plain {s:St} {last:Bool} (he:Qs last s=0) (hk:s.kind=3) (hn:2*s.sz≤n) (hks:kS s=XP s (s.left.map Qa) (s.right.map Qa)) (hnm:∀ y ∈ s.right,∀ f ∈ y.funcs,f.name=⟨#[]⟩) (rest:List Tk) (hr:XR rest):jM E B s rest:=by
  obtain ⟨hy,h2,h3,h4⟩:=Zq.1 he;have hf:=Jh hy;unfold Zp at hf;simp [hk] at hf;obtain ⟨hf,hlk⟩:=hf;obtain ⟨c1,c2,c3,c4,c5⟩:=zB hf;have c5:s.label=⟨#[]⟩:=by simpa using c5
  obtain ⟨a,al,hl⟩:=UD c2;obtain ⟨x,xs,hx⟩:=UD c3
  have hL:∀ y ∈ a::al,2*y.sz≤n∧Jt y∧(y.kind=7∨y.kind=8):=fun y hm=>by
    have hm:y ∈ s.left:=by rw [hl];exact hm
    have hyk:=hlk y hm;have hf9:=Qw (h2 y hm);exact ⟨by have:=Ex.sz_mem hm;rw [s.sz_eq] at hn;omega,good_of (h2 y hm) (by rw [funcs_no hf9 (by omega)];intro f h;cases h),hyk⟩
  have hR:∀ y ∈ x::xs,2*y.sz≤n∧Jt y:=fun y hm=>by
    have hm:y ∈ s.right:=by rw [hx];exact hm
    exact ⟨by have:=Ex.sz_mem hm;rw [s.sz_eq] at hn;omega,good_of (h3 y hm) (hnm y hm)⟩
  obtain ⟨a1,a2,a3⟩:=hL a (by simp);have hp:Qf a=true:=by unfold Qf;rcases a3 with h|h <;> rw [h] <;> rfl
  have h19:(a.kind==19)=false:=by rw [beq_eq_false_iff_ne];omega
  refine st_pre (x:=a) (u:=(al.map Qa).flatMap (sy [44] :: ·)++sy [61]::VM (s.right.map Qa)) a2 hp (by rw [hks];unfold XP;rw [hl];simp [VM]) ?_
  have st:YM ((al.map Qa).flatMap (sy [44] :: ·)++sy [61]::(VM ((x::xs).map Qa)++rest))=false:=by
    cases al with
    | nil=>show YM (sy [61]::_)=false;rw [KT];rfl
    | cons b r=>show YM (sy [44]::_)=false;rw [KT];rfl
  have hll:al.length≤((al.map Qa).flatMap (sy [44] :: ·)).length:=by
    clear hL hl st
    induction al with
    | nil=>exact Nat.le_refl _
    | cons a r ih=>simp only [List.map_cons,List.flatMap_cons,List.length_append,List.length_cons];omega
  rw [hx,List.append_assoc,List.cons_append];unfold KV
  rw [XF hE (by omega) a2 hp st,Zo,if_neg (by rw [Ex.kind_ml];omega),h19,left_go hE al a hL _ _ _ (by rw [List.length_append];omega),Zo,Jk,Zo,
    jZ hE x xs hR rest (by rw [hr.lv];decide) hr.su (hr.is _ (by decide)),Zo,((KJ a2).app).ln,YN,hk,VX c1,hl,hx,VX c4,c5]
  rfl
end
section
variable {E:EF} {B:BF} {n:Nat} (hE:PE E n) (hB:PB B n)
theorem fits_of {x:Ex} {f:Fn} {t:Ttl} {p:Int} (h:ZH t p x=0) (hf:f ∈ x.funcs):zn t f=true:=by
  obtain ⟨-,-,-,h4,-⟩:=ql.1 (Qm.1 h).1;cases hq:zn t f
  · exact absurd (List.any_eq_true.2 ⟨f,hf,by rw [hq];simp⟩) h4
  · rfl
theorem fits_0 {f:Fn} (h:zn ttl0 f=true):f.name=⟨#[]⟩:=by
  unfold zn at h;have h1:(ttl0.method.toList.isEmpty)=true:=by rw [ByteArray.toList_eq];rfl
  rw [h1] at h;simp [ttl0] at h;exact h.symm
theorem colon_mem {l:Sb} {a:Sb}:QK (Xh (l++58::a))=true:=by
  unfold QK Zg Xh;simp
theorem fun_key {s:St} {last:Bool} {x:Ex} {f:Fn} (he:Qs last s=0) (hk:s.kind=3) (hx:s.right=[x]) (hxk:x.kind=11) (hfn:x.funcs=[f]) (hne:(Zg f.name).isEmpty=false) :
    ∃ (lx:Ex) (a:ByteArray) (r:List ByteArray) (m:Bool),s.left=[lx]∧Qr lx=some (a::r)∧lx.ml Z=ye (ndS 7 0 a) r∧(∀ e ∈ a::r,ZG e=true)∧QK f.name=m∧(m && !r.isEmpty)=m∧Xh (JV a.data.toList r m)=f.name∧(if m=true then [qf] else [])++f.params.drop (if m=true then 1 else 0)=f.params:=by
  obtain ⟨hy,h2,h3,h4⟩:=Zq.1 he;have hf:=Jh hy;unfold Zp at hf;simp [hk] at hf;obtain ⟨hf,-⟩:=hf;obtain ⟨c1,c2,c3,c4,c5⟩:=zB hf;have c5:s.label=⟨#[]⟩:=by simpa using c5
  have hm:x ∈ s.right:=by rw [hx];simp
  have hfm:f ∈ x.funcs:=by rw [hfn];simp
  have hex:=h3 x hm;have hfit:=fits_of hex hfm;have hne2:f.name≠⟨#[]⟩:=fun h=>by rw [h] at hne;cases hne
  have ht0:ZP s≠ttl0:=fun h=>hne2 (fits_0 (h ▸ hfit))
  have hll:s.left.length=1:=by
    apply Classical.byContradiction;intro h;apply ht0;unfold ZP;rw [if_neg (fun h=>by omega),if_neg (fun h9=>h h9.2.1)]
  obtain ⟨lx,hl⟩:=Zy hll
  have hte:ZP s=match Qr lx with
    | none=>ttl0
    | some l=>⟨[.empty,zu l],if 1<l.length then ⟨((zu l.dropLast).data.toList++58::(l.getLastD default).data.toList).toArray⟩ else .empty⟩:=by
    unfold ZP;rw [if_neg (fun h=>by omega),if_pos ⟨hk,hll,by rw [hx];rfl⟩,hl];rfl
  have hlm:lx ∈ s.left:=by rw [hl];simp
  have helx:=h2 lx hlm;cases hpe:Qr lx with
  | none=>rw [hpe] at hte;exact absurd hte ht0
  | some l =>
    rw [hpe] at hte;obtain ⟨a,r,rfl,hlml⟩:=path_ml lx.sz lx (Nat.le_refl _) ⟨_,_,helx⟩ l hpe;have hnames:=Yf lx.wz lx (Nat.le_refl _) _ _ _ helx hpe;rw [hte] at hfit
    have key:∃ m:Bool,QK f.name=m∧(m && !r.isEmpty)=m∧Xh (JV a.data.toList r m)=f.name∧(if m=true then [qf] else [])++f.params.drop (if m=true then 1 else 0)=f.params:=by
      unfold zn at hfit;simp only [Bool.or_eq_true,Bool.and_eq_true,List.any_eq_true,decide_eq_true_eq] at hfit;rcases hfit with ⟨q,hq,hqf⟩|⟨⟨h5,h6⟩,h7⟩
      · have hd:f.name=zu (a::r):=by
          simp at hq;rcases hq with rfl|rfl
          · exact absurd hqf.symm hne2
          · exact hqf.symm
        refine ⟨false,by rw [hd];exact qM hnames,rfl,by rw [dots_name,hd],by simp⟩
      · by_cases h1:1<(a::r).length
        · rw [if_pos h1] at h6
          obtain ⟨r',b,rfl⟩:∃ r' b,r=r'++[b]:=by
            have:r≠[]:=fun h=>by rw [h] at h1;simp at h1
            exact ⟨r.dropLast,r.getLast this,(List.dropLast_concat_getLast this).symm⟩
          have e1:(a::(r'++[b])).dropLast=a::r':=by rw [←List.cons_append,List.dropLast_concat]
          have e2:(a::(r'++[b])).getLastD default=b:=by rw [List.getLastD_eq_getLast?,←List.cons_append,List.getLast?_concat];rfl
          rw [e1,e2] at h6
          have hnm:Xh (JV a.data.toList (r'++[b]) true)=f.name:=by
            rw [h6,yY];unfold zu Xh;rw [List.map_cons,Lib.join_cons]
          refine ⟨true,?_,by simp,hnm,?_⟩
          · rw [h6];exact colon_mem
          · rw [if_pos rfl,if_pos rfl];cases hp:f.params with
            | nil=>rw [hp] at h7;cases h7
            | cons p ps =>
              rw [hp] at h7;simp at h7;rw [h7];rfl
        · rw [if_neg h1] at h5;have:(ByteArray.empty.toList.isEmpty)=true:=by rw [ByteArray.toList_eq];rfl
          rw [this] at h5;cases h5
    obtain ⟨m,k1,k2,k3,k4⟩:=key;exact ⟨lx,a,r,m,hl,hpe,hlml,hnames,k1,k2,k3,k4⟩
include hB in
theorem st_fun {s:St} {last:Bool} {x:Ex} {f:Fn} (he:Qs last s=0) (hk:s.kind=3) (hx:s.right=[x]) (hxk:x.kind=11) (hfn:x.funcs=[f]) (hne:(Zg f.name).isEmpty=false) (hn:2*s.sz≤n) (rest:List Tk) (hr:XR rest):jM E B s rest:=by
  obtain ⟨lx,a,r,m,hl,hpe,hlml,-,k1,k2,k3,k4⟩:=fun_key he hk hx hxk hfn hne;obtain ⟨hy,h2,h3,h4⟩:=Zq.1 he;have hf:=Jh hy;unfold Zp at hf;simp [hk] at hf;obtain ⟨hf,-⟩:=hf;obtain ⟨c1,c2,c3,c4,c5⟩:=zB hf;have c5:s.label=⟨#[]⟩:=by simpa using c5
  have hm:x ∈ s.right:=by rw [hx];simp
  have hex:=h3 x hm;obtain ⟨b1,b2,b3⟩:=fun_ml (n:=n) hex hxk hfn (by have:=Ex.sz_mem hm;rw [s.sz_eq] at hn;omega);refine jQ (t:=pathK (a::r) m++jp f (if m=true then 1 else 0) (kSs f.body)) jU (by decide) (by decide) (by rw [KQ];simp [vv,hk,asgK,hx,hfn,hxk,hne,hl,hpe,k1,kF_eq]) ?_;simp only [jg,Vo,YD];rw [if_neg (by decide),if_pos (by decide)];unfold Ug;have e:pathK (a::r) m++jp f (if m=true then 1 else 0) (kSs f.body)++rest=qw a::(XV r m++(jp f (if m=true then 1 else 0) (kSs f.body)++rest)):=by simp [pathK]
  have hfk:∃ q,jp f (if m=true then 1 else 0) (kSs f.body)++rest=sy [40]::q:=⟨_,rfl⟩
  obtain ⟨q,hq⟩:=hfk
  have hpl:∀ (r:List ByteArray) (m:Bool),r.length≤(XV r m).length:=by
    intro r
    induction r with
    | nil=>intro m;exact Nat.zero_le _
    | cons c r ih =>
      intro m;cases r with
      | nil=>simp [XV]
      | cons d r=>have:=ih m;simp only [XV,List.length_cons] at this ⊢;omega
  have hpg:=path_go r m ((XV r m++(jp f (if m=true then 1 else 0) (kSs f.body)++rest)).length+1) (ndS 7 0 a) a.data.toList (jp f (if m=true then 1 else 0) (kSs f.body)++rest) (by have:=hpl r m;rw [List.length_append];omega) (by rw [hq,Vj];rfl) (by rw [hq,Vj];rfl);rw [e,vw,Zo,qT,Zo];show (pathG _ (ndS 7 0 a) a.data.toList _).bind _=_;rw [hpg,Zo];show (yp B 0 (Xh (JV a.data.toList r m)) (m && !r.isEmpty) _).bind _=_;rw [k2,clo_law hB _ 0 rest k4 b1 b2,Zo,YN,hk,VX c1,hl,hx,VX c4,c5];show Res.ok (St.mk 3 0 [] [ye (ndS 7 0 a) r] _ [] _) rest=.ok (St.mk 3 0 [] [lx.ml Z] [x.ml Z] [] _) rest;rw [b3,k3,hlml]
theorem Ul {s:St} (hk:s.kind=3) (h:∀ y,s.right=[y]→y.kind=11→∀ f ∈ y.funcs,(Zg f.name).isEmpty=true):kS s=XP s (s.left.map Qa) (s.right.map Qa):=by
  rw [KQ];have e:vv s (s.left.map Qa) (s.right.map Qa) (s.right.map fun x=>x.funcs.map kFn) (s.blocks.map kSs)=asgK s (s.left.map Qa) (s.right.map Qa) (s.right.map fun x=>x.funcs.map kFn):=by simp [vv,hk]
  rw [e];unfold asgK;split
  · rename_i x b tl hx hb;split
    · rename_i f fs hf;rw [if_neg (fun h9=>by have:=h x hx h9.1 f (by rw [hf];simp);rw [this] at h9;cases h9.2)]
    · rfl
  · rfl
include hE hB in
theorem st_3 {s:St} {last:Bool} (he:Qs last s=0) (hk:s.kind=3) (hn:2*s.sz≤n) (rest:List Tk) (hr:XR rest):jM E B s rest:=by
  have he2:=he;obtain ⟨hy,h2,h3,h4⟩:=Zq.1 he2;by_cases hc:∃ x,s.right=[x]∧x.kind=11∧∃ f ∈ x.funcs,(Zg f.name).isEmpty=false
  · obtain ⟨x,hx,hxk,f,hf,hne⟩:=hc;obtain ⟨f',hfn,-⟩:=Xt (Qw (h3 x (by rw [hx];simp))) hxk;rw [hfn] at hf;have:=List.mem_singleton.1 hf;subst this;exact st_fun hB he hk hx hxk hfn hne hn rest hr
  · refine asg_plain hE he hk hn (Ul hk fun y hy h11 f hf=>?_) (fun y hm f hf=>?_) rest hr
    · cases hq:(Zg f.name).isEmpty
      · exact absurd ⟨y,hy,h11,f,hf,hq⟩ hc
      · rfl
    · have hfit:=fits_of (h3 y hm) hf;by_cases h1:s.left.length=1∧s.right.length=1
      · obtain ⟨y',hy'⟩:=Zy h1.2;rw [hy'] at hm;have:=List.mem_singleton.1 hm;subst this
        have h11:y.kind=11:=by
          apply Classical.byContradiction;intro h9;rw [funcs_no (Qw (h3 y (by rw [hy'];simp))) h9] at hf;cases hf
        cases hq:(Zg f.name).isEmpty
        · exact absurd ⟨y,hy',h11,f,hf,hq⟩ hc
        · exact (txA_nil _ (List.isEmpty_iff.1 hq)).symm
      · have ht:ZP s=ttl0:=by unfold ZP;rw [if_neg (fun h=>by omega),if_neg (fun h=>h1 h.2)]
        exact fits_0 (ht ▸ hfit)
include hE hB in
theorem stat_law {s:St} {last:Bool} (he:Qs last s=0) (hk:s.kind≠11) (hn:2*s.sz≤n) (rest:List Tk) (hr:XR rest):jM E B s rest:=by
  have h:=qe (Zq.1 he).1;have hc:s.kind=1∨s.kind=2∨s.kind=3∨s.kind=4∨s.kind=5∨s.kind=6∨s.kind=7∨s.kind=8∨s.kind=9∨s.kind=10∨s.kind=12∨s.kind=13∨s.kind=14:=by omega
  rcases hc with h|h|h|h|h|h|h|h|h|h|h|h|h
  · exact st_1 hE he h hn rest hr
  · exact st_2 hB he h hn rest hr
  · exact st_3 hE hB he h hn rest hr
  · exact st_4 hE he h hn rest hr
  · exact st_5 hB he h hn rest hr
  · exact st_6 hE hB he h hn rest hr
  · exact st_7 hE hB he h hn rest hr
  · exact st_8 hE hB he h hn rest hr
  · exact st_9 hE hB he h hn rest hr
  · exact st_10 hE hB he h hn rest hr
  · exact st_12 he h rest hr
  · exact st_13 he h rest hr
  · exact st_14 he h rest hr
include hE in
theorem ret_law {s:St} {last:Bool} (he:Qs last s=0) (hk:s.kind=11) (hn:2*s.sz≤n) (rest:List Tk) (hr:zV rest=true):last=true∧∃ t,kS s=ky [114,101,116,117,114,110]::t∧retR E (ky [114,101,116,117,114,110]::(t++rest))=.ok (s.ml Z) rest:=by
  obtain ⟨hy,h2,h3,h4⟩:=Zq.1 he;have hf:=Jh hy;unfold Zp at hf;simp [hk] at hf;obtain ⟨hf,hla⟩:=hf;obtain ⟨c1,c2,c3,c4,c5⟩:=zB hf;have c5:s.label=⟨#[]⟩:=by simpa using c5
  have hst:=ends_stp hr;refine ⟨hla,VM (s.right.map Qa),by rw [KQ];simp [vv,hk],?_⟩;unfold retR;rw [vw,Zo]
  have hfin:∀ xs:List Ex,(if zV (if zh [59] rest=true then rest.tail else rest)=true then Res.ok (St.mk 11 (ky [114,101,116,117,114,110]).line [] [] xs [] ⟨#[]⟩) (if zh [59] rest=true then rest.tail else rest) else .bad (if zh [59] rest=true then rest.tail else rest))=.ok (.mk 11 0 [] [] xs [] ⟨#[]⟩) rest:=fun xs=>by
    have e0:(if zh [59] rest=true then rest.tail else rest)=rest:=by rw [ends_semi hr];rfl
    rw [e0,if_pos hr];rfl
  cases hx:s.right with
  | nil =>
    rw [show VM (([]:List Ex).map Qa)++rest=rest from rfl,if_neg (fun h=>by rw [hr] at h;cases h.1),Zo,hfin,YN,hk,VX c1,VX c2,hx,VX c4,c5];rfl
  | cons x l =>
    have hR:∀ y ∈ x::l,2*y.sz≤n∧Jt y:=fun y hm=>by
      have hm:y ∈ s.right:=by rw [hx];exact hm
      exact ⟨by have:=Ex.sz_mem hm;rw [s.sz_eq] at hn;omega,Xw (Ka (by omega) (by omega)) (h3 y hm)⟩
    have hs:stt (VM ((x::l).map Qa)++rest):=by
      have:VM ((x::l).map Qa)++rest=Qa x++((l.map Qa).flatMap (sy [44] :: ·)++rest):=by simp [VM]
      rw [this];exact (KJ (hR x (by simp)).2).app
    rw [if_pos ⟨hs.ends,hs.is _ (by decide)⟩,jZ hE x l hR rest (by rw [hst.lv];decide) hst.su (hst.is _ (by decide)),Zo,hfin,YN,hk,VX c1,VX c2,hx,VX c4,c5];rfl
include hE hB in
theorem blk_all:∀ (b:List St) (rest:List Tk),2*St.szs b≤n→Zf (ZI b)=0→zV rest=true→XR (kSs b++rest) ∧
    ∀ (F:Nat) (acc:List St),(kSs b++rest).length+1≤F→blkG E B F acc (kSs b++rest)=.ok (acc++b.map (St.ml Z)) rest
  | [],rest,_,_,hr=>⟨ends_stp hr,fun F acc hF=>by
    obtain ⟨F,rfl⟩:∃ F',F=F'+1:=⟨F - 1,by omega⟩
    show blkG E B (F+1) acc rest=_;rw [blkG,if_pos hr];simp⟩
  | s::r,rest,hn,he,hr=>by
    have h1:Qs r.isEmpty s=0∧Zf (ZI r)=0:=zG.1 he;have hsz:St.szs (s::r)=s.sz+St.szs r:=rfl;obtain ⟨ih1,ih2⟩:=blk_all r rest (by omega) h1.2 hr;have e:kSs (s::r)++rest=kS s++(kSs r++rest):=by simp [kSs]
    rw [e];by_cases hk:s.kind=11
    · obtain ⟨hla,t,ht,hret⟩:=ret_law hE h1.1 hk (by omega) rest hr;have hr0:r=[]:=List.isEmpty_iff.1 hla;subst hr0;have e2:kS s++(kSs []++rest)=ky [114,101,116,117,114,110]::(t++rest):=by rw [ht];rfl
      rw [e2];refine ⟨stp_ky _ _ (by decide),fun F acc hF=>?_⟩;obtain ⟨F,rfl⟩:∃ F',F=F'+1:=⟨F - 1,by omega⟩
      have h9:zV (ky [114,101,116,117,114,110]::(t++rest))=false:=by unfold zV;simp only [Jn];rfl
      rw [blkG,h9,if_neg (by decide),Jn,if_neg (by decide),Jn,if_pos (by decide),hret,Zo];rfl
    · obtain ⟨c,t,k1,k2,k3,k4,k5,k6,k7⟩:=stat_law hE hB h1.1 hk (by omega) (kSs r++rest) ih1;refine ⟨k7,fun F acc hF=>?_⟩
      have hm:∀ F acc,(t++(kSs r++rest)).length+1≤F→blkG E B F acc (t++(kSs r++rest))=.ok (acc++(s::r).map (St.ml Z)) rest:=by
        intro F acc hF;obtain ⟨F,rfl⟩:∃ F',F=F'+1:=⟨F - 1,by omega⟩
        have ht:1≤t.length:=List.length_pos_iff.2 k2;rw [List.length_append] at hF;rw [blkG,k3,if_neg (by decide),k4,if_neg (by decide),k5,if_neg (by decide),k6,Zo,ih2 F _ (by omega)];simp
      rw [k1] at hF ⊢;cases c
      · exact hm F acc hF
      · obtain ⟨F,rfl⟩:∃ F',F=F'+1:=⟨F - 1,by omega⟩
        show blkG E B (F+1) acc (sy [59]::(t++(kSs r++rest)))=_;have h9:zV (sy [59]::(t++(kSs r++rest)))=false:=by unfold zV;simp only [Vj];rfl
        rw [blkG,h9,if_neg (by decide),Vj,if_pos (by decide),List.tail_cons];exact hm F acc (by simp at hF ⊢;omega)
include hE hB in
theorem PB_succ:PB (blkR E B) (n+1):=by
  intro b rest hn he hr;unfold blkR;rw [(blk_all hE hB b rest (by omega) he hr).2 _ _ (Nat.le_refl _),St.mls_map];rfl
end
theorem jt (hN:∀ p q:Int,qU p q=true→yf (qG p q)=(p,q)):∀ n,PE (EB n).1 n∧PB (EB n).2 n
  | 0=>⟨fun br y lim rest h=>by have:=y.sz_eq;omega,fun b rest h=>by omega⟩
  | n+1=>⟨PE_succ (jt hN n).1 (jt hN n).2 hN,PB_succ (jt hN n).1 (jt hN n).2⟩
section
variable {x a b:Ex} {r:List Ex} {f:Fn} {n:Nat}
theorem tx1 (h:x.kind=1):Zr n x=[110,105,108]:=by rw [ZW];simp [Qj,h]
theorem tx2 (h:x.kind=2):Zr n x=[116,114,117,101]:=by rw [ZW];simp [Qj,h]
theorem tx3 (h:x.kind=3):Zr n x=[102,97,108,115,101]:=by rw [ZW];simp [Qj,h]
theorem tx4 (h:x.kind=4):Zr n x=qG x.p x.q:=by rw [ZW];simp [Qj,h]
theorem tx5 (h:x.kind=5):Zr n x=Vv x.str:=by rw [ZW];simp [Qj,h]
theorem tx6 (h:x.kind=6):Zr n x=[46,46,46]:=by rw [ZW];simp [Qj,h]
theorem tx7 (h:x.kind=7):Zr n x=Zg x.str:=by rw [ZW];simp [Qj,h]
theorem tx8 (h:x.kind=8) (ha:x.args=[a,b]):Zr n x=Ve (!Qf a) (Zr n a)++qX [46] b (Zr n b):=by rw [ZW];simp [Qj,h,vL,ha]
theorem tx9 (h:x.kind=9) (ha:x.args=a::r):Zr n x=Ve (!Qf a) (Zr n a)++40::(Zh (r.map (Zr n))++[41]):=by rw [ZW];simp [Qj,h,vL,ha]
theorem tx10 (h:x.kind=10) (ha:x.args=a::r):Zr n x=Ve (!Qf a) (Zr n a)++58::(Zg x.str++40::(Zh (r.map (Zr n))++[41])):=by rw [ZW];simp [Qj,h,vL,ha]
theorem tx11 (h:x.kind=11) (hf:x.funcs=[f]):Zr n x=[102,117,110,99,116,105,111,110]++QT n f 0 (Qe (n+1) f.body):=by rw [ZW];simp [Qj,h,hf,qI]
theorem tx12 (h:x.kind=12):Zr n x=123::(Zh (x.args.map (Zr n))++[125]):=by rw [ZW];simp [Qj,h]
theorem tx13 (h:x.kind=13) (ha:x.args=[a]):Zr n x=Zr n a:=by rw [ZW n x];simp [Qj,h,ha]
theorem tx14 (h:x.kind=14) (ha:x.args=[a,b]):Zr n x=qX [] a (Zr n a)++32::61::32::Zr n b:=by rw [ZW n x];simp [Qj,h,ha]
theorem tx15 (h:x.kind=15) (ha:x.args=[a]):Zr n x=qj x.op++Ve (decide (Qb a<11) || (x.op==20 && Qi a)) (Zr n a):=by rw [ZW n x];simp [Qj,h,ha]
theorem tx16 (h:VQ x) (ha:x.args=[a,b]):Zr n x=Ve (zj x a) (Zr n a)++32::(VB x++32::Ve (zN x b) (Zr n b)):=by
  rw [ZW n x];rcases h with h|h|h <;> simp [Qj,h,ha,qH]
theorem tx19 (h:x.kind=19) (ha:x.args=[a]):Zr n x=40::(Zr n a++[41]):=by rw [ZW n x];simp [Qj,h,ha,Ve]
end
theorem head_law:∀ (m:Nat) (x:Ex),x.sz≤m→x.kind≠13→(∃ t p,ZH t p x=0)→∀ n,∃ c r,Zr n x=c::r∧c≠61∧(c=45→Qi x=true):=by
  intro m
  induction m with
  | zero=>intro x hx;have:=x.sz_eq;omega
  | succ m ih =>
    intro x hx hk13 ⟨t,p,he⟩ n;have hf:=Qw he;have hk:=jv hf
    have arg:∀ a ∈ x.args,∀ (br:Bool) l,x.kind≠12→∃ c r,Ve br (Zr n a)++l=c::r∧c≠61∧(c=45→br=false∧Qi a=true):=fun a ha br l h12=>by
      cases br
      · obtain ⟨c,r,h1,h2,h3⟩:=ih a (by have:=Ex.args_lt ha;omega) (Js he h12 ha).1 ⟨_,_,(Qm.1 he).2.1 a ha⟩ n;exact ⟨c,r++l,by show Zr n a++l=_;rw [h1];rfl,h2,fun h=>⟨rfl,h3 h⟩⟩
      · exact ⟨40,_,rfl,by decide,fun h=>by cases h⟩
    have hc:x.kind=1∨x.kind=2∨x.kind=3∨x.kind=4∨x.kind=5∨x.kind=6∨x.kind=7∨x.kind=8∨x.kind=9∨x.kind=10∨x.kind=11∨x.kind=12∨x.kind=14∨x.kind=15∨VQ x∨x.kind=19:=by unfold VQ;omega
    have acc:∀ a l,x.args[0]?=some a→x.kind=8∨x.kind=9∨x.kind=10→Zr n x=Ve (!Qf a) (Zr n a)++l→∃ c r,Zr n x=c::r∧c≠61∧(c=45→Qi x=true):=fun a l ha hk ht=>by
      obtain ⟨c,r,h1,h2,h3⟩:=arg a (List.mem_of_getElem? ha) (!Qf a) l (by omega);refine ⟨c,r,by rw [ht,h1],h2,fun h=>?_⟩;obtain ⟨h4,h5⟩:=h3 h;obtain ⟨k,o,ll,pp,q,s,args,fs⟩:=x;cases args with
      | nil=>simp [Ex.args] at ha
      | cons b r =>
        simp [Ex.args] at ha;subst ha;simp only [Ex.kind] at hk;have h15:¬ k=15:=by omega
        have hb:¬ (k=16∨k=17∨k=18):=by omega
        simp only [Qi,if_neg h15,if_neg hb,if_pos hk];simp at h4;rw [h4,h5];rfl
    rcases hc with h|h|h|h|h|h|h|h|h|h|h|h|h|h|h|h
    · rw [tx1 h];exact ⟨_,_,rfl,by decide,fun h=>by cases h⟩
    · rw [tx2 h];exact ⟨_,_,rfl,by decide,fun h=>by cases h⟩
    · rw [tx3 h];exact ⟨_,_,rfl,by decide,fun h=>by cases h⟩
    · rw [tx4 h];obtain ⟨A,D,h1,h2,-,h3,-⟩:=Uv (shp4 hf h).2;obtain ⟨c,r,rfl⟩:∃ c r,A=c::r:=by cases A with|nil=>simp at h3|cons c r=>exact ⟨c,r,rfl⟩
      have h4:=h2 c List.mem_cons_self;have h5:∃ q,qG x.p x.q=c::q:=by rw [h1];split;exact ⟨_,rfl⟩;exact ⟨_,rfl⟩
      obtain ⟨q,h5⟩:=h5;refine ⟨c,q,h5,fun h=>?_,fun h=>?_⟩
      · subst h;revert h4;decide
      · exfalso;subst h;revert h4;decide
    · rw [tx5 h];exact ⟨34,_,rfl,by decide,fun h=>by cases h⟩
    · rw [tx6 h];exact ⟨_,_,rfl,by decide,fun h=>by cases h⟩
    · rw [tx7 h];obtain ⟨c,r,h1,h2⟩:=XG (Ku he (.inl h));exact ⟨c,r,h1,fun h=>by subst h;revert h2;decide,fun h=>by exfalso;subst h;revert h2;decide⟩
    · obtain ⟨a,b,ha,-⟩:=shp8 hf h;exact acc a _ (by rw [ha];rfl) (.inl h) (tx8 h ha)
    · obtain ⟨a,r,ha,-⟩:=Xv hf (.inl h);exact acc a _ (by rw [ha];rfl) (.inr (.inl h)) (tx9 h ha)
    · obtain ⟨a,r,ha,-⟩:=Xv hf (.inr h);exact acc a _ (by rw [ha];rfl) (.inr (.inr h)) (tx10 h ha)
    · obtain ⟨f,hf',-⟩:=Xt hf h;rw [tx11 h hf'];exact ⟨_,_,rfl,by decide,fun h=>by cases h⟩
    · rw [tx12 h];exact ⟨_,_,rfl,by decide,fun h=>by cases h⟩
    · obtain ⟨a,b,ha,-⟩:=shp14 hf h;rw [tx14 h ha];unfold qX;split
      · rename_i hn;unfold zt at hn;simp at hn;obtain ⟨c,r,h1,h2⟩:=XG hn.2;rw [h1];exact ⟨c,_,rfl,fun h=>by subst h;revert h2;decide,fun h=>by exfalso;subst h;revert h2;decide⟩
      · exact ⟨91,_,rfl,by decide,fun h=>by cases h⟩
    · obtain ⟨a,ha,-,ho1,ho2⟩:=shp15 hf h;rw [tx15 h ha]
      have hm:Qi x=(x.op==20):=by
        obtain ⟨k,o,l,p,q,s,args,f⟩:=x;simp only [Ex.kind] at h;subst h;cases args with
        | nil=>simp [Qi,Ex.op]
        | cons b r=>simp [Qi,Ex.op]
      have ho:x.op=20∨x.op=21∨x.op=22∨x.op=23:=by omega
      rcases ho with ho|ho|ho|ho <;> rw [hm,ho]
      · exact ⟨45,_,rfl,by decide,fun _=>rfl⟩
      · exact ⟨110,_,rfl,by decide,fun h=>by cases h⟩
      · exact ⟨35,_,rfl,by decide,fun h=>by cases h⟩
      · exact ⟨126,_,rfl,by decide,fun h=>by cases h⟩
    · obtain ⟨a,b,ha,-⟩:=yM hf h;obtain ⟨c,r,h1,h2,h3⟩:=arg a (by rw [ha];simp) (zj x a) (32::(VB x++32::Ve (zN x b) (Zr n b))) (by unfold VQ at h;omega);refine ⟨c,r,by rw [tx16 h ha,h1],h2,fun h9=>?_⟩;obtain ⟨h4,h5⟩:=h3 h9;obtain ⟨k,o,ll,pp,q,s,args,fs⟩:=x;simp only [Ex.args] at ha;subst ha;unfold VQ at h;simp only [Ex.kind] at h;have h15:¬ k=15:=by omega
      simp only [Qi,if_neg h15,if_pos h];rw [h4,h5];rfl
    · obtain ⟨a,ha,-,-⟩:=yL hf h;rw [tx19 h ha];exact ⟨_,_,rfl,by decide,fun h=>by cases h⟩
def jF (z:Sb):Prop:=∀ c r,z=c::r→c ∈ clsL∨c=32∨c=10
def folP (z:Sb):Prop:=∀ c r,z=c::r→c ∈ preL∨c=32∨c=10
theorem jF.c {c:UInt8} {r:Sb} (h:c ∈ clsL∨c=32∨c=10):jF (c::r):=fun _ _ e=>by cases e;exact h
theorem folP.c {c:UInt8} {r:Sb} (h:c ∈ preL∨c=32∨c=10):folP (c::r):=fun _ _ e=>by cases e;exact h
theorem Wd.e {t z:Sb} {k k2:List Tk} (h:Wd t k) (hl:Yz k) (h2:Wd z k2) (hf:jF z):Wd (t++z) (k++k2):=h.app h2 fun c r hz u hu=>by
  rcases hf c r hz with hc|hc
  · exact bd_E hl hc u hu
  · exact je hc
theorem Wd.p {t z:Sb} {k k2:List Tk} (h:Wd t k) (hl:YY k) (h2:Wd z k2) (hf:folP z):Wd (t++z) (k++k2):=h.app h2 fun c r hz u hu=>by
  rcases hf c r hz with hc|hc
  · exact bd_P hl hc u hu
  · exact je hc
def lk (cl:List UInt8) (k:List Tk):Prop:=∀ c ∈ cl,∀ (r:Sb) (t:Tk),k.getLast?=some t→Xm t (c::r)=true
def fol (cl:List UInt8) (z:Sb):Prop:=∀ c r,z=c::r→c ∈ cl∨c=32∨c=10
theorem fol.c {cl:List UInt8} {c:UInt8} {r:Sb} (h:c ∈ cl∨c=32∨c=10):fol cl (c::r):=fun _ _ e=>by cases e;exact h
theorem Yz.lk {k:List Tk} (h:Yz k):lk clsL k:=fun c hc r t ht=>bd_E h hc t ht
theorem Wd.lk {cl:List UInt8} {t z:Sb} {k k2:List Tk} (h:Wd t k) (hl:lk cl k) (h2:Wd z k2) (hf:fol cl z):Wd (t++z) (k++k2):=h.app h2 fun c r hz u hu=>by
  rcases hf c r hz with hc|hc
  · exact hl c hc r u hu
  · exact je hc
theorem com_go {cl:List UInt8} (h44:44 ∈ cl) {α:Type} {f:α→Sb} {g:α→List Tk}:∀ (l:List α),(∀ x ∈ l,Wd (f x) (g x)∧lk cl (g x))→∀ {z:Sb} {k2:List Tk},Wd z k2→fol cl z→Wd (Lib.joinTail [44,32] (l.map f)++z) ((l.map g).flatMap (sy [44] :: ·)++k2)∧fol cl (Lib.joinTail [44,32] (l.map f)++z)
  | [],_,z,k2,h2,hf=>⟨h2,hf⟩
  | x::l,h,z,k2,h2,hf=>by
    obtain ⟨h3,h4⟩:=com_go h44 l (fun y hy=>h y (List.mem_cons_of_mem _ hy)) h2 hf;obtain ⟨h5,h6⟩:=h x List.mem_cons_self;have e1:Lib.joinTail [44,32] ((x::l).map f)++z=[44]++32::(f x++(Lib.joinTail [44,32] (l.map f)++z)):=by simp [Lib.joinTail]
    have e2:((x::l).map g).flatMap (sy [44] :: ·)++k2=sy [44]::(g x++((l.map g).flatMap (sy [44] :: ·)++k2)):=by simp
    rw [e1,e2];exact ⟨Wd.solo (by decide) (Wd.bl (h5.lk h6 h3 h4) (.inl rfl)),fol.c (.inl h44)⟩
theorem com_gen {cl:List UInt8} (h44:44 ∈ cl) {α:Type} {f:α→Sb} {g:α→List Tk} (l:List α) (h:∀ x ∈ l,Wd (f x) (g x)∧lk cl (g x)) {z:Sb} {k2:List Tk} (h2:Wd z k2) (hf:fol cl z):Wd (Zh (l.map f)++z) (VM (l.map g)++k2):=by
  cases l with
  | nil =>
    show Wd (Lib.join [] [44,32]++z) ([]++k2);rw [Lib.join_nil];exact h2
  | cons x l =>
    obtain ⟨h3,h4⟩:=com_go h44 l (fun y hy=>h y (List.mem_cons_of_mem _ hy)) h2 hf;obtain ⟨h5,h6⟩:=h x List.mem_cons_self;show Wd (Lib.join (f x::l.map f) [44,32]++z) (VM (g x::l.map g)++k2);rw [Lib.join_cons,List.append_assoc];show Wd _ ((g x++(l.map g).flatMap (sy [44] :: ·))++k2);rw [List.append_assoc];exact h5.lk h6 h3 h4
theorem Ui {α:Type} {f:α→Sb} {g:α→List Tk} (l:List α) (h:∀ x ∈ l,Wd (f x) (g x)∧Yz (g x)) {z:Sb} {k2:List Tk} (h2:Wd z k2) (hf:jF z):Wd (Zh (l.map f)++z) (VM (l.map g)++k2) :=
  com_gen (cl:=clsL) (by decide) l (fun x hx=>⟨(h x hx).1,(h x hx).2.lk⟩) h2 hf
theorem yz {u:Sb} (h:u ∈ ([[46,46,46],[41],[93],[125]]:List Sb)) (ks:List Tk):Yz (ks++[sy u]):=⟨sy u,by simp,.inr (.inr (.inr (.inr ⟨rfl,by rw [ja];exact h⟩)))⟩
theorem Xa {u:Sb} (h:u ∈ ([[41],[93]]:List Sb)) (ks:List Tk):YY (ks++[sy u]):=⟨sy u,by simp,.inr ⟨rfl,by rw [ja];exact h⟩⟩
theorem jB {u:Sb} (h:u ∈ soloL):Wd u [sy u]:=by have:=Wd.solo h Wd.nil;rwa [List.append_nil] at this
theorem yV {u:Sb} (h:u ∈ kwsL):Wd u [ky u]:=by have:=Wd.key h Wd.nil (fun c r h=>by cases h);rwa [List.append_nil] at this
theorem yU {b:ByteArray} (h:ZG b=true):Wd (Zg b) [qw b]:=by have:=Wd.nm h Wd.nil (fun c r h=>by cases h);rwa [List.append_nil] at this
theorem opd_wr {t:Sb} {k:List Tk} (br:Bool) (h:Wd t k) (hl:Yz k):Wd (Ve br t) (Jy br k)∧Yz (Jy br k)∧(br=true→YY (Jy br k)):=by
  cases br
  · exact ⟨h,hl,fun h=>by cases h⟩
  · refine ⟨?_,?_,fun _=>?_⟩
    · show Wd ([40]++(t++[41])) (sy [40]::(k++[sy [41]]));exact Wd.solo (by decide) (h.e hl (jB (by decide)) (jF.c (.inl (by decide))))
    · exact (yz (by decide) k).cons
    · exact (Xa (by decide) k).cons
def EW (m:Nat):Prop:=∀ x:Ex,x.sz≤m→(∃ t p,ZH t p x=0)→∀ n,Wd (Zr n x) (Qa x)∧Yz (Qa x)∧(Qf x=true→YY (Qa x))
def BW (m:Nat):Prop:=∀ b:List St,St.szs b≤m→Zf (ZI b)=0→∀ (n:Nat) (z:Sb) (k2:List Tk),Wd z k2→Wd (Qe n b++z) (kSs b++k2)
theorem end_wr:Wd endT [ky VP]:=yV (by decide)
theorem init_bd {c:UInt8} (h:zk c=true):c≠46∧c≠58∧c≠61∧c≠45:=by
  refine ⟨?_,?_,?_,?_⟩ <;> (rintro rfl;revert h;decide)
theorem Xl {u:Sb} {P:UInt8→Bool} (h:∀ c:Fin 256,P (UInt8.ofNat c.1)=true→(!symsL.any (fun y=>(u++[UInt8.ofNat c.1]).isPrefixOf y) && !(u==[45] && UInt8.ofNat c.1==45))=true) {c:UInt8} (hc:P c=true) (r:Sb):Xm (sy u) (c::r)=true:=by
  unfold Xm;dsimp only;rw [if_neg (show ¬ ((sy u).kind=1∨(sy u).kind=2) by show ¬ ((5:Int)=1∨(5:Int)=2);decide),if_neg (show ¬ (sy u).kind=3 by show ¬ (5:Int)=3;decide),if_pos (show (sy u).kind=5 from rfl),ja];have:=h ⟨c.toNat,c.toNat_lt⟩;simp only [UInt8.ofNat_toNat] at this;exact this hc
theorem Wd.dot {b:ByteArray} (h:ZG b=true) {z:Sb} {k:List Tk} (hw:Wd (Zg b++z) (qw b::k)):Wd (46::(Zg b++z)) (sy [46]::qw b::k):=by
  obtain ⟨c,r,h1,h2⟩:=XG h
  have:=Wd.cons (t:=sy [46]) (jo (by decide)) hw (fun c' r' hc=>by
    rw [h1] at hc;cases hc;exact Xl (P:=fun c=>c != 46) (by decide +kernel) (by simpa using (init_bd h2).1) _)
  rwa [KD] at this
theorem Wd.col {b:ByteArray} (h:ZG b=true) {z:Sb} {k:List Tk} (hw:Wd (Zg b++z) (qw b::k)):Wd (58::(Zg b++z)) (sy [58]::qw b::k):=by
  obtain ⟨c,r,h1,h2⟩:=XG h
  have:=Wd.cons (t:=sy [58]) (jo (by decide)) hw (fun c' r' hc=>by
    rw [h1] at hc;cases hc;exact Xl (P:=fun c=>c != 58) (by decide +kernel) (by simpa using (init_bd h2).2.1) _)
  rwa [KD] at this
theorem fun_wr {n:Nat} {f:Fn} (skip:Nat) (hb:∀ (z:Sb) (k2:List Tk),Wd z k2→Wd (Qe (n+1) f.body++z) (kSs f.body++k2)) (hp:∀ p ∈ f.params,ZG p=true) :
    Wd (QT n f skip (Qe (n+1) f.body)) (jp f skip (kSs f.body))∧Yz (jp f skip (kSs f.body))∧∃ r,QT n f skip (Qe (n+1) f.body)=40::r:=by
  have e0:QT n f skip (Qe (n+1) f.body)=[40]++(Zh ((f.params.drop skip).map Zg++if f.vararg=true then [[46,46,46]] else [])++([41]++10::(Qe (n+1) f.body++(QH n++endT)))):=by simp [QT]
  have h1:Wd (10::(Qe (n+1) f.body++(QH n++endT))) (kSs f.body++[ky VP]):=Wd.bl (hb _ _ (Wd.bls end_wr _ (XO n))) (.inr rfl);have h2:Wd ([41]++10::(Qe (n+1) f.body++(QH n++endT))) (sy [41]::(kSs f.body++[ky VP])):=Wd.solo (by decide) h1;obtain ⟨l,hl⟩:∃ l:List (Sb × List Tk),l=(f.params.drop skip).map (fun p=>(Zg p,[qw p]))++if f.vararg=true then [([46,46,46],[sy [46,46,46]])] else []:=⟨_,rfl⟩
  have hl1:l.map Prod.fst=(f.params.drop skip).map Zg++if f.vararg=true then [[46,46,46]] else []:=by rw [hl,List.map_append,List.map_map];cases f.vararg <;> rfl
  have hl2:l.map Prod.snd=(f.params.drop skip).map (fun p=>[qw p])++if f.vararg=true then [[sy [46,46,46]]] else []:=by rw [hl,List.map_append,List.map_map];cases f.vararg <;> rfl
  have hall:∀ x ∈ l,Wd x.1 x.2∧Yz x.2:=by
    intro x hx;rw [hl] at hx;rcases List.mem_append.1 hx with hx|hx
    · obtain ⟨p,hp2,rfl⟩:=List.mem_map.1 hx;exact ⟨yU (hp p (List.mem_of_mem_drop hp2)),⟨qw p,rfl,.inl rfl⟩⟩
    · cases hv:f.vararg
      · rw [hv] at hx;simp at hx
      · rw [hv] at hx;simp at hx;subst hx;exact ⟨jB (by decide),yz (by decide) []⟩
  have h3:=Ui (f:=Prod.fst) (g:=Prod.snd) l hall h2 (jF.c (.inl (by decide)));rw [hl1,hl2] at h3;refine ⟨?_,?_,?_⟩
  · rw [e0];exact Wd.solo (by decide) h3
  · have e:jp f skip (kSs f.body)=(sy [40]::(ym f skip++sy [41]::kSs f.body))++[ky VP]:=by simp [jp]
    rw [e];exact ⟨ky VP,List.getLast?_concat,.inr (.inl rfl)⟩
  · rw [e0];exact ⟨_,rfl⟩
theorem XW {x:Ex} {p:Int} {t:Ttl} (h:ZH t p x=0) {f:Fn} (hf:f ∈ x.funcs):∀ p ∈ f.params,ZG p=true:=by
  obtain ⟨-,-,-,-,-,h6,-⟩:=ql.1 (Qm.1 h).1;intro q hq;cases hn:ZG q
  · exact absurd (List.any_eq_true.2 ⟨f,hf,List.any_eq_true.2 ⟨q,hq,by rw [hn];rfl⟩⟩) h6
  · rfl
theorem key_wr {m n:Nat} (hE:EW m) {b:Ex} (hb:b.sz≤m) (he:∃ t p,ZH t p b=0):Wd (qX [46] b (Zr n b)) (Xb [sy [46]] b (Qa b))∧YY (Xb [sy [46]] b (Qa b))∧folP (qX [46] b (Zr n b)):=by
  obtain ⟨h1,h2,-⟩:=hE b hb he n;unfold qX Xb;split
  · rename_i hn;unfold zt at hn;simp at hn;refine ⟨?_,⟨qw b.str,by simp,.inl rfl⟩,folP.c (.inl (by decide))⟩;have:=Wd.dot hn.2 (z:=[]) (k:=[]) (by rw [List.append_nil];exact yU hn.2)
    rwa [List.append_nil] at this
  · refine ⟨?_,(Xa (by decide) _).cons,folP.c (.inl (by decide))⟩;exact Wd.solo (u:=[91]) (by decide) (h1.e h2 (jB (by decide)) (jF.c (.inl (by decide))))
theorem exp_step {m:Nat} (hE:EW m) (hB:BW m):EW (m+1):=by
  intro x hx ⟨t,p,he⟩ n;have hf:=Qw he;have hk:=jv hf;have arg:∀ a ∈ x.args,a.sz≤m∧∃ t p,ZH t p a=0:=fun a ha=>⟨by have:=Ex.args_lt ha;omega,_,_,(Qm.1 he).2.1 a ha⟩;have ex:∀ a ∈ x.args,Wd (Zr n a) (Qa a)∧Yz (Qa a)∧(Qf a=true→YY (Qa a)):=fun a ha=>hE a (arg a ha).1 (arg a ha).2 n
  have np:∀ {P:Prop},¬ (x.kind=7∨x.kind=8∨x.kind=9∨x.kind=10∨x.kind=19)→Qf x=true→P:=fun h hp=>by
    exfalso;apply h;unfold Qf at hp;simp at hp;omega
  have pfx:∀ a ∈ x.args,∀ {z:Sb} {k2:List Tk},Wd z k2→folP z→Wd (Ve (!Qf a) (Zr n a)++z) (Jy (!Qf a) (Qa a)++k2):=fun a ha z k2 hz hfz=>by
    obtain ⟨h1,h2,h3⟩:=ex a ha;obtain ⟨o1,o2,o3⟩:=opd_wr (!Qf a) h1 h2;refine o1.p ?_ hz hfz;cases hp:Qf a
    · have:=o3 (by rw [hp];rfl);rwa [hp] at this
    · exact h3 hp
  have hc:x.kind=1∨x.kind=2∨x.kind=3∨x.kind=4∨x.kind=5∨x.kind=6∨x.kind=7∨x.kind=8∨x.kind=9∨x.kind=10∨x.kind=11∨x.kind=12∨x.kind=13∨x.kind=14∨x.kind=15∨VQ x∨x.kind=19:=by unfold VQ;omega
  rcases hc with h|h|h|h|h|h|h|h|h|h|h|h|h|h|h|h|h
  · rw [tx1 h,tk1 h];exact ⟨yV (by decide),⟨_,rfl,.inr (.inl rfl)⟩,np (by omega)⟩
  · rw [tx2 h,tk2 h];exact ⟨yV (by decide),⟨_,rfl,.inr (.inl rfl)⟩,np (by omega)⟩
  · rw [tx3 h,tk3 h];exact ⟨yV (by decide),⟨_,rfl,.inr (.inl rfl)⟩,np (by omega)⟩
  · rw [tx4 h,tk4 h];have:=Wd.tok (src_nu (shp4 hf h).2);rw [srcL_nu] at this;exact ⟨this,⟨_,rfl,.inr (.inr (.inl rfl))⟩,np (by omega)⟩
  · rw [tx5 h,tk5 h]
    have hsz:x.str.size≤4096:=by
      obtain ⟨h1,-⟩:=ql.1 (Qm.1 he).1;rw [if_pos h] at h1;omega
    have:=Wd.tok (src_st hsz);rw [srcL_st] at this;exact ⟨this,⟨_,rfl,.inr (.inr (.inr (.inl rfl)))⟩,np (by omega)⟩
  · rw [tx6 h,tk6 h];exact ⟨jB (by decide),yz (by decide) [],np (by omega)⟩
  · rw [tx7 h,tk7 h];exact ⟨yU (Ku he (.inl h)),⟨_,rfl,.inl rfl⟩,fun _=>⟨_,rfl,.inl rfl⟩⟩
  · obtain ⟨a,b,ha,-⟩:=shp8 hf h;rw [tx8 h ha,tk8 h ha];obtain ⟨k1,k2,k3⟩:=key_wr (n:=n) hE (arg b (by rw [ha];simp)).1 (arg b (by rw [ha];simp)).2;exact ⟨pfx a (by rw [ha];simp) k1 k3,k2.app.e,fun _=>k2.app⟩
  · obtain ⟨a,r,ha,-⟩:=Xv hf (.inl h);rw [tx9 h ha,tk9 h ha];have hl:YY (Jy (!Qf a) (Qa a)++sy [40]::(VM (r.map Qa)++[sy [41]])):=((Xa (by decide) _).cons).app;refine ⟨pfx a (by rw [ha];simp) (Wd.solo (u:=[40]) (by decide) (Ui r (fun y hy=>?_) (jB (by decide)) (jF.c (.inl (by decide))))) (folP.c (.inl (by decide))),hl.e,fun _=>hl⟩;obtain ⟨h1,h2,-⟩:=ex y (by rw [ha];simp [hy]);exact ⟨h1,h2⟩
  · obtain ⟨a,r,ha,-⟩:=Xv hf (.inr h);rw [tx10 h ha,tk10 h ha];have hl:YY (Jy (!Qf a) (Qa a)++sy [58]::qw x.str::sy [40]::(VM (r.map Qa)++[sy [41]])):=((((Xa (by decide) _).cons).cons).cons).app;have hnm:=Ku he (.inr h)
    have h1:Wd ([40]++(Zh (r.map (Zr n))++[41])) (sy [40]::(VM (r.map Qa)++[sy [41]])):=Wd.solo (by decide) (Ui r (fun y hy=>by
      obtain ⟨h1,h2,-⟩:=ex y (by rw [ha];simp [hy]);exact ⟨h1,h2⟩) (jB (by decide)) (jF.c (.inl (by decide))))
    exact ⟨pfx a (by rw [ha];simp) (Wd.col hnm (Wd.nm hnm h1 (fun c r h=>by cases h;decide))) (folP.c (.inl (by decide))),hl.e,fun _=>hl⟩
  · obtain ⟨f,hfn,-⟩:=Xt hf h;have hm:f ∈ x.funcs:=by rw [hfn];simp
    rw [tx11 h hfn,tk11 h hfn];obtain ⟨f1,f2,r,f3⟩:=fun_wr (n:=n) (f:=f) 0 (fun z k2 hz=>hB f.body (by have:=Ex.body_lt hm;omega) ((Qm.1 he).2.2 f hm) (n+1) z k2 hz) (XW he hm);exact ⟨Wd.key (by decide) f1 (fun c r' h=>by rw [f3] at h;cases h;decide),f2.cons,np (by omega)⟩
  · rw [tx12 h,tk12 h];refine ⟨Wd.solo (u:=[123]) (by decide) (Ui x.args (fun y hy=>?_) (jB (by decide)) (jF.c (.inl (by decide)))),(yz (by decide) _).cons,np (by omega)⟩;obtain ⟨h1,h2,-⟩:=ex y hy;exact ⟨h1,h2⟩
  · obtain ⟨a,ha,-⟩:=shp13 hf h;rw [tx13 h ha,tk13 h ha];obtain ⟨h1,h2,-⟩:=ex a (by rw [ha];simp);exact ⟨h1,h2,np (by omega)⟩
  · obtain ⟨a,b,ha,-⟩:=shp14 hf h;rw [tx14 h ha,tk14 h ha];obtain ⟨a1,a2,-⟩:=ex a (by rw [ha];simp);obtain ⟨b1,b2,-⟩:=ex b (by rw [ha];simp)
    have h3:Wd (32::61::32::Zr n b) (sy [61]::Qa b):=by
      have:=Wd.cons (t:=sy [61]) (jo (by decide)) (Wd.bl b1 (.inl rfl)) (fun c r h=>by cases h;exact je (.inl rfl));rw [KD] at this;exact Wd.bl this (.inl rfl)
    refine ⟨?_,(b2.cons).app,np (by omega)⟩;unfold qX Xb;split
    · rename_i hn;unfold zt at hn;simp at hn;exact Wd.nm hn.2 h3 (fun c r h=>by cases h;decide)
    · have h4:=a1.e a2 (Wd.solo (u:=[93]) (by decide) h3) (jF.c (.inl (by decide)));have h5:=Wd.solo (u:=[91]) (by decide) h4;have e1:(91::Zr n a++[93])++32::61::32::Zr n b=[91]++(Zr n a++([93]++32::61::32::Zr n b)):=by simp
      have e2:(sy [91]::(Qa a++[sy [93]]))++sy [61]::Qa b=sy [91]::(Qa a++sy [93]::sy [61]::Qa b):=by simp
      rw [e1,e2];exact h5
  · obtain ⟨a,ha,-,ho1,ho2⟩:=shp15 hf h;have hma:a ∈ x.args:=by rw [ha];simp
    obtain ⟨a1,a2,-⟩:=ex a hma;obtain ⟨hc,hr,hh1,hh2,hh3⟩:=head_law a.sz a (Nat.le_refl _) (Js he (by omega) hma).1 ⟨_,_,(Qm.1 he).2.1 a hma⟩ n;rw [tx15 h ha,tk15 h ha];obtain ⟨br,hbr⟩:∃ br,br=(decide (Qb a<11) || (x.op==20 && Qi a)):=⟨_,rfl⟩
    rw [←hbr];obtain ⟨o1,o2,-⟩:=opd_wr br a1 a2
    have hhd:∃ c r,Ve br (Zr n a)=c::r∧c≠61∧(c=45→br=false∧Qi a=true):=by
      cases br
      · exact ⟨hc,hr,hh1,hh2,fun h=>⟨rfl,hh3 h⟩⟩
      · exact ⟨40,_,rfl,by decide,fun h=>by cases h⟩
    obtain ⟨c,r,g1,g2,g3⟩:=hhd;refine ⟨?_,o2.cons,np (by omega)⟩;have ho:x.op=20∨x.op=21∨x.op=22∨x.op=23:=by omega
    rcases ho with ho|ho|ho|ho
    · have hn45:c≠45:=fun h9=>by
        obtain ⟨q1,q2⟩:=g3 h9;rw [q1,ho,q2] at hbr;simp at hbr
      have:=Wd.cons (t:=sy [45]) (jo (by decide)) o1 (fun c' r' hz=>by
        rw [g1] at hz;cases hz;exact Xl (P:=fun c=>c != 45) (by decide +kernel) (by simpa using hn45) _)
      rw [KD] at this;rw [ho];exact this
    · rw [ho];exact Wd.key (u:=[110,111,116]) (by decide) (Wd.bl o1 (.inl rfl)) (fun c r h=>by cases h;decide)
    · rw [ho];exact Wd.solo (u:=[35]) (by decide) o1
    · have:=Wd.cons (t:=sy [126]) (jo (by decide)) o1 (fun c' r' hz=>by
        rw [g1] at hz;cases hz;exact Xl (P:=fun c=>c != 61) (by decide +kernel) (by simpa using g2) _)
      rw [KD] at this;rw [ho];exact this
  · obtain ⟨a,b,ha,-,ho,-⟩:=yM hf h;obtain ⟨a1,a2,-⟩:=ex a (by rw [ha];simp);obtain ⟨b1,b2,-⟩:=ex b (by rw [ha];simp);obtain ⟨o1,o2,-⟩:=opd_wr (zj x a) a1 a2;obtain ⟨q1,q2,-⟩:=opd_wr (zN x b) b1 b2;rw [tx16 h ha,tk16 h ha];refine ⟨o1.e o2 (Wd.bl ?_ (.inl rfl)) (jF.c (.inr (.inl rfl))),(q2.cons).app,np (by unfold VQ at h;omega)⟩;have hq:Wd (32::Ve (zN x b) (Zr n b)) (Jy (zN x b) (Qa b)):=Wd.bl q1 (.inl rfl);rcases h with h|h|h
    · have e1:VB x=qj x.op:=by simp [VB,h]
      have e2:Jo x=sy (qj x.op):=by simp [Jo,h]
      have hm:qj x.op ∈ symsL:=by
        have ho:=ho h;have h2:x.op=1∨x.op=2∨x.op=3∨x.op=4∨x.op=5∨x.op=6∨x.op=7∨x.op=8∨x.op=9∨x.op=10∨x.op=11∨x.op=12∨x.op=13∨x.op=14∨x.op=15∨x.op=16∨x.op=17∨x.op=18∨x.op=19:=by omega
        rcases h2 with h2|h2|h2|h2|h2|h2|h2|h2|h2|h2|h2|h2|h2|h2|h2|h2|h2|h2|h2 <;> rw [h2] <;> decide
      have:=Wd.cons (t:=sy (qj x.op)) (jo hm) hq (fun c r h=>by cases h;exact je (.inl rfl));rw [KD] at this;rw [e1,e2];exact this
    · have e1:VB x=[97,110,100]:=by simp [VB,h]
      have e2:Jo x=ky [97,110,100]:=by simp [Jo,h]
      rw [e1,e2];exact Wd.key (by decide) hq (fun c r h=>by cases h;decide)
    · have e1:VB x=[111,114]:=by simp [VB,h]
      have e2:Jo x=ky [111,114]:=by simp [Jo,h]
      rw [e1,e2];exact Wd.key (by decide) hq (fun c r h=>by cases h;decide)
  · obtain ⟨a,ha,-,-⟩:=yL hf h;obtain ⟨a1,a2,-⟩:=ex a (by rw [ha];simp);rw [tx19 h ha,tk19 h ha];have hl:YY (sy [40]::(Qa a++[sy [41]])):=(Xa (by decide) _).cons;exact ⟨Wd.solo (u:=[40]) (by decide) (a1.e a2 (jB (by decide)) (jF.c (.inl (by decide)))),hl.e,fun _=>hl⟩
def XU:List ByteArray→Bool→Sb
  | [],_=>[]
  | [b],m=>(if m=true then [58] else [46])++Zg b
  | b::c::r,m=>[46]++(Zg b++XU (c::r) m)
theorem Uy:∀ (r:List ByteArray) (m:Bool) (s:Sb),JV s r m=s++XU r m
  | [],m,s=>by simp [JV,XU]
  | [b],m,s=>by simp [JV,XU,Zg]
  | b::c::r,m,s=>by
    rw [JV,Uy (c::r)];simp [XU,Zg]
theorem pth_wr:∀ (r:List ByteArray) (m:Bool),(∀ e ∈ r,ZG e=true)→∀ {z:Sb} {k2:List Tk},Wd z k2→(∀ c q,z=c::q→wordB c=false)→Wd (XU r m++z) (XV r m++k2)∧∀ c q,XU r m++z=c::q→wordB c=false
  | [],m,_,z,k2,h,hf=>⟨h,hf⟩
  | [b],m,hn,z,k2,h,hf=>by
    have hb:=hn b (by simp);have h1:=Wd.nm hb h hf;cases m
    · exact ⟨Wd.dot hb h1,fun c q e=>by cases e;decide⟩
    · exact ⟨Wd.col hb h1,fun c q e=>by cases e;decide⟩
  | b::c::r,m,hn,z,k2,h,hf=>by
    have hb:=hn b (by simp);obtain ⟨h1,h2⟩:=pth_wr (c::r) m (fun e he=>hn e (by simp at he ⊢;exact .inr he)) h hf;have e1:XU (b::c::r) m++z=46::(Zg b++(XU (c::r) m++z)):=by simp [XU]
    have e2:XV (b::c::r) m++k2=sy [46]::qw b::(XV (c::r) m++k2):=by simp [XV]
    rw [e1,e2];exact ⟨Wd.dot hb (Wd.nm hb h1 h2),fun c q e=>by cases e;decide⟩
def nmsL:List UInt8:=[44]
def attT (a:Int):Sb:=if a=1 then [32,60,99,111,110,115,116,62] else if a=2 then [32,60,99,108,111,115,101,62] else []
theorem yXFa {P:Prop} (h:P:=by
  rw [List.mem_singleton.1 hc];exact Xl (P:=fun c=>c==44) (by decide +kernel) rfl _):P:=h
theorem att_wr {x:ByteArray × Int} (hn:ZG x.1=true) (ha:0≤x.2∧x.2≤2):Wd (Zg x.1++attT x.2) (qw x.1::jH x.2)∧lk nmsL (qw x.1::jH x.2):=by
  have h2:x.2=0∨x.2=1∨x.2=2:=by omega
  have lt:∀ (b:ByteArray) (w:Sb),Zg b=w→ZG b=true→Wd (32::60::(w++[62])) [sy [60],qw b,sy [62]]:=fun b w hw hb=>by
    have h3:Wd [62] [sy [62]]:=by
      have:=Wd.tok (t:=sy [62]) (jo (by decide))
      rwa [KD] at this
    have h4:=Wd.nm hb h3 (fun c q e=>by cases e;decide);obtain ⟨c,r,g1,g2⟩:=XG hb
    have h5:=Wd.cons (t:=sy [60]) (jo (by decide)) h4 (fun c' r' hc=>by
      rw [g1] at hc;cases hc;exact Xl (P:=fun c=>zk c) (by decide +kernel) g2 _)
    rw [KD,hw] at h5;exact Wd.bl h5 (.inl rfl)
  have lgt:∀ (a b:Tk),lk nmsL [a,b,sy [60],qw ⟨#[]⟩,sy [62]]:=fun a b c hc r t ht=>by
    simp at ht;subst ht;exact yXFa
  rcases h2 with h|h|h <;> rw [h]
  · refine ⟨?_,fun c hc r t ht=>?_⟩
    · show Wd (Zg x.1++[]) [qw x.1];rw [List.append_nil];exact yU hn
    · have:t=qw x.1:=by simpa [jH] using ht.symm
      subst this;rw [List.mem_singleton.1 hc];exact bd_wd (.inl rfl) (by decide)
  · refine ⟨Wd.nm hn (lt ⟨#[99,111,110,115,116]⟩ _ rfl (by decide +kernel)) (fun c q e=>by cases e;decide),fun c hc r t ht=>?_⟩;have:t=sy [62]:=by simpa [jH] using ht.symm
    subst this;exact yXFa
  · refine ⟨Wd.nm hn (lt ⟨#[99,108,111,115,101]⟩ _ rfl (by decide +kernel)) (fun c q e=>by cases e;decide),fun c hc r t ht=>?_⟩;have:t=sy [62]:=by simpa [jH] using ht.symm
    subst this;exact yXFa
theorem yw {l:List (ByteArray × Int)} (h:∀ x ∈ l,ZG x.1=true∧0≤x.2∧x.2≤2) {z:Sb} {k2:List Tk} (hz:Wd z k2) (hf:fol nmsL z):Wd (Vb l++z) (Kj l++k2) :=
  com_gen (cl:=nmsL) (by decide) l (fun x hx=>att_wr (h x hx).1 (h x hx).2) hz hf
theorem st_names {s:St} {last:Bool} (h:VI s last=0):∀ x ∈ s.names,ZG x.1=true:=by
  obtain ⟨-,-,-,-,h5,-⟩:=vz.1 h;intro x hx;cases hn:ZG x.1
  · exact absurd (List.any_eq_true.2 ⟨x,hx,by rw [hn];rfl⟩) h5
  · rfl
section
variable {m n:Nat} (hE:EW m) (hB:BW m)
include hB in
theorem Uk {b:List St} (hb:St.szs b≤m) (he:Zf (ZI b)=0) {w z:Sb} {k2:List Tk} (hw:Wd (w++z) k2):Wd (QC n (Qe (n+1) b) w++z) (kSs b++k2):=by
  have e:QC n (Qe (n+1) b) w++z=10::(Qe (n+1) b++(QH n++(w++z))):=by simp [QC]
  rw [e];exact Wd.bl (hB b hb he (n+1) _ _ (Wd.bls hw _ (XO n))) (.inr rfl)
include hE in
theorem XZ {l:List Ex} (h:∀ y ∈ l,y.sz≤m∧∃ t p,ZH t p y=0) {z:Sb} {k2:List Tk} (hz:Wd z k2) (hf:jF z):Wd (Zh (l.map (Zr n))++z) (VM (l.map Qa)++k2) :=
  Ui l (fun y hy=>by
    obtain ⟨h1,h2,-⟩:=hE y (h y hy).1 (h y hy).2 n;exact ⟨h1,h2⟩) hz hf
include hE hB in
theorem arms_wr:∀ (cs:List Ex) (bs:List (List St)) (i:Nat),(bs.length=cs.length∨bs.length=cs.length+1)→(∀ y ∈ cs,y.sz≤m∧∃ t p,ZH t p y=0)→(∀ d ∈ bs,St.szs d≤m∧Zf (ZI d)=0)→∀ {z:Sb} {k2:List Tk},Wd z k2→(∀ c q,z=c::q→True) →
    Wd (Vg n i (cs.map (Zr n)) (bs.map (Qe (n+1)))++z) (Yo i (cs.map Qa) (bs.map kSs)++k2)
  | [],[],i,_,_,_,z,k2,hz,_=>hz
  | [],b::bs,i,hl,_,hd,z,k2,hz,_=>by
    obtain ⟨d1,d2⟩:=hd b (by simp);have e:Vg n i (([]:List Ex).map (Zr n)) ((b::bs).map (Qe (n+1)))++z=[101,108,115,101]++10::(Qe (n+1) b++(QH n++z)):=by simp [Vg]
    rw [e];exact Wd.key (by decide) (Wd.bl (hB b d1 d2 (n+1) _ _ (Wd.bls hz _ (XO n))) (.inr rfl)) (fun c q h=>by cases h;decide)
  | c::cs,[],i,hl,_,_,z,k2,hz,_=>by simp at hl
  | c::cs,b::bs,i,hl,hc,hd,z,k2,hz,_=>by
    obtain ⟨d1,d2⟩:=hd b (by simp);obtain ⟨x1,x2,-⟩:=hE c (hc c (by simp)).1 (hc c (by simp)).2 n;have ih:=arms_wr cs bs (i+1) (by simp at hl;omega) (fun y hy=>hc y (by simp [hy])) (fun y hy=>hd y (by simp [hy])) hz (fun _ _ _=>trivial)
    have h1:Wd ([116,104,101,110]++10::(Qe (n+1) b++(QH n++(Vg n (i+1) (cs.map (Zr n)) (bs.map (Qe (n+1)))++z)))) (ky [116,104,101,110]::(kSs b++(Yo (i+1) (cs.map Qa) (bs.map kSs)++k2))) :=
      Wd.key (by decide) (Wd.bl (hB b d1 d2 (n+1) _ _ (Wd.bls ih _ (XO n))) (.inr rfl)) (fun c q h=>by cases h;decide)
    have h2:=Wd.bl (x1.e x2 (Wd.bl h1 (.inl rfl)) (jF.c (.inr (.inl rfl)))) (c:=32) (.inl rfl);have e2:Yo i ((c::cs).map Qa) ((b::bs).map kSs)++k2=ky (if i=0 then [105,102] else KF)::(Qa c++ky [116,104,101,110]::(kSs b++(Yo (i+1) (cs.map Qa) (bs.map kSs)++k2))):=by simp [Yo]
    rw [e2];by_cases hi:i=0
    · have e:Vg n i ((c::cs).map (Zr n)) ((b::bs).map (Qe (n+1)))++z=[105,102]++32::(Zr n c++32::([116,104,101,110]++10::(Qe (n+1) b++(QH n++(Vg n (i+1) (cs.map (Zr n)) (bs.map (Qe (n+1)))++z))))):=by simp [Vg,hi]
      rw [e,if_pos hi];exact Wd.key (by decide) h2 (fun c q h=>by cases h;decide)
    · have e:Vg n i ((c::cs).map (Zr n)) ((b::bs).map (Qe (n+1)))++z=KF++32::(Zr n c++32::([116,104,101,110]++10::(Qe (n+1) b++(QH n++(Vg n (i+1) (cs.map (Zr n)) (bs.map (Qe (n+1)))++z))))):=by simp [Vg,hi]
      rw [e,if_neg hi];exact Wd.key (by decide) h2 (fun c q h=>by cases h;decide)
theorem eq_wr {z:Sb} {k:List Tk} (h:Wd z k):Wd (32::61::32::z) (sy [61]::k):=by
  have:=Wd.cons (t:=sy [61]) (jo (by decide)) (Wd.bl h (.inl rfl)) (fun c r h=>by cases h;exact je (.inl rfl));rw [KD] at this;exact Wd.bl this (.inl rfl)
theorem asgT_pl {n:Nat} {s:St} {tl tr:List Sb} {br:List (List Sb)} {P:Sb} (h:∀ y,s.right=[y]→y.kind=11→∀ f ∈ y.funcs,(Zg f.name).isEmpty=true)
    (hP:P=(if ZF (s.left.headD default)=true then [59] else [])++Zh tl++[32,61,32]++Zh tr):vI n s tl tr br=P:=by
  unfold vI;simp only [←hP];split
  · rename_i x b tb hx;split
    · rename_i f fs hf;rw [if_neg (fun h9=>by have:=h x hx h9.1 f (by rw [hf];simp);rw [this] at h9;cases h9.2)]
    · rfl
  · rfl
theorem yXFb {P:Prop} (h:P:=by
  obtain ⟨-,-,-,h4,-⟩:=vz.1 hy;cases q:ZG s.label
  · exact absurd (by rw [q,h];rfl) h4
  · rfl):P:=h
include hE hB in
theorem stm_wr {s:St} {last:Bool} (he:Qs last s=0) (hs:s.sz≤m+1):Wd (tS n s) (kS s):=by
  obtain ⟨hy,h2,h3,h4⟩:=Zq.1 he;have hk:=qe hy;have hf:=Jh hy;unfold Zp at hf;have L:∀ y ∈ s.left,y.sz≤m∧∃ t p,ZH t p y=0:=fun y hm=>⟨by have:=Ex.sz_mem hm;rw [s.sz_eq] at hs;omega,_,_,h2 y hm⟩;have R:∀ y ∈ s.right,y.sz≤m∧∃ t p,ZH t p y=0:=fun y hm=>⟨by have:=Ex.sz_mem hm;rw [s.sz_eq] at hs;omega,_,_,h3 y hm⟩;have Bk:∀ b ∈ s.blocks,St.szs b≤m∧Zf (ZI b)=0:=fun b hm=>⟨by have:=St.szs_mem hm;rw [s.sz_eq] at hs;omega,h4 b hm⟩;have hnm:=st_names hy;have eT:Wd (endT++[]) [ky VP]:=by rw [List.append_nil];exact end_wr
  rw [Qk,KQ];have hc:s.kind=1∨s.kind=2∨s.kind=3∨s.kind=4∨s.kind=5∨s.kind=6∨s.kind=7∨s.kind=8∨s.kind=9∨s.kind=10∨s.kind=11∨s.kind=12∨s.kind=13∨s.kind=14:=by omega
  rcases hc with h|h|h|h|h|h|h|h|h|h|h|h|h|h
  · simp [h] at hf;obtain ⟨hf,hat⟩:=hf;have hN:∀ x ∈ s.names,ZG x.1=true∧0≤x.2∧x.2≤2:=fun x hx=>⟨hnm x hx,hat x.1 x.2 hx⟩;have e1:Qy n s (s.left.map (Zr n)) (s.right.map (Zr n)) (s.right.map fun x=>x.funcs.map (tF n)) (s.blocks.map (Qe (n+1)))=[108,111,99,97,108]++32::(Vb s.names++if (s.right.map (Zr n)).isEmpty=true then [] else 32::61::32::Zh (s.right.map (Zr n))):=by simp [Qy,h]
    have e2:vv s (s.left.map Qa) (s.right.map Qa) (s.right.map fun x=>x.funcs.map kFn) (s.blocks.map kSs)=ky [108,111,99,97,108]::(Kj s.names++if (s.right.map Qa).isEmpty=true then [] else sy [61]::VM (s.right.map Qa)):=by simp [vv,h]
    rw [e1,e2];refine Wd.key (by decide) (Wd.bl ?_ (.inl rfl)) (fun c q h=>by cases h;decide);cases hr:s.right with
    | nil=>exact yw hN Wd.nil (fun c r h=>by cases h)
    | cons x l =>
      have:=XZ (n:=n) hE (l:=x::l) (fun y hy=>R y (by rw [hr];exact hy)) Wd.nil (fun c r h=>by cases h);rw [List.append_nil,List.append_nil] at this;exact yw hN (eq_wr this) (fol.c (.inr (.inl rfl)))
  · simp [h] at hf;obtain ⟨⟨hf,hpl⟩,hh⟩:=hf;obtain ⟨c1,c2,c3,c4,c5⟩:=zB hf;obtain ⟨nm,hns⟩:=JY c1;obtain ⟨x,hx⟩:=JY c3;have hxk:x.kind=11:=by rw [hx] at hh;exact hh
    have hex:=h3 x (by rw [hx];simp);obtain ⟨f,hfn,-⟩:=Xt (Qw hex) hxk;have hm:f ∈ x.funcs:=by rw [hfn];simp
    have hxz:=(R x (by rw [hx];simp)).1;obtain ⟨f1,-,r,f3⟩:=fun_wr (n:=n) (f:=f) 0 (fun z k2 hz=>hB f.body (by have:=Ex.body_lt hm;omega) ((Qm.1 hex).2.2 f hm) (n+1) z k2 hz) (XW hex hm);have e1:Qy n s (s.left.map (Zr n)) (s.right.map (Zr n)) (s.right.map fun x=>x.funcs.map (tF n)) (s.blocks.map (Qe (n+1)))=[108,111,99,97,108]++32::([102,117,110,99,116,105,111,110]++32::(Zg nm.1++QT n f 0 (Qe (n+1) f.body))):=by simp [Qy,h,hx,hfn,hns,qI]
    have e2:vv s (s.left.map Qa) (s.right.map Qa) (s.right.map fun x=>x.funcs.map kFn) (s.blocks.map kSs)=ky [108,111,99,97,108]::ky jU::qw nm.1::jp f 0 (kSs f.body):=by simp [vv,h,hx,hfn,hns,kF_eq]
    rw [e1,e2];exact Wd.key (by decide) (Wd.bl (Wd.key (by decide) (Wd.bl (Wd.nm (hnm nm (by rw [hns];simp)) f1 (fun c q h=>by rw [f3] at h;cases h;decide)) (.inl rfl)) (fun c q h=>by cases h;decide)) (.inl rfl)) (fun c q h=>by cases h;decide)
  · -- assignments
    simp [h] at hf;obtain ⟨hf,hlk⟩:=hf;obtain ⟨c1,c2,c3,c4,c5⟩:=zB hf;have e1:Qy n s (s.left.map (Zr n)) (s.right.map (Zr n)) (s.right.map fun x=>x.funcs.map (tF n)) (s.blocks.map (Qe (n+1)))=vI n s (s.left.map (Zr n)) (s.right.map (Zr n)) (s.right.map fun x=>x.funcs.map (tF n)):=by simp [Qy,h]
    have e2:vv s (s.left.map Qa) (s.right.map Qa) (s.right.map fun x=>x.funcs.map kFn) (s.blocks.map kSs)=asgK s (s.left.map Qa) (s.right.map Qa) (s.right.map fun x=>x.funcs.map kFn):=by simp [vv,h]
    rw [e1,e2]
    have pl:Wd ((if ZF (s.left.headD default)=true then [59] else [])++Zh (s.left.map (Zr n))++[32,61,32]++Zh (s.right.map (Zr n))) (XP s (s.left.map Qa) (s.right.map Qa)):=by
      have h5:=XZ (n:=n) hE R Wd.nil (fun c r h=>by cases h);rw [List.append_nil,List.append_nil] at h5;have h6:=XZ (n:=n) hE L (eq_wr h5) (jF.c (.inr (.inl rfl)));have e3:(if ZF (s.left.headD default)=true then [59] else [])++Zh (s.left.map (Zr n))++[32,61,32]++Zh (s.right.map (Zr n))=(if ZF (s.left.headD default)=true then [59] else [])++(Zh (s.left.map (Zr n))++32::61::32::Zh (s.right.map (Zr n))):=by simp
      have e4:XP s (s.left.map Qa) (s.right.map Qa)=(if ZF (s.left.headD default)=true then [sy [59]] else [])++(VM (s.left.map Qa)++sy [61]::VM (s.right.map Qa)):=by simp [XP]
      rw [e3,e4];cases ZF (s.left.headD default)
      · exact h6
      · exact Wd.solo (u:=[59]) (by decide) h6
    by_cases hc:∃ x,s.right=[x]∧x.kind=11∧∃ f ∈ x.funcs,(Zg f.name).isEmpty=false
    · obtain ⟨x,hx,hxk,f,hf2,hne⟩:=hc;have hex:=h3 x (by rw [hx];simp);obtain ⟨f',hfn,-⟩:=Xt (Qw hex) hxk;rw [hfn] at hf2;have:=List.mem_singleton.1 hf2;subst this;have hm:f ∈ x.funcs:=by rw [hfn];simp
      have hxz:=(R x (by rw [hx];simp)).1;obtain ⟨lx,a,r,mm,g1,g2,-,g3,g4,-,g5,-⟩:=fun_key he h hx hxk hfn hne;obtain ⟨f1,-,q,f3⟩:=fun_wr (n:=n) (f:=f) (if mm=true then 1 else 0) (fun z k2 hz=>hB f.body (by have:=Ex.body_lt hm;omega) ((Qm.1 hex).2.2 f hm) (n+1) z k2 hz) (XW hex hm)
      have hnb:Zg f.name=Zg a++XU r mm:=by
        rw [←g5,Uy];simp [Zg,Xh]
      obtain ⟨p1,p2⟩:=pth_wr r mm (fun e he=>g3 e (by simp [he])) f1 (fun c q' h=>by rw [f3] at h;cases h;decide);have:=Wd.key (u:=jU) (by decide) (Wd.bl (Wd.nm (g3 a (by simp)) p1 p2) (.inl rfl)) (fun c q h=>by cases h;decide);unfold vI asgK;simp only [hx,List.map_cons,List.map_nil,hfn,hxk,hne,g1,g2,g4,List.headD_cons,Option.getD_some,and_self,if_true,qI,kF_eq];rw [hnb];have e5:[102,117,110,99,116,105,111,110,32]++(Zg a++XU r mm)++QT n f (if mm=true then 1 else 0) (Qe (n+1) f.body)=jU++32::(Zg a++(XU r mm++QT n f (if mm=true then 1 else 0) (Qe (n+1) f.body))):=by simp
      rw [e5];exact this
    · have hno:∀ y,s.right=[y]→y.kind=11→∀ f ∈ y.funcs,(Zg f.name).isEmpty=true:=fun y hy h11 f hf2=>by
        cases hq:(Zg f.name).isEmpty
        · exact absurd ⟨y,hy,h11,f,hf2,hq⟩ hc
        · rfl
      have hk9:=Ul h hno;rw [KQ,e2] at hk9;rw [hk9,asgT_pl hno rfl];exact pl
  · simp [h] at hf;obtain ⟨hf,hh⟩:=hf;obtain ⟨c1,c2,c3,c4,c5⟩:=zB hf;obtain ⟨x,hx⟩:=JY c3;obtain ⟨x1,-,-⟩:=hE x (R x (by rw [hx];simp)).1 (R x (by rw [hx];simp)).2 n;have e1:Qy n s (s.left.map (Zr n)) (s.right.map (Zr n)) (s.right.map fun x=>x.funcs.map (tF n)) (s.blocks.map (Qe (n+1)))=(if ZF x=true then [59] else [])++Zr n x:=by simp [Qy,h,hx]
    have e2:vv s (s.left.map Qa) (s.right.map Qa) (s.right.map fun x=>x.funcs.map kFn) (s.blocks.map kSs)=(if ZF x=true then [sy [59]] else [])++Qa x:=by simp [vv,h,hx]
    rw [e1,e2];cases ZF x
    · exact x1
    · exact Wd.solo (u:=[59]) (by decide) x1
  · simp [h] at hf;obtain ⟨c1,c2,c3,c4,c5⟩:=zB hf;obtain ⟨b,hb⟩:=JY c4;obtain ⟨b1,b2⟩:=Bk b (by rw [hb];simp);have:=Uk (n:=n) hB b1 b2 eT;rw [List.append_nil] at this;have e1:Qy n s (s.left.map (Zr n)) (s.right.map (Zr n)) (s.right.map fun x=>x.funcs.map (tF n)) (s.blocks.map (Qe (n+1)))=Xp++QC n (Qe (n+1) b) endT:=by simp [Qy,h,hb]
    have e2:vv s (s.left.map Qa) (s.right.map Qa) (s.right.map fun x=>x.funcs.map kFn) (s.blocks.map kSs)=ky Xp::(kSs b++[ky VP]):=by simp [vv,h,hb]
    rw [e1,e2];exact Wd.key (by decide) this (fun c q h=>by cases h;decide)
  · simp [h] at hf;obtain ⟨c1,c2,c3,c4,c5⟩:=zB hf;obtain ⟨b,hb⟩:=JY c4;obtain ⟨x,hx⟩:=JY c3;obtain ⟨b1,b2⟩:=Bk b (by rw [hb];simp);obtain ⟨x1,x2,-⟩:=hE x (R x (by rw [hx];simp)).1 (R x (by rw [hx];simp)).2 n;have:=Uk (n:=n) hB b1 b2 eT;rw [List.append_nil] at this;have e1:Qy n s (s.left.map (Zr n)) (s.right.map (Zr n)) (s.right.map fun x=>x.funcs.map (tF n)) (s.blocks.map (Qe (n+1)))=[119,104,105,108,101]++32::(Zr n x++32::(Xp++QC n (Qe (n+1) b) endT)):=by simp [Qy,h,hb,hx]
    have e2:vv s (s.left.map Qa) (s.right.map Qa) (s.right.map fun x=>x.funcs.map kFn) (s.blocks.map kSs)=ky [119,104,105,108,101]::(Qa x++ky Xp::(kSs b++[ky VP])):=by simp [vv,h,hb,hx]
    rw [e1,e2];exact Wd.key (by decide) (Wd.bl (x1.e x2 (Wd.bl (Wd.key (by decide) this (fun c q h=>by cases h;decide)) (.inl rfl)) (jF.c (.inr (.inl rfl)))) (.inl rfl)) (fun c q h=>by cases h;decide)
  · simp [h] at hf;obtain ⟨c1,c2,c3,c4,c5⟩:=zB hf;obtain ⟨b,hb⟩:=JY c4;obtain ⟨x,hx⟩:=JY c3;obtain ⟨b1,b2⟩:=Bk b (by rw [hb];simp);obtain ⟨x1,x2,-⟩:=hE x (R x (by rw [hx];simp)).1 (R x (by rw [hx];simp)).2 n;have hw:Wd ([117,110,116,105,108,32]++Zr n x) (ky [117,110,116,105,108]::Qa x):=Wd.key (u:=[117,110,116,105,108]) (by decide) (Wd.bl x1 (.inl rfl)) (fun c q h=>by cases h;decide);have:=Uk (n:=n) hB b1 b2 hw;have e1:Qy n s (s.left.map (Zr n)) (s.right.map (Zr n)) (s.right.map fun x=>x.funcs.map (tF n)) (s.blocks.map (Qe (n+1)))=[114,101,112,101,97,116]++(QC n (Qe (n+1) b) [117,110,116,105,108,32]++Zr n x):=by simp [Qy,h,hb,hx]
    have e2:vv s (s.left.map Qa) (s.right.map Qa) (s.right.map fun x=>x.funcs.map kFn) (s.blocks.map kSs)=ky [114,101,112,101,97,116]::(kSs b++ky [117,110,116,105,108]::Qa x):=by simp [vv,h,hb,hx]
    rw [e1,e2];exact Wd.key (by decide) this (fun c q h=>by cases h;decide)
  · simp [h] at hf;obtain ⟨hf,hlen⟩:=hf;have e1:Qy n s (s.left.map (Zr n)) (s.right.map (Zr n)) (s.right.map fun x=>x.funcs.map (tF n)) (s.blocks.map (Qe (n+1)))=Vg n 0 (s.right.map (Zr n)) (s.blocks.map (Qe (n+1)))++endT:=by simp [Qy,h]
    have e2:vv s (s.left.map Qa) (s.right.map Qa) (s.right.map fun x=>x.funcs.map kFn) (s.blocks.map kSs)=Yo 0 (s.right.map Qa) (s.blocks.map kSs)++[ky VP]:=by simp [vv,h]
    rw [e1,e2];exact arms_wr hE hB s.right s.blocks 0 (by omega) R Bk end_wr (fun _ _ _=>trivial)
  · simp [h] at hf;obtain ⟨hf,hpl⟩:=hf
    have hsh:ZM s.blocks.length 1=true:=by
      rcases hf with hf|hf
      · exact (zB hf).2.2.2.1
      · exact (zB hf).2.2.2.1
    obtain ⟨b,hb⟩:=JY hsh;obtain ⟨b1,b2⟩:=Bk b (by rw [hb];simp);have hN:∀ x ∈ s.names,ZG x.1=true∧0≤x.2∧x.2≤2:=fun x hx=>⟨hnm x hx,by rw [pln_0 hpl x hx];decide⟩;have:=Uk (n:=n) hB b1 b2 eT;rw [List.append_nil] at this;have e1:Qy n s (s.left.map (Zr n)) (s.right.map (Zr n)) (s.right.map fun x=>x.funcs.map (tF n)) (s.blocks.map (Qe (n+1)))=[102,111,114]++32::(Vb s.names++32::61::32::(Zh (s.right.map (Zr n))++32::(Xp++QC n (Qe (n+1) b) endT))):=by simp [Qy,h,hb]
    have e2:vv s (s.left.map Qa) (s.right.map Qa) (s.right.map fun x=>x.funcs.map kFn) (s.blocks.map kSs)=ky [102,111,114]::(Kj s.names++sy [61]::(VM (s.right.map Qa)++ky Xp::(kSs b++[ky VP]))):=by simp [vv,h,hb]
    rw [e1,e2];exact Wd.key (by decide) (Wd.bl (yw hN (eq_wr (XZ hE R (Wd.bl (Wd.key (by decide) this (fun c q h=>by cases h;decide)) (.inl rfl)) (jF.c (.inr (.inl rfl))))) (fol.c (.inr (.inl rfl)))) (.inl rfl)) (fun c q h=>by cases h;decide)
  · simp [h] at hf;obtain ⟨hf,hpl⟩:=hf;obtain ⟨b,hb⟩:=JY (zB hf).2.2.2.1;obtain ⟨b1,b2⟩:=Bk b (by rw [hb];simp);have hN:∀ x ∈ s.names,ZG x.1=true∧0≤x.2∧x.2≤2:=fun x hx=>⟨hnm x hx,by rw [pln_0 hpl x hx];decide⟩;have:=Uk (n:=n) hB b1 b2 eT;rw [List.append_nil] at this;have e1:Qy n s (s.left.map (Zr n)) (s.right.map (Zr n)) (s.right.map fun x=>x.funcs.map (tF n)) (s.blocks.map (Qe (n+1)))=[102,111,114]++32::(Vb s.names++32::([105,110]++32::(Zh (s.right.map (Zr n))++32::(Xp++QC n (Qe (n+1) b) endT)))):=by simp [Qy,h,hb]
    have e2:vv s (s.left.map Qa) (s.right.map Qa) (s.right.map fun x=>x.funcs.map kFn) (s.blocks.map kSs)=ky [102,111,114]::(Kj s.names++ky [105,110]::(VM (s.right.map Qa)++ky Xp::(kSs b++[ky VP]))):=by simp [vv,h,hb]
    rw [e1,e2];exact Wd.key (by decide) (Wd.bl (yw hN (Wd.bl (Wd.key (by decide) (Wd.bl (XZ hE R (Wd.bl (Wd.key (by decide) this (fun c q h=>by cases h;decide)) (.inl rfl)) (jF.c (.inr (.inl rfl)))) (.inl rfl)) (fun c q h=>by cases h;decide)) (.inl rfl)) (fol.c (.inr (.inl rfl)))) (.inl rfl)) (fun c q h=>by cases h;decide)
  · have e1:Qy n s (s.left.map (Zr n)) (s.right.map (Zr n)) (s.right.map fun x=>x.funcs.map (tF n)) (s.blocks.map (Qe (n+1)))=[114,101,116,117,114,110]++if (s.right.map (Zr n)).isEmpty=true then [] else 32::Zh (s.right.map (Zr n)):=by simp [Qy,h]
    have e2:vv s (s.left.map Qa) (s.right.map Qa) (s.right.map fun x=>x.funcs.map kFn) (s.blocks.map kSs)=ky [114,101,116,117,114,110]::VM (s.right.map Qa):=by simp [vv,h]
    rw [e1,e2];cases hr:s.right with
    | nil=>exact Wd.key (by decide) Wd.nil (fun c q h=>by cases h)
    | cons x l =>
      have:=XZ (n:=n) hE (l:=x::l) (fun y hy=>R y (by rw [hr];exact hy)) Wd.nil (fun c r h=>by cases h);rw [List.append_nil,List.append_nil] at this;exact Wd.key (by decide) (Wd.bl this (.inl rfl)) (fun c q h=>by cases h;decide)
  · have e1:Qy n s (s.left.map (Zr n)) (s.right.map (Zr n)) (s.right.map fun x=>x.funcs.map (tF n)) (s.blocks.map (Qe (n+1)))=[98,114,101,97,107]:=by simp [Qy,h]
    have e2:vv s (s.left.map Qa) (s.right.map Qa) (s.right.map fun x=>x.funcs.map kFn) (s.blocks.map kSs)=[ky [98,114,101,97,107]]:=by simp [vv,h]
    rw [e1,e2];exact yV (by decide)
  · have hl:ZG s.label=true:=by
      exact yXFb
    have e1:Qy n s (s.left.map (Zr n)) (s.right.map (Zr n)) (s.right.map fun x=>x.funcs.map (tF n)) (s.blocks.map (Qe (n+1)))=[103,111,116,111]++32::Zg s.label:=by simp [Qy,h]
    have e2:vv s (s.left.map Qa) (s.right.map Qa) (s.right.map fun x=>x.funcs.map kFn) (s.blocks.map kSs)=[ky [103,111,116,111],qw s.label]:=by simp [vv,h]
    rw [e1,e2];exact Wd.key (by decide) (Wd.bl (yU hl) (.inl rfl)) (fun c q h=>by cases h;decide)
  · have hl:ZG s.label=true:=by
      exact yXFb
    have e1:Qy n s (s.left.map (Zr n)) (s.right.map (Zr n)) (s.right.map fun x=>x.funcs.map (tF n)) (s.blocks.map (Qe (n+1)))=[58,58]++(Zg s.label++[58,58]):=by simp [Qy,h]
    have e2:vv s (s.left.map Qa) (s.right.map Qa) (s.right.map fun x=>x.funcs.map kFn) (s.blocks.map kSs)=[sy [58,58],qw s.label,sy [58,58]]:=by simp [vv,h]
    rw [e1,e2];exact Wd.solo (by decide) (Wd.nm hl (jB (by decide)) (fun c q h=>by cases h;decide))
include hE hB in
theorem xblk_step:BW (m+1):=by
  intro b
  induction b with
  | nil=>intro _ _ n z k2 hz;exact hz
  | cons s r ih =>
    intro hs he n z k2 hz;have h1:Qs r.isEmpty s=0∧Zf (ZI r)=0:=zG.1 he;have hsz:St.szs (s::r)=s.sz+St.szs r:=rfl;have h2:=ih (by omega) h1.2 n z k2 hz;have h3:=stm_wr (n:=n) hE hB h1.1 (by omega);have e1:Qe n (s::r)++z=QH n++(tS n s++10::(Qe n r++z)):=by simp [Qe]
    have e2:kSs (s::r)++k2=kS s++(kSs r++k2):=by simp [kSs]
    rw [e1,e2];exact Wd.bls (h3.app (Wd.bl h2 (.inr rfl)) (fun c q h t _=>by cases h;exact je (.inr rfl))) _ (XO n)
end
theorem jq:∀ m,EW m∧BW m
  | 0=>⟨fun x h=>by have:=x.sz_eq;omega,fun b h he n z k2 hz=>by
    cases b with
    | nil=>exact hz
    | cons s r=>have:St.szs (s::r)=s.sz+St.szs r:=rfl;have:=s.sz_eq;omega⟩
  | m+1=>⟨exp_step (jq m).1 (jq m).2,xblk_step (jq m).1 (jq m).2⟩
def fz (t:Tk):Tk:=⟨t.kind,t.text,0,0⟩
theorem nt_fz:Nt fz Z:=⟨fun _=>rfl,fun _=>rfl,fun _=>rfl,rfl⟩
mutual
theorem comp_E (g h:Int→Int):∀ x:Ex,(x.ml g).ml h=x.ml (fun n=>h (g n))
  | .mk k o l p q s a f=>by simp only [Ex.ml];rw [yB g h a,comp_Fs g h f]
theorem yB (g h:Int→Int):∀ l:List Ex,Ex.mls h (Ex.mls g l)=Ex.mls (fun n=>h (g n)) l
  | []=>rfl
  | x::r=>by simp only [Ex.mls];rw [comp_E g h x,yB g h r]
theorem comp_F (g h:Int→Int):∀ x:Fn,(x.ml g).ml h=x.ml (fun n=>h (g n))
  | .mk n p v b l=>by simp only [Fn.ml];rw [yA g h b]
theorem comp_Fs (g h:Int→Int):∀ l:List Fn,Fn.mls h (Fn.mls g l)=Fn.mls (fun n=>h (g n)) l
  | []=>rfl
  | x::r=>by simp only [Fn.mls];rw [comp_F g h x,comp_Fs g h r]
theorem comp_S (g h:Int→Int):∀ x:St,(x.ml g).ml h=x.ml (fun n=>h (g n))
  | .mk k l n a b c t=>by simp only [St.ml];rw [yB g h a,yB g h b,comp_Bs g h c]
theorem yA (g h:Int→Int):∀ l:List St,St.mls h (St.mls g l)=St.mls (fun n=>h (g n)) l
  | []=>rfl
  | x::r=>by simp only [St.mls];rw [comp_S g h x,yA g h r]
theorem comp_Bs (g h:Int→Int):∀ l:List (List St),St.mlss h (St.mlss g l)=St.mlss (fun n=>h (g n)) l
  | []=>rfl
  | x::r=>by simp only [St.mlss];rw [yA g h x,comp_Bs g h r]
end
theorem Z_comp (g:Int→Int):(fun n=>Z (g n))=Z:=rfl
mutual
theorem nn_E:∀ (x:Ex) (t:Ttl) (p:Int),ZH t p x=0→x.ml sg0=x.ml Z
  | .mk k o l p q s a f,t,pp,h=>by
    obtain ⟨h1,h2,h3⟩:=Qm.1 h;obtain ⟨-,-,h4,h5,-⟩:=ql.1 h1
    have hl:sg0 l=0:=by
      unfold sg0;rw [if_neg (fun h9=>h4 (by rw [show (Ex.mk k o l p q s a f).line=l from rfl,decide_eq_true h9];rfl))]
    simp only [Ex.ml];rw [nn_Es a k (fun y hy=>⟨_,_,h2 y hy⟩),nn_Fs f (fun y hy=>⟨fun h9=>h5 (List.any_eq_true.2 ⟨y,hy,by rw [decide_eq_true h9];rfl⟩),h3 y hy⟩),hl];rfl
theorem nn_Es:∀ (l:List Ex) (p:Int),(∀ y ∈ l,∃ t p,ZH t p y=0)→Ex.mls sg0 l=Ex.mls Z l
  | [],_,_=>rfl
  | x::r,p,h=>by
    obtain ⟨t,p',hx⟩:=h x List.mem_cons_self;simp only [Ex.mls];rw [nn_E x t p' hx,nn_Es r p fun y hy=>h y (List.mem_cons_of_mem _ hy)]
theorem nn_F:∀ x:Fn,¬ x.line<0→Zf (ZI x.body)=0→x.ml sg0=x.ml Z
  | .mk n p v b l,hl,h=>by
    have hl:sg0 l=0:=by unfold sg0;exact if_neg hl
    simp only [Fn.ml];rw [Uw b h,hl];rfl
theorem nn_Fs:∀ l:List Fn,(∀ y ∈ l,¬ y.line<0∧Zf (ZI y.body)=0)→Fn.mls sg0 l=Fn.mls Z l
  | [],_=>rfl
  | x::r,h=>by
    simp only [Fn.mls];rw [nn_F x (h x List.mem_cons_self).1 (h x List.mem_cons_self).2,nn_Fs r fun y hy=>h y (List.mem_cons_of_mem _ hy)]
theorem nn_S:∀ (s:St) (last:Bool),Qs last s=0→s.ml sg0=s.ml Z
  | .mk k l n a b c t,last,h=>by
    obtain ⟨h1,h2,h3,h4⟩:=Zq.1 h;obtain ⟨-,-,h5,-⟩:=vz.1 h1
    have hl:sg0 l=0:=by
      unfold sg0;rw [if_neg (fun h9=>h5 (by rw [show (St.mk k l n a b c t).line=l from rfl,decide_eq_true h9];rfl))]
    simp only [St.ml];rw [nn_Es a 0 (fun y hy=>⟨_,_,h2 y hy⟩),nn_Es b 0 (fun y hy=>⟨_,_,h3 y hy⟩),nn_Bs c h4,hl];rfl
theorem Uw:∀ l:List St,Zf (ZI l)=0→St.mls sg0 l=St.mls Z l
  | [],_=>rfl
  | x::r,h=>by
    have h1:Qs r.isEmpty x=0∧Zf (ZI r)=0:=zG.1 h;simp only [St.mls];rw [nn_S x _ h1.1,Uw r h1.2]
theorem nn_Bs:∀ l:List (List St),(∀ b ∈ l,Zf (ZI b)=0)→St.mlss sg0 l=St.mlss Z l
  | [],_=>rfl
  | x::r,h=>by
    simp only [St.mlss];rw [Uw x (h x List.mem_cons_self),nn_Bs r fun b hb=>h b (List.mem_cons_of_mem _ hb)]
end
theorem fz_f0 {L:List Tk} (h:∀ t ∈ L,0≤t.line):L.map f0=L.map fz:=List.map_congr_left fun t ht=>by
  unfold f0 fz sg0;rw [if_neg (by have:=h t ht;omega)]
theorem fz_kt {L M:List Tk} (h:L.map kt0=M.map kt0):L.map fz=M.map fz:=by
  have:∀ l:List Tk,l.map fz=(l.map kt0).map fun q=>(⟨q.1,q.2,0,0⟩:Tk):=fun l=>by rw [List.map_map];rfl
  rw [this,this,h]
theorem EB_up2 {L:List Tk} (h:L.length<70000):∀ k,(EB (70000+k)).2 L=(EB 70000).2 L
  | 0=>rfl
  | k+1=>by rw [←EB_up2 h k,(EB_ag (70000+k)).2 L (by omega)];rfl
theorem read_blk {b:List St} (he:Zf (ZI b)=0) {L:List Tk} (hL:L.map kt0=(kSs b).map kt0) (hl:∀ t ∈ L,0≤t.line) (hn:L.length<70000):∃ c,(EB 70000).2 L=.ok c []∧St.mls sg0 c=St.mls sg0 b:=by
  have h1:=(jt num_law (70000+(2*St.szs b+1))).2 b [] (by omega) he rfl;rw [List.append_nil] at h1;have h2:=(nt_fz.EB (70000+(2*St.szs b+1))).2 (kSs b);have h3:=(nt_f0.EB (70000+(2*St.szs b+1))).2 L;rw [h1] at h2;rw [fz_f0 hl,fz_kt hL,h2,EB_up2 hn] at h3;simp only [Res.lift,List.map_nil] at h3;cases h4:(EB 70000).2 L with
  | bad l=>rw [h4] at h3;cases h3
  | ok c l =>
    rw [h4] at h3;simp only [Res.lift,Res.ok.injEq] at h3;obtain ⟨h5,h6⟩:=h3;have hl:l=[]:=by cases l with|nil=>rfl|cons a r=>simp at h6
    subst hl;exact ⟨c,rfl,by rw [←h5,yA,Z_comp,Uw b he]⟩
theorem text_tokens {b:List St} (he:Zf (ZI b)=0) (hl:(Ky b).length≤65536):∃ L,scanT (Ky b)=.ok L∧L.map kt0=(kSs b).map kt0∧(∀ t ∈ L,1≤t.line)∧L.length≤65536:=by
  have h1:=(jq (St.szs b)).2 b (Nat.le_refl _) he 0 [] [] Wd.nil;rw [List.append_nil,List.append_nil] at h1;obtain ⟨l,z,h2,h3,h4,h5⟩:=h1;have h6:Ky b=wr l z:=h2;rw [h6] at hl ⊢;obtain ⟨L,k1,k2,k3⟩:=scanT_wr h5 h3 hl;obtain ⟨-,k4,k5⟩:=scanT_ok k1;exact ⟨L,k1,by rw [k2,←h4,List.map_map];rfl,k3,by omega⟩
theorem yT {b:List St} (he:Zf (ZI b)=0) (hl:(Ky b).length≤65536):∃ c,pblkW (Ky b)=.ok c∧St.mls sg0 c=St.mls sg0 b:=by
  obtain ⟨L,h1,h2,h3,h4⟩:=text_tokens he hl;obtain ⟨c,h5,h6⟩:=read_blk he h2 (fun t ht=>by have:=h3 t ht;omega) (by omega);refine ⟨c,?_,h6⟩;unfold pblkW parseW;rw [h1];dsimp only;rw [h5]
end Go.Proofs.YtdmdhopfgnlnoaaGreatDoor
