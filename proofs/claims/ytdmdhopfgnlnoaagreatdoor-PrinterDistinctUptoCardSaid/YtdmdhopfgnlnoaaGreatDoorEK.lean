/- What a token looks like in a text, and what may follow it there. -/
import Derived.Test.YtdmdhopfgnlnoaaGreatDoorE1
import Derived.Test.YtdmdhopfgnlnoaaGreatDoorTZ
namespace Go.Proofs.YtdmdhopfgnlnoaaGreatDoor
open Go.RowKit
set_option linter.unusedVariables false
set_option linter.unusedSimpArgs false
def Ez (z:Sb):Prop:=∀ c r,z=c::r→wordB c=false∧c≠46
theorem digN_none {c:UInt8} (h:wordB c=false):jh c = -1:=by
  unfold wordB zk at h;simp only [Bool.or_eq_false_iff,Bool.and_eq_false_iff,decide_eq_false_iff_not] at h;unfold jh;rw [if_neg (fun h9=>by rcases h.2 with h1|h1;exact h1 h9.1;exact h1 h9.2),if_neg (fun h9=>by rcases h.1.1.1 with h1|h1;exact h1 h9.1;exact h1 h9.2),if_neg (fun h9=>by rcases h.1.1.2 with h1|h1;exact h1 h9.1;exact h1 h9.2)]
section
variable {z:Sb} (hz:Ez z)
include hz
theorem tw_end {p:UInt8→Bool} (hp:∀ c,wordB c=false→p c=false):∀ r:Sb,(r++z).takeWhile p=r.takeWhile p
  | []=>by
    cases hx:z with
    | nil=>rfl
    | cons c r=>simp [List.takeWhile_cons,hp c (hz c r hx).1]
  | c::r=>by
    have:=tw_end hp r;simp only [List.cons_append,List.takeWhile_cons,this]
theorem yQ {b:Int} (hb:b≤36) (r:Sb):VE b (r++z)=VE b r:=by
  unfold VE;rw [tw_end hz fun c hc=>by unfold isD;simp [digN_none hc]]
theorem KX {r:Sb} {i:Nat} {c:UInt8} (hi:i≤r.length) (hc:wordB c=true∨c=46):(r++z)[i]?=some c↔r[i]?=some c:=by
  rcases Nat.lt_or_ge i r.length with h|h
  · rw [List.getElem?_append_left h]
  · have:i=r.length:=by omega
    subst this;rw [List.getElem?_append_right (Nat.le_refl _),Nat.sub_self,List.getElem?_eq_none (Nat.le_refl _)];cases hx:z with
    | nil=>simp
    | cons d s =>
      obtain ⟨h1,h2⟩:=hz d s hx;simp only [List.getElem?_cons_zero,Option.some.injEq];constructor
      · rintro rfl;rcases hc with h|h
        · rw [h1] at h;cases h
        · exact absurd h h2
      · intro h;cases h
theorem findN_end (r:Sb):jl (r++z)=jl r:=by
  have hle:=XE 10 r;rw [YE,YE,yQ hz (by decide)];by_cases h0:VE 10 r=0
  · rw [if_pos h0,if_pos h0]
  rw [if_neg h0,if_neg h0];by_cases h1:VE 10 r=1∧r[0]?=some 48∧(r[1]?=some 120∨r[1]?=some 88)
  · obtain ⟨e1,z0,x1⟩:=h1
    have hl:2≤r.length:=by
      rcases x1 with x1|x1 <;> (have:=(List.getElem?_eq_some_iff.1 x1).1;omega)
    have x2:(r++z)[1]?=some 120∨(r++z)[1]?=some 88:=by rw [KX hz (by omega) (by decide),KX hz (by omega) (by decide)];exact x1
    have z2:(r++z)[0]?=some 48:=(KX hz (by omega) (by decide)).2 z0;have d2:VE 16 ((r++z).drop 2)=VE 16 (r.drop 2):=by rw [drop_app hl,yQ hz (by decide)]
    simp only [e1,z0,x1,x2,z2,d2,true_and];by_cases h3:0<VE 16 (r.drop 2)
    · rw [if_pos h3,if_pos h3]
    · rw [if_neg h3,if_neg h3];have p1:¬ r[1]?=some 46:=by rcases x1 with x1|x1 <;> (rw [x1];decide)
      have p2:¬ (r++z)[1]?=some 46:=by rw [KX hz (by omega) (by decide)];exact p1
      simp only [p1,p2,false_and,if_false]
  · have h2:¬ (VE 10 r=1∧(r++z)[0]?=some 48∧((r++z)[1]?=some 120∨(r++z)[1]?=some 88)):=by
      rintro ⟨a,b,c⟩;rw [KX hz (by omega) (by decide)] at b;rw [KX hz (by omega) (by decide),KX hz (by omega) (by decide)] at c;exact h1 ⟨a,b,c⟩
    have n2:¬ (VE 10 r=1∧(r++z)[0]?=some 48∧((r++z)[1]?=some 120∨(r++z)[1]?=some 88)∧0<VE 16 ((r++z).drop 2)):=fun h=>h2 ⟨h.1,h.2.1,h.2.2.1⟩;have n1:¬ (VE 10 r=1∧r[0]?=some 48∧(r[1]?=some 120∨r[1]?=some 88)∧0<VE 16 (r.drop 2)):=fun h=>h1 ⟨h.1,h.2.1,h.2.2.1⟩;rw [if_neg n2,if_neg n1];by_cases p1:r[VE 10 r]?=some 46
    · have p2:=(KX hz hle (by decide)).2 p1;have hl:VE 10 r+1≤r.length:=by have:=(List.getElem?_eq_some_iff.1 p1).1;omega
      rw [drop_app hl,yQ hz (by decide)];simp only [p1,p2,true_and]
    · have p2:¬ (r++z)[VE 10 r]?=some 46:=by rw [KX hz hle (by decide)];exact p1
      simp only [p1,p2,false_and,if_false]
end
theorem esc_dec:∀ c:Fin 256,(c.val<32∨126<c.val)→valN 10 [UInt8.ofNat (48+c.val / 100),UInt8.ofNat (48+c.val / 10 % 10),UInt8.ofNat (48+c.val % 10)]=c.val∧YQ (UInt8.ofNat (48+c.val / 100))=true∧YQ (UInt8.ofNat (48+c.val / 10 % 10))=true∧YQ (UInt8.ofNat (48+c.val % 10))=true:=by decide +kernel
theorem esc_all:∀ c:Fin 256,(UInt8.ofNat c.val=10∧QJ (UInt8.ofNat c.val)=[92,110])∨(UInt8.ofNat c.val=9∧QJ (UInt8.ofNat c.val)=[92,116])∨((UInt8.ofNat c.val=92∨UInt8.ofNat c.val=34)∧QJ (UInt8.ofNat c.val)=[92,UInt8.ofNat c.val]) ∨
    ((c.val<32∨126<c.val)∧QJ (UInt8.ofNat c.val)=[92,UInt8.ofNat (48+c.val / 100),UInt8.ofNat (48+c.val / 10 % 10),UInt8.ofNat (48+c.val % 10)])∨(UInt8.ofNat c.val≠10∧UInt8.ofNat c.val≠34∧UInt8.ofNat c.val≠92∧QJ (UInt8.ofNat c.val)=[UInt8.ofNat c.val]):=by decide +kernel
theorem esc_one (c:UInt8) (z:Sb):(∃ m d,QJ c=92::d∧escL (d++z)=.ok (c,m)∧m=d.length+1)∨(c≠10∧c≠34∧c≠92∧QJ c=[c]):=by
  obtain ⟨k,hk⟩:∃ k:Fin 256,c=UInt8.ofNat k.val:=⟨⟨c.toNat,c.toNat_lt⟩,by simp⟩
  subst hk;rcases esc_all k with ⟨h1,h2⟩|⟨h1,h2⟩|⟨h1,h2⟩|⟨h1,h2⟩|⟨h1,h2,h3,h4⟩
  · exact .inl ⟨_,_,h2,by rw [h1];rfl,rfl⟩
  · exact .inl ⟨_,_,h2,by rw [h1];rfl,rfl⟩
  · exact .inl ⟨_,_,h2,by rcases h1 with h1|h1 <;> (rw [h1];rfl),rfl⟩
  · refine .inl ⟨_,_,h2,?_,rfl⟩;obtain ⟨v,d1,d2,d3⟩:=esc_dec k h1;generalize UInt8.ofNat (48+k.val / 100)=a at v d1;generalize UInt8.ofNat (48+k.val / 10 % 10)=b at v d2;generalize UInt8.ofNat (48+k.val % 10)=e at v d3
    have hne:∀ x:UInt8,YQ x=true→x≠110∧x≠116∧¬ (x=92∨x=39∨x=34)∧x≠120:=by
      intro x hx;refine ⟨?_,?_,?_,?_⟩
      · rintro rfl;exact absurd hx (by decide)
      · rintro rfl;exact absurd hx (by decide)
      · rintro (rfl|rfl|rfl) <;> exact absurd hx (by decide)
      · rintro rfl;exact absurd hx (by decide)
    obtain ⟨n1,n2,n3,n4⟩:=hne a d1
    have hs:3≤jj YQ (a::([b,e]++z)):=by
      unfold jj;simp [List.takeWhile_cons,d1,d2,d3]
    have hm:min (jj YQ (a::([b,e]++z))) 3=3:=by omega
    show escL (a::([b,e]++z))=_;unfold escL;simp only [if_neg n1,if_neg n2,if_neg n3,if_neg n4,if_pos d1,hm];have ht:(a::([b,e]++z)).take 3=[a,b,e]:=rfl;rw [ht,v,if_neg (by have:=k.isLt;omega)];simp
  · exact .inr ⟨h1,h2,h3,h4⟩
theorem str_one (z:Sb):∀ (s b:Sb) (n k:Nat),(s.flatMap QJ++34::z).length<n→b.length+s.length≤4096→yJ 34 n (s.flatMap QJ++34::z) b k=.ok (b++s,k+(s.flatMap QJ).length+1)
  | [],b,0,k,hn,_=>absurd hn (by omega)
  | [],b,n+1,k,hn,hb=>by simp [yJ]
  | c::s,b,0,k,hn,_=>absurd hn (by omega)
  | c::s,b,n+1,k,hn,hb=>by
    have hlen:b.length≠4096:=by simp at hb;omega
    rw [List.flatMap_cons,List.append_assoc] at hn ⊢;rcases esc_one c (s.flatMap QJ++34::z) with ⟨m,d,h1,h2,h3⟩|⟨h1,h2,h3,h4⟩
    · rw [h1] at hn ⊢;have ih:=str_one z s (b++[c]) n (k+m) (by simp at hn ⊢;omega) (by simp at hb ⊢;omega);show yJ 34 (n+1) (92::(d++(s.flatMap QJ++34::z))) b k=_;rw [yJ];simp only [if_neg (show ¬ (92:UInt8)=10 by decide),if_neg (show ¬ (92:UInt8)=34 by decide),if_true,h2,if_neg hlen]
      have hd:(92::(d++(s.flatMap QJ++34::z))).drop m=s.flatMap QJ++34::z:=by
        rw [h3,List.drop_succ_cons,List.drop_left]
      rw [hd,ih];simp;omega
    · rw [h4] at hn ⊢;have ih:=str_one z s (b++[c]) n (k+1) (by simp at hn ⊢;omega) (by simp at hb ⊢;omega);show yJ 34 (n+1) (c::(s.flatMap QJ++34::z)) b k=_;rw [yJ];simp only [if_neg h1,if_neg h2,if_neg h3,if_neg hlen];rw [ih];simp;omega
theorem pre_ext {c:UInt8} {r:Sb}:∀ (y t:Sb),(t++[c]).isPrefixOf y=false→y.isPrefixOf (t++c::r)=y.isPrefixOf t
  | [],t,_=>by cases t <;> rfl
  | a::y,[],h=>by
    show (a==c && y.isPrefixOf r)=false
    have h2:(c==a)=false:=by
      have h3:((c==a) && ([]:Sb).isPrefixOf y)=false:=h;simpa using h3
    have h4:(a==c)=false:=by rw [beq_eq_false_iff_ne] at h2 ⊢;exact fun h=>h2 h.symm
    rw [h4];rfl
  | a::y,d::t,h=>by
    show (a==d && y.isPrefixOf (t++c::r))=(a==d && y.isPrefixOf t)
    cases hd:a==d
    · rfl
    · have hda:a=d:=by simpa using hd
      subst hda
      have h2:(t++[c]).isPrefixOf y=false:=by
        have h3:((a==a) && (t++[c]).isPrefixOf y)=false:=h;simpa using h3
      rw [pre_ext y t h2]
theorem sym_self:∀ t ∈ symsL,(symsL.find? (·.isPrefixOf t))=some t:=by decide +kernel
theorem sym_end {t z:Sb} (ht:t ∈ symsL) (hz:∀ c r,z=c::r→symsL.any (fun y=>(t++[c]).isPrefixOf y)=false):(symsL.find? (·.isPrefixOf (t++z)))=some t:=by
  rw [←sym_self t ht];cases hx:z with
  | nil=>rw [List.append_nil]
  | cons c r =>
    have h2:=hz c r hx;rw [List.any_eq_false] at h2
    have key:∀ l:List Sb,(∀ y ∈ l,y ∈ symsL)→l.find? (·.isPrefixOf (t++c::r))=l.find? (·.isPrefixOf t):=by
      intro l
      induction l with
      | nil=>intro _;rfl
      | cons y l ih =>
        intro hl;have h3:y.isPrefixOf (t++c::r)=y.isPrefixOf t:=pre_ext y t (Bool.eq_false_iff.2 (h2 y (hl y List.mem_cons_self)));rw [List.find?_cons,List.find?_cons,h3,ih fun y hy=>hl y (List.mem_cons_of_mem _ hy)]
    exact key symsL fun _ h=>h
theorem yH:∀ t ∈ symsL,∃ c r,t=c::r∧zk c=false∧YQ c=false∧¬ (c=39∨c=34)∧c≠10∧¬ (c=32∨c=9∨c=13)∧(c=45→r=[]):=by
  have h:∀ t ∈ symsL,(match t with|[]=>false|c::r => !zk c && !YQ c && !(c==39 || c==34) && !(c==10) && !(c==32 || c==9 || c==13) && (!(c==45) || r.isEmpty))=true:=by decide +kernel
  intro t ht;have h2:=h t ht;cases t with
  | nil=>cases h2
  | cons c r =>
    simp only [Bool.and_eq_true,Bool.not_eq_true',Bool.or_eq_true,Bool.or_eq_false_iff,beq_eq_false_iff_ne,List.isEmpty_iff] at h2;obtain ⟨⟨⟨⟨⟨h1,h2⟩,h3⟩,h4⟩,h5⟩,h6⟩:=h2;refine ⟨c,r,rfl,h1,h2,fun h=>?_,h4,fun h=>?_,fun h=>?_⟩
    · rcases h with h|h
      · exact h3.1 h
      · exact h3.2 h
    · rcases h with h|h|h
      · exact h5.1.1 h
      · exact h5.1.2 h
      · exact h5.2 h
    · rcases h6 with h6|h6
      · exact absurd h h6
      · exact h6
def jK (t:Tk):Prop :=
  (∃ c r,t.text.data.toList=c::r∧zk c=true∧(c::r).all wordB=true∧(c::r).length≤40∧t.kind=if kwL (c::r)=true then 2 else 1) ∨
  (t.kind=3∧NumX t.text.data.toList)∨(t.kind=4∧t.text.size≤4096)∨(t.kind=5∧t.text.data.toList ∈ symsL)
def qn (t:Tk):Sb:=if t.kind=4 then Vv t.text else t.text.data.toList
def Xm (t:Tk) (z:Sb):Bool:=match z with
  | []=>true
  | c::_=>if t.kind=1∨t.kind=2 then !wordB c else if t.kind=3 then !wordB c && c != 46 else if t.kind=5 then !symsL.any (fun y=>(t.text.data.toList++[c]).isPrefixOf y) && !(t.text.data.toList==[45] && c==45) else true
theorem bd_word {t:Tk} {z:Sb} (h:Xm t z=true) (hk:t.kind=1∨t.kind=2):∀ c r,z=c::r→wordB c=false:=by
  rintro c r rfl;unfold Xm at h;dsimp only at h;rw [if_pos hk] at h;simpa using h
theorem bd_num {t:Tk} {z:Sb} (h:Xm t z=true) (hk:t.kind=3):Ez z:=by
  rintro c r rfl;unfold Xm at h;dsimp only at h;rw [if_neg (by rw [hk];decide),if_pos hk] at h;simpa using h
theorem bd_sym {t:Tk} {z:Sb} (h:Xm t z=true) (hk:t.kind=5):∀ c r,z=c::r→symsL.any (fun y=>(t.text.data.toList++[c]).isPrefixOf y)=false∧¬ (t.text.data.toList=[45]∧c=45):=by
  rintro c r rfl;unfold Xm at h;dsimp only at h;rw [if_neg (by rw [hk];decide),if_neg (by rw [hk];decide),if_pos hk] at h;simp only [Bool.and_eq_true,Bool.not_eq_true',Bool.and_eq_false_iff,beq_eq_false_iff_ne] at h;refine ⟨h.1,fun h9=>?_⟩;rcases h.2 with h2|h2
  · exact h2 h9.1
  · exact h2 h9.2
theorem je {t:Tk} {c:UInt8} {z:Sb} (hc:c=32∨c=10):Xm t (c::z)=true:=by
  have hs:symsL.any (fun y=>(t.text.data.toList++[c]).isPrefixOf y)=false:=by
    rw [List.any_eq_false];intro y hy h;have h1:(t.text.data.toList++[c]) <+: y:=List.isPrefixOf_iff_prefix.1 h;have h2:c ∈ y:=h1.subset (by simp);have h3:∀ y ∈ symsL,∀ c ∈ y,c≠32∧c≠10:=by decide +kernel
    have h4:=h3 y hy c h2;rcases hc with rfl|rfl
    · exact h4.1 rfl
    · exact h4.2 rfl
  unfold Xm;simp only [hs];rcases hc with rfl|rfl <;> (split <;> try split <;> try split) <;> simp <;> decide
theorem tw_all {p:UInt8→Bool}:∀ {l:Sb},l.all p=true→l.takeWhile p=l
  | [],_=>rfl
  | c::r,h=>by
    simp only [List.all_cons,Bool.and_eq_true] at h;rw [List.takeWhile_cons,if_pos h.1,tw_all h.2]
theorem Xy (b:ByteArray):Xh b.data.toList=b:=by unfold Xh;simp
theorem tok_src {t:Tk} {z:Sb} (a ln:Nat) (h:jK t) (hb:Xm t z=true):jN a ln (qn t++z)=.ok (⟨t.kind,t.text,ln,a⟩,(qn t).length):=by
  rcases h with ⟨c,r,h1,h2,h3,h4,h5⟩|⟨hk,hn⟩|⟨hk,hs⟩|⟨hk,hs⟩
  · have hk:t.kind=1∨t.kind=2:=by rw [h5];split <;> simp
    have hsrc:qn t=c::r:=by unfold qn;rw [if_neg (by rcases hk with h|h <;> rw [h] <;> decide),h1]
    have hz:=bd_word hb hk
    have hsp:jj wordB (c::r++z)=(c::r).length:=by
      unfold jj;rw [List.takeWhile_append];have h6:(c::r).takeWhile wordB=c::r:=tw_all h3;rw [h6,if_pos rfl];cases hx:z with
      | nil=>simp
      | cons d s=>rw [List.takeWhile_cons,hz d s hx];simp
    have htk:(c::r++z).take (c::r).length=c::r:=List.take_left;rw [hsrc];show jN a ln (c::(r++z))=_;unfold jN;dsimp only;rw [if_pos h2,show c::(r++z)=c::r++z from rfl,hsp,if_neg (by omega),htk];have ht:Xh (c::r)=t.text:=by rw [←h1,Xy]
    rw [ht,h5]
  · have hsrc:qn t=t.text.data.toList:=by unfold qn;rw [if_neg (by rw [hk];decide)]
    obtain ⟨c,r,hl,hd⟩:=hn.first;obtain ⟨u,hu,hen,h0⟩:=hn;have hz:=bd_num hb hk
    have hdig:YQ c=true∧zk c=false:=by
      have:∀ c:Fin 256,isD 10 (UInt8.ofNat c.val)=true→YQ (UInt8.ofNat c.val)=true∧zk (UInt8.ofNat c.val)=false:=by decide +kernel
      have h9:=this ⟨c.toNat,c.toNat_lt⟩;simpa using h9 (by simpa using hd)
    rw [hsrc];have hf:jl (t.text.data.toList++z)=some u:=by rw [findN_end hz];exact hu
    have hnn:Xq (t.text.data.toList++z) u=Xq t.text.data.toList u:=numN_app (jw hu);rw [hl] at hf hnn hu hen h0 ⊢;show jN a ln (c::(r++z))=_;unfold jN;dsimp only;rw [if_neg (by rw [hdig.2];decide),if_pos hdig.1,show c::(r++z)=c::r++z from rfl,hf];dsimp only;rw [hnn,if_neg (by rw [h0];simp),hen,List.drop_left,List.take_left,if_neg ?_]
    · have ht:Xh (c::r)=t.text:=by rw [←hl,Xy]
      rw [ht,hk]
    · cases hx:z with
      | nil=>simp
      | cons d s=>simp [(hz d s hx).1]
  · have hsrc:qn t=34::((Zg t.text).flatMap QJ++[34]):=by unfold qn;rw [if_pos hk];rfl
    rw [hsrc];show jN a ln (34::((Zg t.text).flatMap QJ++[34]++z))=_;unfold jN;dsimp only;rw [if_neg (show ¬ zk 34=true by decide),if_neg (show ¬ YQ 34=true by decide),if_pos (by decide)];rw [List.append_assoc,List.singleton_append,str_one z (Zg t.text) [] _ 1 (Nat.lt_succ_self _) (by simp only [List.length_nil,Zg,Array.length_toList];show 0+t.text.size≤4096;omega)];dsimp only;have ht:Xh ([]++Zg t.text)=t.text:=by rw [List.nil_append];exact Xy _
    rw [ht,hk];simp;omega
  · have hsrc:qn t=t.text.data.toList:=by unfold qn;rw [if_neg (by rw [hk];decide)]
    obtain ⟨c,r,hl,h1,h2,h3,-⟩:=yH _ hs;have hf:=sym_end hs (fun c r h=>(bd_sym hb hk c r h).1);rw [hsrc];rw [hl] at hf ⊢;show jN a ln (c::(r++z))=_;unfold jN;dsimp only;rw [if_neg (by rw [h1];decide),if_neg (by rw [h2];decide),if_neg h3,show c::(r++z)=c::r++z from rfl,hf];dsimp only;have ht:Xh (c::r)=t.text:=by rw [←hl,Xy]
    rw [ht,hk]
theorem skip_src {t:Tk} {z:Sb} (h:jK t) (hb:Xm t z=true):Vu false (qn t++z)=(0,0):=by
  have key:∀ (c:UInt8) (r:Sb),c≠10→¬ (c=32∨c=9∨c=13)→¬ (c=45∧r.head?=some 45)→Vu false (c::r)=(0,0):=fun c r h1 h2 h3=>by rw [skipL_f,if_neg h1,if_neg h2,if_neg h3]
  rcases h with ⟨c,r,h1,h2,h3,h4,h5⟩|⟨hk,hn⟩|⟨hk,hs⟩|⟨hk,hs⟩
  · have hk:t.kind=1∨t.kind=2:=by rw [h5];split <;> simp
    have hsrc:qn t=c::r:=by unfold qn;rw [if_neg (by rcases hk with h|h <;> rw [h] <;> decide),h1]
    rw [hsrc];have hc:c≠10∧¬ (c=32∨c=9∨c=13)∧c≠45:=⟨by rintro rfl;exact absurd h2 (by decide),by rintro (rfl|rfl|rfl) <;> exact absurd h2 (by decide),by rintro rfl;exact absurd h2 (by decide)⟩
    exact key c _ hc.1 hc.2.1 fun h=>hc.2.2 h.1
  · have hsrc:qn t=t.text.data.toList:=by unfold qn;rw [if_neg (by rw [hk];decide)]
    obtain ⟨c,r,hl,hd⟩:=hn.first;rw [hsrc,hl];have hc:c≠10∧¬ (c=32∨c=9∨c=13)∧c≠45:=⟨by rintro rfl;exact absurd hd (by decide),by rintro (rfl|rfl|rfl) <;> exact absurd hd (by decide),by rintro rfl;exact absurd hd (by decide)⟩
    exact key c _ hc.1 hc.2.1 fun h=>hc.2.2 h.1
  · have hsrc:qn t=34::((Zg t.text).flatMap QJ++[34]):=by unfold qn;rw [if_pos hk];rfl
    rw [hsrc];exact key 34 _ (by decide) (by decide) fun h=>absurd h.1 (by decide)
  · have hsrc:qn t=t.text.data.toList:=by unfold qn;rw [if_neg (by rw [hk];decide)]
    obtain ⟨c,r,hl,h1,h2,h3,h4,h5,h6⟩:=yH _ hs;rw [hsrc];have hb2:=bd_sym hb hk;rw [hl] at hb2 ⊢;refine key c _ h4 h5 fun h=>?_;have hr:=h6 h.1;subst hr;cases hx:z with
    | nil=>rw [hx] at h;exact absurd h.2 (by simp)
    | cons d s =>
      rw [hx] at h;have h7:d=45:=by simpa using h.2
      exact (hb2 d s hx).2 ⟨by rw [h.1],h7⟩
def kt0 (t:Tk):Int × ByteArray:=(t.kind,t.text)
theorem scanX_b1 (c:UInt8) (hc:c=32∨c=10) (a ln:Nat) (r:Sb) (acc:List Tk):∃ ln',ln≤ln'∧jb a ln (c::r) acc=jb (a+1) ln' r acc:=by
  rcases hc with rfl|rfl
  · refine ⟨ln,Nat.le_refl _,?_⟩;have h:Vu false (32::r)=(1+(Vu false r).1,(Vu false r).2):=by rw [skipL_f];simp
    rw [KL a,KL (a+1),h];have h2:(32::r:Sb).drop (1+(Vu false r).1)=r.drop (Vu false r).1:=by rw [Nat.add_comm];rfl
    simp only [h2,show a+(1+(Vu false r).1)=a+1+(Vu false r).1 from by omega]
  · refine ⟨ln+1,Nat.le_succ _,?_⟩;have h:Vu false (10::r)=(1+(Vu false r).1,1+(Vu false r).2):=by rw [skipL_f];simp
    rw [KL a,KL (a+1),h];have h2:(10::r:Sb).drop (1+(Vu false r).1)=r.drop (Vu false r).1:=by rw [Nat.add_comm];rfl
    simp only [h2,show a+(1+(Vu false r).1)=a+1+(Vu false r).1 from by omega,show ln+(1+(Vu false r).2)=ln+1+(Vu false r).2 from by omega]
theorem yN:∀ (s:Sb) (hs:∀ c ∈ s,c=32∨c=10) (a ln:Nat) (r:Sb) (acc:List Tk),∃ ln',ln≤ln'∧jb a ln (s++r) acc=jb (a+s.length) ln' r acc
  | [],_,a,ln,r,acc=>⟨ln,Nat.le_refl _,rfl⟩
  | c::s,hs,a,ln,r,acc=>by
    obtain ⟨l1,h1,h2⟩:=scanX_b1 c (hs c List.mem_cons_self) a ln (s++r) acc;obtain ⟨l2,h3,h4⟩:=yN s (fun c hc=>hs c (List.mem_cons_of_mem _ hc)) (a+1) l1 r acc;refine ⟨l2,Nat.le_trans h1 h3,?_⟩;rw [List.cons_append,h2,h4,List.length_cons,show a+1+s.length=a+(s.length+1) from by omega]
theorem srcL_ne {t:Tk} (h:jK t):∃ c r,qn t=c::r:=by
  rcases h with ⟨c,r,h1,-,-,-,h5⟩|⟨hk,hn⟩|⟨hk,hs⟩|⟨hk,hs⟩
  · exact ⟨c,r,by unfold qn;rw [if_neg (by rw [h5];split <;> decide),h1]⟩
  · obtain ⟨c,r,hl,-⟩:=hn.first;exact ⟨c,r,by unfold qn;rw [if_neg (by rw [hk];decide),hl]⟩
  · exact ⟨34,_,by unfold qn;rw [if_pos hk];rfl⟩
  · obtain ⟨c,r,hl,-⟩:=yH _ hs;exact ⟨c,r,by unfold qn;rw [if_neg (by rw [hk];decide),hl]⟩
theorem scanX_tok {t:Tk} {z:Sb} (h:jK t) (hb:Xm t z=true) (a ln:Nat) (acc:List Tk):jb a ln (qn t++z) acc=jb (a+(qn t).length) ln z (acc++[⟨t.kind,t.text,ln,a⟩]):=by
  obtain ⟨c,r,hl⟩:=srcL_ne h;have h1:=skip_src h hb;have h2:=tok_src a ln h hb;have h3:jN a ln (c::(r++z))=.ok (⟨t.kind,t.text,ln,a⟩,(qn t).length):=by rw [←h2,hl];rfl
  have h4:(qn t++z).drop 0=c::(r++z):=by rw [hl];rfl
  have h5:(c::(r++z):Sb).drop (qn t).length=z:=by rw [hl];exact List.drop_left
  rw [KL a,h1];simp only [h4,Nat.add_zero,h3,h5]
def wr:List (Sb × Tk)→Sb→Sb
  | [],z=>z
  | p::r,z=>p.1++(qn p.2++wr r z)
def okW:List (Sb × Tk)→Sb→Prop
  | [],_=>True
  | p::r,z=>(∀ c ∈ p.1,c=32∨c=10)∧jK p.2∧Xm p.2 (wr r z)=true∧okW r z
theorem scan_wr:∀ (l:List (Sb × Tk)) (z:Sb) (a ln:Nat) (acc:List Tk),okW l z→∃ a' ln' L,ln≤ln'∧jb a ln (wr l z) acc=jb a' ln' z (acc++L)∧L.map kt0=l.map (fun p=>kt0 p.2)∧∀ t ∈ L,(ln:Int)≤t.line
  | [],z,a,ln,acc,_=>⟨a,ln,[],Nat.le_refl _,by rw [List.append_nil];rfl,rfl,fun t h=>by cases h⟩
  | p::r,z,a,ln,acc,⟨h1,h2,h3,h4⟩=>by
    obtain ⟨l1,h5,h6⟩:=yN p.1 h1 a ln (qn p.2++wr r z) acc;obtain ⟨a2,l2,L,h7,h8,h9,h10⟩:=scan_wr r z (a+p.1.length+(qn p.2).length) l1 (acc++[⟨p.2.kind,p.2.text,l1,((a+p.1.length:Nat):Int)⟩]) h4;refine ⟨a2,l2,⟨p.2.kind,p.2.text,l1,((a+p.1.length:Nat):Int)⟩::L,Nat.le_trans h5 h7,?_,?_,?_⟩
    · show jb a ln (p.1++(qn p.2++wr r z)) acc=_;rw [h6,scanX_tok h2 h3,h8,List.append_assoc];rfl
    · rw [List.map_cons,List.map_cons,h9];rfl
    · intro t ht;rcases List.mem_cons.1 ht with rfl|ht
      · show (ln:Int)≤(l1:Int);omega
      · have:=h10 t ht;omega
theorem scanT_wr {l:List (Sb × Tk)} {z:Sb} (h:okW l z) (hz:∀ c ∈ z,c=32∨c=10) (hl:(wr l z).length≤65536):∃ L,scanT (wr l z)=.ok L∧L.map kt0=l.map (fun p=>kt0 p.2)∧∀ t ∈ L,1≤t.line:=by
  obtain ⟨a,ln,L,-,h1,h2,h3⟩:=scan_wr l z 0 1 [] h;obtain ⟨ln2,-,h4⟩:=yN z hz a ln [] ([]++L);refine ⟨L,?_,h2,h3⟩;rw [scanT_eq,if_neg (by omega),h1];rw [List.append_nil] at h4;rw [h4,KL];rfl
def sg0 (n:Int):Int:=if n<0 then n else 0
def f0 (t:Tk):Tk:=⟨t.kind,t.text,sg0 t.line,0⟩
theorem nt_f0:Nt f0 sg0:=⟨fun _=>rfl,fun _=>rfl,fun _=>rfl,rfl⟩
end Go.Proofs.YtdmdhopfgnlnoaaGreatDoor
