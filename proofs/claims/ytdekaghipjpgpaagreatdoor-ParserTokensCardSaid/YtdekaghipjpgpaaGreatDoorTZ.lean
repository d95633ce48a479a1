/- Three plain laws of joined names, of paths and of statements' forms. -/
import Derived.Test.YtdekaghipjpgpaaGreatDoorC1
import Derived.Lib.Join
import Derived.Test.YtdekaghipjpgpaaGreatDoorE6
import Derived.Test.YtdekaghipjpgpaaGreatDoorE3
import Derived.Test.YtdekaghipjpgpaaGreatDoorE9
import Derived.Test.YtdekaghipjpgpaaGreatDoorB1
import Derived.Test.YtdekaghipjpgpaaGreatDoorO2
import Derived.Test.YtdekaghipjpgpaaGreatDoorT8
namespace Go.Proofs.YtdekaghipjpgpaaGreatDoor
open Go.RowKit
set_option linter.unusedVariables false
set_option linter.unusedSimpArgs false
abbrev Bs:=List UInt8
def bsOf (s:ByteArray):Bs:=s.data.toList
def escB (c:UInt8):Bs :=
  if c=10 then [92,110] else if c=9 then [92,116] else if c=92∨c=34 then [92,c]
  else if c<32∨126<c then [92,48+c / 100,48+c / 10 % 10,48+c % 10] else [c]
def quoteT (s:ByteArray):Bs:=34::(bsOf s).flatMap escB++[34]
def Ez (z:Sb):Prop:=∀ c r,z=c::r→wordB c=false∧c≠46
theorem digN_none {c:UInt8} (h:wordB c=false):digN c = -1:=by
  unfold wordB initB at h;simp only [Bool.or_eq_false_iff,Bool.and_eq_false_iff,decide_eq_false_iff_not] at h;unfold digN;rw [if_neg (fun h9=>by rcases h.2 with h1|h1;exact h1 h9.1;exact h1 h9.2),if_neg (fun h9=>by rcases h.1.1.1 with h1|h1;exact h1 h9.1;exact h1 h9.2),if_neg (fun h9=>by rcases h.1.1.2 with h1|h1;exact h1 h9.1;exact h1 h9.2)]
section
variable {z:Sb} (hz:Ez z)
include hz
theorem tw_end {p:UInt8→Bool} (hp:∀ c,wordB c=false→p c=false):∀ r:Sb,(r++z).takeWhile p=r.takeWhile p
  | []=>by
    cases hx:z with
    | nil=>rfl
    | cons c r=>simp [List.takeWhile_cons,hp c (hz c r hx).1]
  | c::r=>by
    have:=tw_end hp r;simp only [List.cons_append,List.takeWhile_cons,this]
theorem runN_end {b:Int} (hb:b≤36) (r:Sb):runN b (r++z)=runN b r:=by
  unfold runN;rw [tw_end hz fun c hc=>by unfold isD;simp [digN_none hc]]
theorem get_end {r:Sb} {i:Nat} {c:UInt8} (hi:i≤r.length) (hc:wordB c=true∨c=46):(r++z)[i]?=some c↔r[i]?=some c:=by
  rcases Nat.lt_or_ge i r.length with h|h
  · rw [List.getElem?_append_left h]
  · have:i=r.length:=by omega
    subst this;rw [List.getElem?_append_right (Nat.le_refl _),Nat.sub_self,List.getElem?_eq_none (Nat.le_refl _)];cases hx:z with
    | nil=>simp
    | cons d s =>
      obtain ⟨h1,h2⟩:=hz d s hx;simp only [List.getElem?_cons_zero,Option.some.injEq];constructor
      · rintro rfl;rcases hc with h|h
        · rw [h1] at h;cases h
        · exact absurd h h2
      · intro h;cases h
theorem findN_end (r:Sb):findN (r++z)=findN r:=by
  have hle:=runN_le 10 r;rw [findN_eq,findN_eq,runN_end hz (by decide)];by_cases h0:runN 10 r=0
  · rw [if_pos h0,if_pos h0]
  rw [if_neg h0,if_neg h0];by_cases h1:runN 10 r=1∧r[0]?=some 48∧(r[1]?=some 120∨r[1]?=some 88)
  · obtain ⟨e1,z0,x1⟩:=h1
    have hl:2≤r.length:=by
      rcases x1 with x1|x1 <;> (have:=(List.getElem?_eq_some_iff.1 x1).1;omega)
    have x2:(r++z)[1]?=some 120∨(r++z)[1]?=some 88:=by rw [get_end hz (by omega) (by decide),get_end hz (by omega) (by decide)];exact x1
    have z2:(r++z)[0]?=some 48:=(get_end hz (by omega) (by decide)).2 z0;have d2:runN 16 ((r++z).drop 2)=runN 16 (r.drop 2):=by rw [drop_app hl,runN_end hz (by decide)]
    simp only [e1,z0,x1,x2,z2,d2,true_and];by_cases h3:0<runN 16 (r.drop 2)
    · rw [if_pos h3,if_pos h3]
    · rw [if_neg h3,if_neg h3];have p1:¬ r[1]?=some 46:=by rcases x1 with x1|x1 <;> (rw [x1];decide)
      have p2:¬ (r++z)[1]?=some 46:=by rw [get_end hz (by omega) (by decide)];exact p1
      simp only [p1,p2,false_and,if_false]
  · have h2:¬ (runN 10 r=1∧(r++z)[0]?=some 48∧((r++z)[1]?=some 120∨(r++z)[1]?=some 88)):=by
      rintro ⟨a,b,c⟩;rw [get_end hz (by omega) (by decide)] at b;rw [get_end hz (by omega) (by decide),get_end hz (by omega) (by decide)] at c;exact h1 ⟨a,b,c⟩
    have n2:¬ (runN 10 r=1∧(r++z)[0]?=some 48∧((r++z)[1]?=some 120∨(r++z)[1]?=some 88)∧0<runN 16 ((r++z).drop 2)):=fun h=>h2 ⟨h.1,h.2.1,h.2.2.1⟩;have n1:¬ (runN 10 r=1∧r[0]?=some 48∧(r[1]?=some 120∨r[1]?=some 88)∧0<runN 16 (r.drop 2)):=fun h=>h1 ⟨h.1,h.2.1,h.2.2.1⟩;rw [if_neg n2,if_neg n1];by_cases p1:r[runN 10 r]?=some 46
    · have p2:=(get_end hz hle (by decide)).2 p1;have hl:runN 10 r+1≤r.length:=by have:=(List.getElem?_eq_some_iff.1 p1).1;omega
      rw [drop_app hl,runN_end hz (by decide)];simp only [p1,p2,true_and]
    · have p2:¬ (r++z)[runN 10 r]?=some 46:=by rw [get_end hz hle (by decide)];exact p1
      simp only [p1,p2,false_and,if_false]
end
theorem esc_dec:∀ c:Fin 256,(c.val<32∨126<c.val)→valN 10 [UInt8.ofNat (48+c.val / 100),UInt8.ofNat (48+c.val / 10 % 10),UInt8.ofNat (48+c.val % 10)]=c.val∧digB (UInt8.ofNat (48+c.val / 100))=true∧digB (UInt8.ofNat (48+c.val / 10 % 10))=true∧digB (UInt8.ofNat (48+c.val % 10))=true:=by decide +kernel
theorem esc_all:∀ c:Fin 256,(UInt8.ofNat c.val=10∧escB (UInt8.ofNat c.val)=[92,110])∨(UInt8.ofNat c.val=9∧escB (UInt8.ofNat c.val)=[92,116])∨((UInt8.ofNat c.val=92∨UInt8.ofNat c.val=34)∧escB (UInt8.ofNat c.val)=[92,UInt8.ofNat c.val]) ∨
    ((c.val<32∨126<c.val)∧escB (UInt8.ofNat c.val)=[92,UInt8.ofNat (48+c.val / 100),UInt8.ofNat (48+c.val / 10 % 10),UInt8.ofNat (48+c.val % 10)])∨(UInt8.ofNat c.val≠10∧UInt8.ofNat c.val≠34∧UInt8.ofNat c.val≠92∧escB (UInt8.ofNat c.val)=[UInt8.ofNat c.val]):=by decide +kernel
theorem esc_one (c:UInt8) (z:Sb):(∃ m d,escB c=92::d∧escL (d++z)=.ok (c,m)∧m=d.length+1)∨(c≠10∧c≠34∧c≠92∧escB c=[c]):=by
  obtain ⟨k,hk⟩:∃ k:Fin 256,c=UInt8.ofNat k.val:=⟨⟨c.toNat,c.toNat_lt⟩,by simp⟩
  subst hk;rcases esc_all k with ⟨h1,h2⟩|⟨h1,h2⟩|⟨h1,h2⟩|⟨h1,h2⟩|⟨h1,h2,h3,h4⟩
  · exact .inl ⟨_,_,h2,by rw [h1];rfl,rfl⟩
  · exact .inl ⟨_,_,h2,by rw [h1];rfl,rfl⟩
  · exact .inl ⟨_,_,h2,by rcases h1 with h1|h1 <;> (rw [h1];rfl),rfl⟩
  · refine .inl ⟨_,_,h2,?_,rfl⟩;obtain ⟨v,d1,d2,d3⟩:=esc_dec k h1;generalize UInt8.ofNat (48+k.val / 100)=a at v d1;generalize UInt8.ofNat (48+k.val / 10 % 10)=b at v d2;generalize UInt8.ofNat (48+k.val % 10)=e at v d3
    have hne:∀ x:UInt8,digB x=true→x≠110∧x≠116∧¬ (x=92∨x=39∨x=34)∧x≠120:=by
      intro x hx;refine ⟨?_,?_,?_,?_⟩
      · rintro rfl;exact absurd hx (by decide)
      · rintro rfl;exact absurd hx (by decide)
      · rintro (rfl|rfl|rfl) <;> exact absurd hx (by decide)
      · rintro rfl;exact absurd hx (by decide)
    obtain ⟨n1,n2,n3,n4⟩:=hne a d1
    have hs:3≤spanB digB (a::([b,e]++z)):=by
      unfold spanB;simp [List.takeWhile_cons,d1,d2,d3]
    have hm:min (spanB digB (a::([b,e]++z))) 3=3:=by omega
    show escL (a::([b,e]++z))=_;unfold escL;simp only [if_neg n1,if_neg n2,if_neg n3,if_neg n4,if_pos d1,hm];have ht:(a::([b,e]++z)).take 3=[a,b,e]:=rfl;rw [ht,v,if_neg (by have:=k.isLt;omega)];simp
  · exact .inr ⟨h1,h2,h3,h4⟩
theorem str_one (z:Sb):∀ (s b:Sb) (n k:Nat),(s.flatMap escB++34::z).length<n→b.length+s.length≤4096→strG 34 n (s.flatMap escB++34::z) b k=.ok (b++s,k+(s.flatMap escB).length+1)
  | [],b,0,k,hn,_=>absurd hn (by omega)
  | [],b,n+1,k,hn,hb=>by simp [strG]
  | c::s,b,0,k,hn,_=>absurd hn (by omega)
  | c::s,b,n+1,k,hn,hb=>by
    have hlen:b.length≠4096:=by simp at hb;omega
    rw [List.flatMap_cons,List.append_assoc] at hn ⊢;rcases esc_one c (s.flatMap escB++34::z) with ⟨m,d,h1,h2,h3⟩|⟨h1,h2,h3,h4⟩
    · rw [h1] at hn ⊢;have ih:=str_one z s (b++[c]) n (k+m) (by simp at hn ⊢;omega) (by simp at hb ⊢;omega);show strG 34 (n+1) (92::(d++(s.flatMap escB++34::z))) b k=_;rw [strG];simp only [if_neg (show ¬ (92:UInt8)=10 by decide),if_neg (show ¬ (92:UInt8)=34 by decide),if_true,h2,if_neg hlen]
      have hd:(92::(d++(s.flatMap escB++34::z))).drop m=s.flatMap escB++34::z:=by
        rw [h3,List.drop_succ_cons,List.drop_left]
      rw [hd,ih];simp;omega
    · rw [h4] at hn ⊢;have ih:=str_one z s (b++[c]) n (k+1) (by simp at hn ⊢;omega) (by simp at hb ⊢;omega);show strG 34 (n+1) (c::(s.flatMap escB++34::z)) b k=_;rw [strG];simp only [if_neg h1,if_neg h2,if_neg h3,if_neg hlen];rw [ih];simp;omega
theorem pre_ext {c:UInt8} {r:Sb}:∀ (y t:Sb),(t++[c]).isPrefixOf y=false→y.isPrefixOf (t++c::r)=y.isPrefixOf t
  | [],t,_=>by cases t <;> rfl
  | a::y,[],h=>by
    show (a==c && y.isPrefixOf r)=false
    have h2:(c==a)=false:=by
      have h3:((c==a) && ([]:Sb).isPrefixOf y)=false:=h;simpa using h3
    have h4:(a==c)=false:=by rw [beq_eq_false_iff_ne] at h2 ⊢;exact fun h=>h2 h.symm
    rw [h4];rfl
  | a::y,d::t,h=>by
    show (a==d && y.isPrefixOf (t++c::r))=(a==d && y.isPrefixOf t)
    cases hd:a==d
    · rfl
    · have hda:a=d:=by simpa using hd
      subst hda
      have h2:(t++[c]).isPrefixOf y=false:=by
        have h3:((a==a) && (t++[c]).isPrefixOf y)=false:=h;simpa using h3
      rw [pre_ext y t h2]
theorem sym_self:∀ t ∈ symsL,(symsL.find? (·.isPrefixOf t))=some t:=by decide +kernel
theorem sym_end {t z:Sb} (ht:t ∈ symsL) (hz:∀ c r,z=c::r→symsL.any (fun y=>(t++[c]).isPrefixOf y)=false):(symsL.find? (·.isPrefixOf (t++z)))=some t:=by
  rw [←sym_self t ht];cases hx:z with
  | nil=>rw [List.append_nil]
  | cons c r =>
    have h2:=hz c r hx;rw [List.any_eq_false] at h2
    have key:∀ l:List Sb,(∀ y ∈ l,y ∈ symsL)→l.find? (·.isPrefixOf (t++c::r))=l.find? (·.isPrefixOf t):=by
      intro l
      induction l with
      | nil=>intro _;rfl
      | cons y l ih =>
        intro hl;have h3:y.isPrefixOf (t++c::r)=y.isPrefixOf t:=pre_ext y t (Bool.eq_false_iff.2 (h2 y (hl y List.mem_cons_self)));rw [List.find?_cons,List.find?_cons,h3,ih fun y hy=>hl y (List.mem_cons_of_mem _ hy)]
    exact key symsL fun _ h=>h
theorem sym_head:∀ t ∈ symsL,∃ c r,t=c::r∧initB c=false∧digB c=false∧¬ (c=39∨c=34)∧c≠10∧¬ (c=32∨c=9∨c=13)∧(c=45→r=[]):=by
  have h:∀ t ∈ symsL,(match t with|[]=>false|c::r => !initB c && !digB c && !(c==39 || c==34) && !(c==10) && !(c==32 || c==9 || c==13) && (!(c==45) || r.isEmpty))=true:=by decide +kernel
  intro t ht;have h2:=h t ht;cases t with
  | nil=>cases h2
  | cons c r =>
    simp only [Bool.and_eq_true,Bool.not_eq_true',Bool.or_eq_true,Bool.or_eq_false_iff,beq_eq_false_iff_ne,List.isEmpty_iff] at h2;obtain ⟨⟨⟨⟨⟨h1,h2⟩,h3⟩,h4⟩,h5⟩,h6⟩:=h2;refine ⟨c,r,rfl,h1,h2,fun h=>?_,h4,fun h=>?_,fun h=>?_⟩
    · rcases h with h|h
      · exact h3.1 h
      · exact h3.2 h
    · rcases h with h|h|h
      · exact h5.1.1 h
      · exact h5.1.2 h
      · exact h5.2 h
    · rcases h6 with h6|h6
      · exact absurd h h6
      · exact h6
def SrcOk (t:Tk):Prop :=
  (∃ c r,t.text.data.toList=c::r∧initB c=true∧(c::r).all wordB=true∧(c::r).length≤40∧t.kind=if kwL (c::r)=true then 2 else 1) ∨
  (t.kind=3∧NumX t.text.data.toList)∨(t.kind=4∧t.text.size≤4096)∨(t.kind=5∧t.text.data.toList ∈ symsL)
def srcL (t:Tk):Sb:=if t.kind=4 then quoteT t.text else t.text.data.toList
def bdB (t:Tk) (z:Sb):Bool:=match z with
  | []=>true
  | c::_=>if t.kind=1∨t.kind=2 then !wordB c else if t.kind=3 then !wordB c && c != 46 else if t.kind=5 then !symsL.any (fun y=>(t.text.data.toList++[c]).isPrefixOf y) && !(t.text.data.toList==[45] && c==45) else true
theorem bd_word {t:Tk} {z:Sb} (h:bdB t z=true) (hk:t.kind=1∨t.kind=2):∀ c r,z=c::r→wordB c=false:=by
  rintro c r rfl;unfold bdB at h;dsimp only at h;rw [if_pos hk] at h;simpa using h
theorem bd_num {t:Tk} {z:Sb} (h:bdB t z=true) (hk:t.kind=3):Ez z:=by
  rintro c r rfl;unfold bdB at h;dsimp only at h;rw [if_neg (by rw [hk];decide),if_pos hk] at h;simpa using h
theorem bd_sym {t:Tk} {z:Sb} (h:bdB t z=true) (hk:t.kind=5):∀ c r,z=c::r→symsL.any (fun y=>(t.text.data.toList++[c]).isPrefixOf y)=false∧¬ (t.text.data.toList=[45]∧c=45):=by
  rintro c r rfl;unfold bdB at h;dsimp only at h;rw [if_neg (by rw [hk];decide),if_neg (by rw [hk];decide),if_pos hk] at h;simp only [Bool.and_eq_true,Bool.not_eq_true',Bool.and_eq_false_iff,beq_eq_false_iff_ne] at h;refine ⟨h.1,fun h9=>?_⟩;rcases h.2 with h2|h2
  · exact h2 h9.1
  · exact h2 h9.2
theorem bd_blank {t:Tk} {c:UInt8} {z:Sb} (hc:c=32∨c=10):bdB t (c::z)=true:=by
  have hs:symsL.any (fun y=>(t.text.data.toList++[c]).isPrefixOf y)=false:=by
    rw [List.any_eq_false];intro y hy h;have h1:(t.text.data.toList++[c]) <+: y:=List.isPrefixOf_iff_prefix.1 h;have h2:c ∈ y:=h1.subset (by simp);have h3:∀ y ∈ symsL,∀ c ∈ y,c≠32∧c≠10:=by decide +kernel
    have h4:=h3 y hy c h2;rcases hc with rfl|rfl
    · exact h4.1 rfl
    · exact h4.2 rfl
  unfold bdB;simp only [hs];rcases hc with rfl|rfl <;> (split <;> try split <;> try split) <;> simp <;> decide
theorem tw_all {p:UInt8→Bool}:∀ {l:Sb},l.all p=true→l.takeWhile p=l
  | [],_=>rfl
  | c::r,h=>by
    simp only [List.all_cons,Bool.and_eq_true] at h;rw [List.takeWhile_cons,if_pos h.1,tw_all h.2]
theorem txA_self (b:ByteArray):txA b.data.toList=b:=by unfold txA;simp
theorem tok_src {t:Tk} {z:Sb} (a ln:Nat) (h:SrcOk t) (hb:bdB t z=true):tokL a ln (srcL t++z)=.ok (⟨t.kind,t.text,ln,a⟩,(srcL t).length):=by
  rcases h with ⟨c,r,h1,h2,h3,h4,h5⟩|⟨hk,hn⟩|⟨hk,hs⟩|⟨hk,hs⟩
  · have hk:t.kind=1∨t.kind=2:=by rw [h5];split <;> simp
    have hsrc:srcL t=c::r:=by unfold srcL;rw [if_neg (by rcases hk with h|h <;> rw [h] <;> decide),h1]
    have hz:=bd_word hb hk
    have hsp:spanB wordB (c::r++z)=(c::r).length:=by
      unfold spanB;rw [List.takeWhile_append];have h6:(c::r).takeWhile wordB=c::r:=tw_all h3;rw [h6,if_pos rfl];cases hx:z with
      | nil=>simp
      | cons d s=>rw [List.takeWhile_cons,hz d s hx];simp
    have htk:(c::r++z).take (c::r).length=c::r:=List.take_left;rw [hsrc];show tokL a ln (c::(r++z))=_;unfold tokL;dsimp only;rw [if_pos h2,show c::(r++z)=c::r++z from rfl,hsp,if_neg (by omega),htk];have ht:txA (c::r)=t.text:=by rw [←h1,txA_self]
    rw [ht,h5]
  · have hsrc:srcL t=t.text.data.toList:=by unfold srcL;rw [if_neg (by rw [hk];decide)]
    obtain ⟨c,r,hl,hd⟩:=hn.first;obtain ⟨u,hu,hen,h0⟩:=hn;have hz:=bd_num hb hk
    have hdig:digB c=true∧initB c=false:=by
      have:∀ c:Fin 256,isD 10 (UInt8.ofNat c.val)=true→digB (UInt8.ofNat c.val)=true∧initB (UInt8.ofNat c.val)=false:=by decide +kernel
      have h9:=this ⟨c.toNat,c.toNat_lt⟩;simpa using h9 (by simpa using hd)
    rw [hsrc];have hf:findN (t.text.data.toList++z)=some u:=by rw [findN_end hz];exact hu
    have hnn:numN (t.text.data.toList++z) u=numN t.text.data.toList u:=numN_app (findN_ok hu);rw [hl] at hf hnn hu hen h0 ⊢;show tokL a ln (c::(r++z))=_;unfold tokL;dsimp only;rw [if_neg (by rw [hdig.2];decide),if_pos hdig.1,show c::(r++z)=c::r++z from rfl,hf];dsimp only;rw [hnn,if_neg (by rw [h0];simp),hen,List.drop_left,List.take_left,if_neg ?_]
    · have ht:txA (c::r)=t.text:=by rw [←hl,txA_self]
      rw [ht,hk]
    · cases hx:z with
      | nil=>simp
      | cons d s=>simp [(hz d s hx).1]
  · have hsrc:srcL t=34::((bsOf t.text).flatMap escB++[34]):=by unfold srcL;rw [if_pos hk];rfl
    rw [hsrc];show tokL a ln (34::((bsOf t.text).flatMap escB++[34]++z))=_;unfold tokL;dsimp only;rw [if_neg (show ¬ initB 34=true by decide),if_neg (show ¬ digB 34=true by decide),if_pos (by decide)];rw [List.append_assoc,List.singleton_append,str_one z (bsOf t.text) [] _ 1 (Nat.lt_succ_self _) (by simp only [List.length_nil,bsOf,Array.length_toList];show 0+t.text.size≤4096;omega)];dsimp only;have ht:txA ([]++bsOf t.text)=t.text:=by rw [List.nil_append];exact txA_self _
    rw [ht,hk];simp;omega
  · have hsrc:srcL t=t.text.data.toList:=by unfold srcL;rw [if_neg (by rw [hk];decide)]
    obtain ⟨c,r,hl,h1,h2,h3,-⟩:=sym_head _ hs;have hf:=sym_end hs (fun c r h=>(bd_sym hb hk c r h).1);rw [hsrc];rw [hl] at hf ⊢;show tokL a ln (c::(r++z))=_;unfold tokL;dsimp only;rw [if_neg (by rw [h1];decide),if_neg (by rw [h2];decide),if_neg h3,show c::(r++z)=c::r++z from rfl,hf];dsimp only;have ht:txA (c::r)=t.text:=by rw [←hl,txA_self]
    rw [ht,hk]
theorem skip_src {t:Tk} {z:Sb} (h:SrcOk t) (hb:bdB t z=true):skipL false (srcL t++z)=(0,0):=by
  have key:∀ (c:UInt8) (r:Sb),c≠10→¬ (c=32∨c=9∨c=13)→¬ (c=45∧r.head?=some 45)→skipL false (c::r)=(0,0):=fun c r h1 h2 h3=>by rw [skipL_f,if_neg h1,if_neg h2,if_neg h3]
  rcases h with ⟨c,r,h1,h2,h3,h4,h5⟩|⟨hk,hn⟩|⟨hk,hs⟩|⟨hk,hs⟩
  · have hk:t.kind=1∨t.kind=2:=by rw [h5];split <;> simp
    have hsrc:srcL t=c::r:=by unfold srcL;rw [if_neg (by rcases hk with h|h <;> rw [h] <;> decide),h1]
    rw [hsrc];have hc:c≠10∧¬ (c=32∨c=9∨c=13)∧c≠45:=⟨by rintro rfl;exact absurd h2 (by decide),by rintro (rfl|rfl|rfl) <;> exact absurd h2 (by decide),by rintro rfl;exact absurd h2 (by decide)⟩
    exact key c _ hc.1 hc.2.1 fun h=>hc.2.2 h.1
  · have hsrc:srcL t=t.text.data.toList:=by unfold srcL;rw [if_neg (by rw [hk];decide)]
    obtain ⟨c,r,hl,hd⟩:=hn.first;rw [hsrc,hl];have hc:c≠10∧¬ (c=32∨c=9∨c=13)∧c≠45:=⟨by rintro rfl;exact absurd hd (by decide),by rintro (rfl|rfl|rfl) <;> exact absurd hd (by decide),by rintro rfl;exact absurd hd (by decide)⟩
    exact key c _ hc.1 hc.2.1 fun h=>hc.2.2 h.1
  · have hsrc:srcL t=34::((bsOf t.text).flatMap escB++[34]):=by unfold srcL;rw [if_pos hk];rfl
    rw [hsrc];exact key 34 _ (by decide) (by decide) fun h=>absurd h.1 (by decide)
  · have hsrc:srcL t=t.text.data.toList:=by unfold srcL;rw [if_neg (by rw [hk];decide)]
    obtain ⟨c,r,hl,h1,h2,h3,h4,h5,h6⟩:=sym_head _ hs;rw [hsrc];have hb2:=bd_sym hb hk;rw [hl] at hb2 ⊢;refine key c _ h4 h5 fun h=>?_;have hr:=h6 h.1;subst hr;cases hx:z with
    | nil=>rw [hx] at h;exact absurd h.2 (by simp)
    | cons d s =>
      rw [hx] at h;have h7:d=45:=by simpa using h.2
      exact (hb2 d s hx).2 ⟨by rw [h.1],h7⟩
theorem take_span {p:UInt8→Bool}:∀ l:Sb,l.take (spanB p l)=l.takeWhile p
  | []=>rfl
  | c::r=>by
    unfold spanB;rw [List.takeWhile_cons];split
    · rw [List.length_cons,List.take_succ_cons];exact congrArg (c :: ·) (take_span r)
    · rfl
theorem tw_mem {p:UInt8→Bool}:∀ l:Sb,(l.takeWhile p).all p=true
  | []=>rfl
  | c::r=>by
    rw [List.takeWhile_cons];split
    · rename_i h;rw [List.all_cons,h,tw_mem r];rfl
    · rfl
theorem tokL_src {a ln:Nat} {r:Sb} {t:Tk} {m:Nat} (h:tokL a ln r=.ok (t,m)):SrcOk t:=by
  have hx:∀ y:Sb,(txA y).data.toList=y:=fun y=>by unfold txA;rfl
  cases r with
  | nil=>cases h
  | cons c r' =>
    unfold tokL at h;simp only at h;split at h
    · rename_i hc;split at h
      · cases h
      · rename_i h40;cases h
        have e:(c::r').take (spanB wordB (c::r'))=c::r'.takeWhile wordB:=by
          rw [take_span,List.takeWhile_cons,if_pos (by unfold wordB;rw [hc];rfl)]
        refine .inl ⟨c,r'.takeWhile wordB,?_,hc,?_,?_,?_⟩
        · show (txA _).data.toList=_;rw [hx,e]
        · have:=tw_mem (p:=wordB) (c::r')
          rwa [List.takeWhile_cons,if_pos (by unfold wordB;rw [hc];rfl)] at this
        · have h9:((c::r').take (spanB wordB (c::r'))).length≤spanB wordB (c::r'):=by rw [List.length_take];omega
          rw [e] at h9;omega
        · show (if kwL _=true then (2:Int) else 1)=_;rw [e]
    · split at h
      · split at h
        · cases h
        · rename_i u hu;split at h
          · cases h
          · rename_i h0;split at h
            · cases h
            · cases h;exact .inr (.inl ⟨rfl,by show NumX (txA _).data.toList;rw [hx];exact NumX.of_find hu (Decidable.not_not.1 h0)⟩)
      · split at h
        · split at h
          · cases h
          · rename_i b k hs;cases h;refine .inr (.inr (.inl ⟨rfl,?_⟩));rcases strG_len hs with h2|h2
            · show (txA b).size≤4096;rw [txA_size];omega
            · simp at h2
        · split at h
          · cases h
          · rename_i y hy;cases h;exact .inr (.inr (.inr ⟨rfl,by show (txA y).data.toList ∈ symsL;rw [hx];exact List.mem_of_find?_eq_some hy⟩))
theorem scanX_src:∀ (n a ln:Nat) (r:Sb) (acc:List Tk),r.length≤n→(∀ t ∈ acc,SrcOk t)→∀ L,scanX a ln r acc=.ok L→∀ t ∈ L,SrcOk t:=by
  intro n
  induction n with
  | zero =>
    intro a ln r acc hn hacc L h;have:r=[]:=List.length_eq_zero_iff.1 (by omega);subst this;rw [scanX_eq] at h;simp only [List.drop_nil] at h;cases h;exact hacc
  | succ n ih =>
    intro a ln r acc hn hacc L h;rw [scanX_eq] at h;generalize (skipL false r).2=q at *;generalize (skipL false r).1=k at *;split at h
    · cases h;exact hacc
    · rename_i c r1 hd;have hl:(c::r1).length=r.length - k:=by rw [←hd,List.length_drop]
      split at h
      · cases h
      · rename_i t m ht;have hm:=tokL_len ht;have hl2:((c::r1).drop m).length=r.length - k - m:=by rw [List.length_drop,hl]
        refine ih _ _ _ _ (by omega) (fun t' ht'=>?_) L h;rcases List.mem_append.1 ht' with h|h
        · exact hacc _ h
        · rw [List.mem_singleton.1 h];exact tokL_src ht
theorem scanT_src {l:Sb} {L:List Tk} (h:scanT l=.ok L):∀ t ∈ L,SrcOk t:=by
  rw [scanT_eq] at h;split at h
  · cases h
  · exact scanX_src l.length 0 1 l [] (Nat.le_refl _) (fun t h=>by cases h) L h
def kt0 (t:Tk):Int × ByteArray:=(t.kind,t.text)
theorem scanX_b1 (c:UInt8) (hc:c=32∨c=10) (a ln:Nat) (r:Sb) (acc:List Tk):∃ ln',ln≤ln'∧scanX a ln (c::r) acc=scanX (a+1) ln' r acc:=by
  rcases hc with rfl|rfl
  · refine ⟨ln,Nat.le_refl _,?_⟩;have h:skipL false (32::r)=(1+(skipL false r).1,(skipL false r).2):=by rw [skipL_f];simp
    rw [scanX_eq a,scanX_eq (a+1),h];have h2:(32::r:Sb).drop (1+(skipL false r).1)=r.drop (skipL false r).1:=by rw [Nat.add_comm];rfl
    simp only [h2,show a+(1+(skipL false r).1)=a+1+(skipL false r).1 from by omega]
  · refine ⟨ln+1,Nat.le_succ _,?_⟩;have h:skipL false (10::r)=(1+(skipL false r).1,1+(skipL false r).2):=by rw [skipL_f];simp
    rw [scanX_eq a,scanX_eq (a+1),h];have h2:(10::r:Sb).drop (1+(skipL false r).1)=r.drop (skipL false r).1:=by rw [Nat.add_comm];rfl
    simp only [h2,show a+(1+(skipL false r).1)=a+1+(skipL false r).1 from by omega,show ln+(1+(skipL false r).2)=ln+1+(skipL false r).2 from by omega]
theorem scanX_bs:∀ (s:Sb) (hs:∀ c ∈ s,c=32∨c=10) (a ln:Nat) (r:Sb) (acc:List Tk),∃ ln',ln≤ln'∧scanX a ln (s++r) acc=scanX (a+s.length) ln' r acc
  | [],_,a,ln,r,acc=>⟨ln,Nat.le_refl _,rfl⟩
  | c::s,hs,a,ln,r,acc=>by
    obtain ⟨l1,h1,h2⟩:=scanX_b1 c (hs c List.mem_cons_self) a ln (s++r) acc;obtain ⟨l2,h3,h4⟩:=scanX_bs s (fun c hc=>hs c (List.mem_cons_of_mem _ hc)) (a+1) l1 r acc;refine ⟨l2,Nat.le_trans h1 h3,?_⟩;rw [List.cons_append,h2,h4,List.length_cons,show a+1+s.length=a+(s.length+1) from by omega]
theorem srcL_ne {t:Tk} (h:SrcOk t):∃ c r,srcL t=c::r:=by
  rcases h with ⟨c,r,h1,-,-,-,h5⟩|⟨hk,hn⟩|⟨hk,hs⟩|⟨hk,hs⟩
  · exact ⟨c,r,by unfold srcL;rw [if_neg (by rw [h5];split <;> decide),h1]⟩
  · obtain ⟨c,r,hl,-⟩:=hn.first;exact ⟨c,r,by unfold srcL;rw [if_neg (by rw [hk];decide),hl]⟩
  · exact ⟨34,_,by unfold srcL;rw [if_pos hk];rfl⟩
  · obtain ⟨c,r,hl,-⟩:=sym_head _ hs;exact ⟨c,r,by unfold srcL;rw [if_neg (by rw [hk];decide),hl]⟩
theorem scanX_tok {t:Tk} {z:Sb} (h:SrcOk t) (hb:bdB t z=true) (a ln:Nat) (acc:List Tk):scanX a ln (srcL t++z) acc=scanX (a+(srcL t).length) ln z (acc++[⟨t.kind,t.text,ln,a⟩]):=by
  obtain ⟨c,r,hl⟩:=srcL_ne h;have h1:=skip_src h hb;have h2:=tok_src a ln h hb;have h3:tokL a ln (c::(r++z))=.ok (⟨t.kind,t.text,ln,a⟩,(srcL t).length):=by rw [←h2,hl];rfl
  have h4:(srcL t++z).drop 0=c::(r++z):=by rw [hl];rfl
  have h5:(c::(r++z):Sb).drop (srcL t).length=z:=by rw [hl];exact List.drop_left
  rw [scanX_eq a,h1];simp only [h4,Nat.add_zero,h3,h5]
def wr:List (Sb × Tk)→Sb→Sb
  | [],z=>z
  | p::r,z=>p.1++(srcL p.2++wr r z)
def okW:List (Sb × Tk)→Sb→Prop
  | [],_=>True
  | p::r,z=>(∀ c ∈ p.1,c=32∨c=10)∧SrcOk p.2∧bdB p.2 (wr r z)=true∧okW r z
theorem scan_wr:∀ (l:List (Sb × Tk)) (z:Sb) (a ln:Nat) (acc:List Tk),okW l z→∃ a' ln' L,ln≤ln'∧scanX a ln (wr l z) acc=scanX a' ln' z (acc++L)∧L.map kt0=l.map (fun p=>kt0 p.2)∧∀ t ∈ L,(ln:Int)≤t.line
  | [],z,a,ln,acc,_=>⟨a,ln,[],Nat.le_refl _,by rw [List.append_nil];rfl,rfl,fun t h=>by cases h⟩
  | p::r,z,a,ln,acc,⟨h1,h2,h3,h4⟩=>by
    obtain ⟨l1,h5,h6⟩:=scanX_bs p.1 h1 a ln (srcL p.2++wr r z) acc;obtain ⟨a2,l2,L,h7,h8,h9,h10⟩:=scan_wr r z (a+p.1.length+(srcL p.2).length) l1 (acc++[⟨p.2.kind,p.2.text,l1,((a+p.1.length:Nat):Int)⟩]) h4;refine ⟨a2,l2,⟨p.2.kind,p.2.text,l1,((a+p.1.length:Nat):Int)⟩::L,Nat.le_trans h5 h7,?_,?_,?_⟩
    · show scanX a ln (p.1++(srcL p.2++wr r z)) acc=_;rw [h6,scanX_tok h2 h3,h8,List.append_assoc];rfl
    · rw [List.map_cons,List.map_cons,h9];rfl
    · intro t ht;rcases List.mem_cons.1 ht with rfl|ht
      · show (ln:Int)≤(l1:Int);omega
      · have:=h10 t ht;omega
theorem scanT_wr {l:List (Sb × Tk)} {z:Sb} (h:okW l z) (hz:∀ c ∈ z,c=32∨c=10) (hl:(wr l z).length≤65536):∃ L,scanT (wr l z)=.ok L∧L.map kt0=l.map (fun p=>kt0 p.2)∧∀ t ∈ L,1≤t.line:=by
  obtain ⟨a,ln,L,-,h1,h2,h3⟩:=scan_wr l z 0 1 [] h;obtain ⟨ln2,-,h4⟩:=scanX_bs z hz a ln [] ([]++L);refine ⟨L,?_,h2,h3⟩;rw [scanT_eq,if_neg (by omega),h1];rw [List.append_nil] at h4;rw [h4,scanX_eq];rfl
def joinT:List Tk→Sb
  | []=>[]
  | t::r=>srcL t++(r.flatMap fun u=>32::srcL u)
def jW (l:List Tk):List (Sb × Tk):=l.map fun u=>([32],u)
theorem wr_jW:∀ l:List Tk,wr (jW l) []=l.flatMap fun u=>32::srcL u
  | []=>rfl
  | u::r=>by
    show [32]++(srcL u++wr (jW r) [])=_;rw [wr_jW r,List.flatMap_cons];rfl
theorem okW_jW:∀ l:List Tk,(∀ t ∈ l,SrcOk t)→okW (jW l) []
  | [],_=>trivial
  | u::r,h=>by
    refine ⟨fun c hc=>.inl (by simpa using hc),h u List.mem_cons_self,?_,okW_jW r fun t ht=>h t (List.mem_cons_of_mem _ ht)⟩;show bdB u (wr (jW r) [])=true;cases r with
    | nil=>rfl
    | cons v r=>exact bd_blank (.inl rfl)
theorem join_scan {l:List Tk} (h:∀ t ∈ l,SrcOk t) (hl:(joinT l).length≤65536):∃ L,scanT (joinT l)=.ok L∧L.map kt0=l.map kt0∧∀ t ∈ L,1≤t.line:=by
  cases l with
  | nil=>exact ⟨[],rfl,rfl,fun t h=>by cases h⟩
  | cons t r =>
    have e:joinT (t::r)=wr (([],t)::jW r) []:=by
      show srcL t++_=[]++(srcL t++wr (jW r) [])
      rw [wr_jW];rfl
    have hok:okW (([],t)::jW r) []:=by
      refine ⟨fun c hc=>(by cases hc),h t List.mem_cons_self,?_,okW_jW r fun u hu=>h u (List.mem_cons_of_mem _ hu)⟩;cases r with
      | nil=>rfl
      | cons v r=>exact bd_blank (.inl rfl)
    rw [e] at hl ⊢;obtain ⟨L,h1,h2,h3⟩:=scanT_wr hok (fun c hc=>(by cases hc)) hl;refine ⟨L,h1,?_,h3⟩;rw [h2];show kt0 t::(jW r).map (fun p=>kt0 p.2)=kt0 t::r.map kt0;unfold jW;rw [List.map_map];rfl
theorem srcL_len {t:Tk}:(srcL t).length≤2+4*t.text.size:=by
  unfold srcL;split
  · have h1:∀ c:Fin 256,(escB (UInt8.ofNat c.val)).length≤4:=by decide +kernel
    have h2:∀ l:Sb,(l.flatMap escB).length≤4*l.length:=by
      intro l
      induction l with
      | nil=>exact Nat.le_refl _
      | cons c r ih =>
        have h3:=h1 ⟨c.toNat,c.toNat_lt⟩;simp only [UInt8.ofNat_toNat] at h3;rw [List.flatMap_cons,List.length_append,List.length_cons];omega
    have h4:=h2 (bsOf t.text);have h5:(bsOf t.text).length=t.text.size:=by unfold bsOf;rw [Array.length_toList];rfl
    unfold quoteT;simp only [List.length_cons,List.length_append,List.length_nil];omega
  · rw [Array.length_toList];show t.text.size≤_;omega
def sg0 (n:Int):Int:=if n<0 then n else 0
def f0 (t:Tk):Tk:=⟨t.kind,t.text,sg0 t.line,0⟩
theorem nt_f0:Nt f0 sg0:=⟨fun _=>rfl,fun _=>rfl,fun _=>rfl,rfl⟩
theorem f0_same:∀ {l L:List Tk},L.map kt0=l.map kt0→(∀ t ∈ l,0≤t.line)→(∀ t ∈ L,0≤t.line)→L.map f0=l.map f0
  | [],[],_,_,_=>rfl
  | [],_::_,h,_,_=>by cases h
  | _::_,[],h,_,_=>by cases h
  | t::l,u::L,h,h1,h2=>by
    simp only [List.map_cons,List.cons.injEq] at h;obtain ⟨h3,h4⟩:=h;have h5:=h1 t List.mem_cons_self;have h6:=h2 u List.mem_cons_self;unfold kt0 at h3;simp only [Prod.mk.injEq] at h3;rw [List.map_cons,List.map_cons,f0_same h4 (fun t ht=>h1 t (List.mem_cons_of_mem _ ht)) (fun t ht=>h2 t (List.mem_cons_of_mem _ ht))];unfold f0 sg0;rw [if_neg (by omega),if_neg (by omega),h3.1,h3.2]
theorem sg0_sign (n:Int):sg0 n<0↔n<0:=by unfold sg0;split <;> omega
def jw (l:List Tk):Nat:=(l.map fun t=>3+4*t.text.size).sum
theorem jw_app (a b:List Tk):jw (a++b)=jw a+jw b:=by unfold jw;simp
theorem scan_jw:∀ (n a ln:Nat) (r:Sb) (acc L:List Tk),r.length≤n→scanX a ln r acc=.ok L→jw L≤jw acc+7*r.length:=by
  intro n
  induction n with
  | zero =>
    intro a ln r acc L hn h;have:r=[]:=List.length_eq_zero_iff.1 (by omega);subst this;rw [scanX_eq] at h;simp only [List.drop_nil] at h;cases h;exact Nat.le_add_right _ _
  | succ n ih =>
    intro a ln r acc L hn h;rw [scanX_eq] at h;generalize (skipL false r).2=q at *;generalize (skipL false r).1=k at *;split at h
    · cases h;exact Nat.le_add_right _ _
    · rename_i c r1 hd;have hl:(c::r1).length=r.length - k:=by rw [←hd,List.length_drop]
      split at h
      · cases h
      · rename_i t m ht;have hm:=tokL_len ht;have hx:=tokL_tx ht;have hl2:((c::r1).drop m).length=r.length - k - m:=by rw [List.length_drop,hl]
        have h9:=ih _ _ _ _ L (by omega) h;rw [jw_app] at h9;have h8:jw [t]=3+4*t.text.size:=by unfold jw;simp
        omega
theorem joinT_len (l:List Tk):(joinT l).length≤jw l:=by
  have h:∀ r:List Tk,(r.flatMap fun u=>32::srcL u).length≤jw r:=by
    intro r
    induction r with
    | nil=>exact Nat.le_refl _
    | cons u r ih =>
      have h1:=srcL_len (t:=u);have h2:jw (u::r)=3+4*u.text.size+jw r:=by unfold jw;simp
      rw [List.flatMap_cons,List.length_append,List.length_cons];omega
  cases l with
  | nil=>exact Nat.zero_le _
  | cons t r =>
    have h1:=srcL_len (t:=t);have h2:jw (t::r)=3+4*t.text.size+jw r:=by unfold jw;simp
    have h3:=h r;show (srcL t++_).length≤_;rw [List.length_append];omega
theorem chunk_same {cv:List St→Int} (hcv:∀ b,cv (St.mls sg0 b)=cv b) {s z:Sb} {L M:List Tk} (h1:scanT s=.ok L) (h2:scanT z=.ok M) (hf:M.map f0=L.map f0) :
    (∃ b c,chunkV cv s=.ok b∧chunkV cv z=.ok c∧St.mls sg0 b=St.mls sg0 c)∨∃ n m x:Int,chunkV cv s=.error (n,x)∧chunkV cv z=.error (m,x):=by
  have hE:((EB 70000).2 M).lift (St.mls sg0) f0=((EB 70000).2 L).lift (St.mls sg0) f0:=by rw [←(nt_f0.EB 70000).2 M,←(nt_f0.EB 70000).2 L,hf]
  unfold chunkV pblkW;rw [parseW_ok h1,parseW_ok h2];rcases hl:(EB 70000).2 L with ⟨b,r⟩|r <;> rcases hm:(EB 70000).2 M with ⟨c,q⟩|q
  · rw [hl,hm] at hE;simp only [Res.lift,Res.ok.injEq] at hE;obtain ⟨e1,e2⟩:=hE;cases r with
    | nil =>
      have hq:q=[]:=by cases q with|nil=>rfl|cons u r=>simp at e2
      subst hq;have h9:cv c=cv b:=by rw [←hcv c,e1,hcv b]
      show (∃ b' c',(if cv b=0 then Except.ok b else .error (0,cv b))=.ok b'∧(if cv c=0 then Except.ok c else .error (0,cv c))=.ok c'∧_)∨∃ n m x:Int,(if cv b=0 then Except.ok b else .error (0,cv b))=.error (n,x)∧(if cv c=0 then Except.ok c else .error (0,cv c))=.error (m,x);rw [h9];by_cases h0:cv b=0
      · rw [if_pos h0,if_pos h0];exact .inl ⟨b,c,rfl,rfl,e1.symm⟩
      · rw [if_neg h0,if_neg h0];exact .inr ⟨_,_,_,rfl,rfl⟩
    | cons t r =>
      cases q with
      | nil=>simp at e2
      | cons u q=>exact .inr ⟨_,_,4,rfl,rfl⟩
  · rw [hl,hm] at hE;cases hE
  · rw [hl,hm] at hE;cases hE
  · exact .inr ⟨_,_,4,rfl,rfl⟩
theorem tokens_law {cv:List St→Int} (hcv:∀ b,cv (St.mls sg0 b)=cv b) {s:Sb} (hs:s.length≤3000) {L:List Tk} (h:scanT s=.ok L):(joinT L).length≤65536 ∧
    ((∃ b c,chunkV cv s=.ok b∧chunkV cv (joinT L)=.ok c∧St.mls sg0 b=St.mls sg0 c)∨∃ n m x:Int,chunkV cv s=.error (n,x)∧chunkV cv (joinT L)=.error (m,x)):=by
  have h1:=h;rw [scanT_eq,if_neg (by omega)] at h1;have h2:=scan_jw s.length 0 1 s [] L (Nat.le_refl _) h1;have h3:=joinT_len L
  have hl:(joinT L).length≤65536:=by
    have:jw []=0:=rfl;omega
  refine ⟨hl,?_⟩;obtain ⟨M,h4,h5,h6⟩:=join_scan (scanT_src h) hl;exact chunk_same hcv h h4 (f0_same h5 (fun t ht=>by have:=((scanT_ok h).1 t ht).lo;omega) (fun t ht=>by have:=h6 t ht;omega))
theorem size_same {b c:List St} (h:St.mls sg0 b=St.mls sg0 c):nSs b=nSs c:=by rw [nSs_m,nSs_m,←ml_mSs (g:=sg0) b,h,ml_mSs]
theorem depth_same {b c:List St} (h:St.mls sg0 b=St.mls sg0 c):dSs b=dSs c:=by rw [←ml_dSs (g:=sg0) b,h,ml_dSs]
theorem sg0_check (b:List St):checkV (St.mls sg0 b)=checkV b:=ml_check (fun n=>sg0_sign n) b
theorem tokens_check {s:Sb} (hs:s.length≤3000) {L:List Tk} (h:scanT s=.ok L):(joinT L).length≤65536 ∧
    ((∃ b c,chunkV checkV s=.ok b∧chunkV checkV (joinT L)=.ok c∧nSs b=nSs c∧dSs b=dSs c)∨∃ n m x:Int,chunkV checkV s=.error (n,x)∧chunkV checkV (joinT L)=.error (m,x)):=by
  obtain ⟨h1,h2⟩:=tokens_law sg0_check hs h;refine ⟨h1,?_⟩;rcases h2 with ⟨b,c,h3,h4,h5⟩|h2
  · exact .inl ⟨b,c,h3,h4,size_same h5,depth_same h5⟩
  · exact .inr h2
end Go.Proofs.YtdekaghipjpgpaaGreatDoor
