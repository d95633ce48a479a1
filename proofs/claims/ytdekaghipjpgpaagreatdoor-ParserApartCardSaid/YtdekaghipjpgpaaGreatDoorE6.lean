/- Pure laws of the scanner: a text before a blank or a line feed is read the same. -/
import Derived.Test.YtdekaghipjpgpaaGreatDoorE3
import Derived.Test.YtdekaghipjpgpaaGreatDoorE1
namespace Go.Proofs.YtdekaghipjpgpaaGreatDoor
open Go.RowKit
set_option linter.unusedVariables false
set_option linter.unusedSimpArgs false
def Sepz (z:Sb):Prop:=∃ c r,z=c::r∧(c=10∨c=32)
section
variable {z:Sb} (hz:Sepz z)
include hz
theorem tw_app {p:UInt8→Bool} (h1:p 10=false) (h2:p 32=false):∀ r:Sb,(r++z).takeWhile p=r.takeWhile p
  | []=>by obtain ⟨c,r,rfl,rfl|rfl⟩:=hz <;> simp [h1,h2]
  | c::r=>by
    have:=tw_app h1 h2 r;simp only [List.cons_append,List.takeWhile_cons,this]
theorem spanB_app {p:UInt8→Bool} (h1:p 10=false) (h2:p 32=false) (r:Sb):spanB p (r++z)=spanB p r:=by unfold spanB;rw [tw_app hz h1 h2]
theorem runN_app {b:Int} (hb:b≤36) (r:Sb):runN b (r++z)=runN b r:=by
  unfold runN;have h1:isD b 10=false:=by unfold isD;simp [show digN 10 = -1 by decide]
  have h2:isD b 32=false:=by unfold isD;simp [show digN 32 = -1 by decide]
  rw [tw_app hz h1 h2]
theorem get_app {r:Sb} {i:Nat} {c:UInt8} (hi:i≤r.length) (hc:c≠10∧c≠32):(r++z)[i]?=some c↔r[i]?=some c:=by
  rcases Nat.lt_or_ge i r.length with h|h
  · rw [List.getElem?_append_left h]
  · have:i=r.length:=by omega
    subst this;rw [List.getElem?_append_right (Nat.le_refl _),Nat.sub_self,List.getElem?_eq_none (Nat.le_refl _)];obtain ⟨d,s,rfl,hd⟩:=hz;simp only [List.getElem?_cons_zero,Option.some.injEq];constructor
    · rintro rfl;rcases hd with h|h
      · exact absurd h hc.1
      · exact absurd h hc.2
    · intro h;cases h
omit hz in
theorem drop_app {r:Sb} {k:Nat} (h:k≤r.length):(r++z).drop k=r.drop k++z:=by rw [List.drop_append_of_le_length h]
omit hz in
theorem take_app {r:Sb} {k:Nat} (h:k≤r.length):(r++z).take k=r.take k:=List.take_append_of_le_length h
theorem findN_app (r:Sb):findN (r++z)=findN r:=by
  have hle:=runN_le 10 r;rw [findN_eq,findN_eq,runN_app hz (by decide)];by_cases h0:runN 10 r=0
  · rw [if_pos h0,if_pos h0]
  rw [if_neg h0,if_neg h0];by_cases h1:runN 10 r=1∧r[0]?=some 48∧(r[1]?=some 120∨r[1]?=some 88)
  · obtain ⟨e1,z0,x1⟩:=h1
    have hl:2≤r.length:=by
      rcases x1 with x1|x1 <;> (have:=(List.getElem?_eq_some_iff.1 x1).1;omega)
    have x2:(r++z)[1]?=some 120∨(r++z)[1]?=some 88:=by rw [get_app hz (by omega) (by decide),get_app hz (by omega) (by decide)];exact x1
    have z2:(r++z)[0]?=some 48:=(get_app hz (by omega) (by decide)).2 z0;have d2:runN 16 ((r++z).drop 2)=runN 16 (r.drop 2):=by rw [drop_app hl,runN_app hz (by decide)]
    simp only [e1,z0,x1,x2,z2,d2,true_and];by_cases h3:0<runN 16 (r.drop 2)
    · rw [if_pos h3,if_pos h3]
    · rw [if_neg h3,if_neg h3];have p1:¬ r[1]?=some 46:=by rcases x1 with x1|x1 <;> (rw [x1];decide)
      have p2:¬ (r++z)[1]?=some 46:=by rw [get_app hz (by omega) (by decide)];exact p1
      simp only [p1,p2,false_and,if_false]
  · have h2:¬ (runN 10 r=1∧(r++z)[0]?=some 48∧((r++z)[1]?=some 120∨(r++z)[1]?=some 88)):=by
      rintro ⟨a,b,c⟩;rw [get_app hz (by omega) (by decide)] at b;rw [get_app hz (by omega) (by decide),get_app hz (by omega) (by decide)] at c;exact h1 ⟨a,b,c⟩
    have n2:¬ (runN 10 r=1∧(r++z)[0]?=some 48∧((r++z)[1]?=some 120∨(r++z)[1]?=some 88)∧0<runN 16 ((r++z).drop 2)):=fun h=>h2 ⟨h.1,h.2.1,h.2.2.1⟩;have n1:¬ (runN 10 r=1∧r[0]?=some 48∧(r[1]?=some 120∨r[1]?=some 88)∧0<runN 16 (r.drop 2)):=fun h=>h1 ⟨h.1,h.2.1,h.2.2.1⟩;rw [if_neg n2,if_neg n1];by_cases p1:r[runN 10 r]?=some 46
    · have p2:=(get_app hz hle (by decide)).2 p1;have hl:runN 10 r+1≤r.length:=by have:=(List.getElem?_eq_some_iff.1 p1).1;omega
      rw [drop_app hl,runN_app hz (by decide)];simp only [p1,p2,true_and]
    · have p2:¬ (r++z)[runN 10 r]?=some 46:=by rw [get_app hz hle (by decide)];exact p1
      simp only [p1,p2,false_and,if_false]
omit hz in
theorem numN_app {r:Sb} {u:Nu} (h:NuOk r u):numN (r++z) u=numN r u:=by
  have h1:=take_app (z:=z) h.en;unfold numN;rw [h1];by_cases h0:u.pt=0
  · rw [if_pos h0,if_pos h0]
  · have h3:=(h.point h0).2.2.1;have h2:=take_app (z:=z) (r:=r) (k:=u.pt) (by have:=h.en;omega);rw [if_neg h0,if_neg h0,h2]
theorem escL_app (r:Sb):escL (r++z)=escL r:=by
  cases r with
  | nil=>obtain ⟨c,r,rfl,rfl|rfl⟩:=hz <;> simp [escL,digB] <;> decide
  | cons c r =>
    have h1:=spanB_app hz (p:=hexB) (by decide) (by decide) r;have h2:=spanB_app hz (p:=digB) (by decide) (by decide) (c::r);have h3:=spanB_le hexB r;have h4:=spanB_le digB (c::r);rw [List.cons_append] at h2 ⊢;simp only [escL,h1,h2];by_cases hx:spanB hexB r<2
    · have h5:((c::r)++z).take (min (spanB digB (c::r)) 3)=(c::r).take (min (spanB digB (c::r)) 3):=take_app (by omega);rw [List.cons_append] at h5;rw [h5,if_pos hx,if_pos hx]
    · have h5:((c::r)++z).take (min (spanB digB (c::r)) 3)=(c::r).take (min (spanB digB (c::r)) 3):=take_app (by omega);have h6:(r++z).take 2=r.take 2:=take_app (by omega);rw [List.cons_append] at h5;rw [h5,h6]
omit hz in
theorem strG_nl {q:UInt8} (hq:q≠10):∀ {n m:Nat} {r b:Sb} {k:Nat},r.length<n→r.length<m→strG q n (r++10::z) b k=strG q m r b k:=by
  intro n
  induction n with
  | zero=>intro m r b k h;omega
  | succ n ih =>
    intro m r b k hn hm;cases m with
    | zero=>omega
    | succ m =>
      have hs:Sepz (10::z):=⟨10,z,rfl,.inl rfl⟩
      cases r with
      | nil=>simp [strG]
      | cons c r =>
        simp only [List.length_cons] at hn hm;rw [List.cons_append];simp only [strG,escL_app hs];by_cases h1:c=10
        · rw [if_pos h1,if_pos h1]
        rw [if_neg h1,if_neg h1];by_cases h2:c=q
        · rw [if_pos h2,if_pos h2]
        rw [if_neg h2,if_neg h2];by_cases h3:c=92
        · rw [if_pos h3,if_pos h3];split
          · rfl
          · rename_i d m' he;have hl:=escL_len he;split
            · rfl
            · have h4:(c::(r++10::z)).drop m'=(c::r).drop m'++10::z:=by rw [←List.cons_append];exact drop_app (by simp only [List.length_cons];omega)
              rw [h4];exact ih (by rw [List.length_drop];simp only [List.length_cons];omega) (by rw [List.length_drop];simp only [List.length_cons];omega)
        · rw [if_neg h3,if_neg h3];split
          · rfl
          · exact ih (by omega) (by omega)
omit hz in
theorem strG_out {q:UInt8}:∀ {n:Nat} {y b:Sb} {k:Nat},(∀ c ∈ y,c≠10∧c≠q∧c≠92)→b.length+y.length≤4096→strG q n y b k=.error 4:=by
  intro n
  induction n with
  | zero=>intro y b k h hl;rfl
  | succ n ih =>
    intro y b k h hl;cases y with
    | nil=>simp [strG]
    | cons c y =>
      obtain ⟨h1,h2,h3⟩:=h c List.mem_cons_self;simp only [List.length_cons] at hl;simp only [strG,if_neg h1,if_neg h2,if_neg h3];rw [if_neg (by omega)];exact ih (fun d hd=>h d (List.mem_cons_of_mem _ hd)) (by simp only [List.length_append,List.length_singleton];omega)
theorem strG_bl {q:UInt8} (hq:∀ c ∈ z,c≠10∧c≠q∧c≠92):∀ {n m:Nat} {r b:Sb} {k:Nat},r.length<n→r.length<m→b.length+r.length+z.length≤4096→strG q n (r++z) b k=strG q m r b k:=by
  intro n
  induction n with
  | zero=>intro m r b k h;omega
  | succ n ih =>
    intro m r b k hn hm hl;cases m with
    | zero=>omega
    | succ m =>
      cases r with
      | nil =>
        rw [List.nil_append,strG_out hq (by simpa using hl)];simp [strG]
      | cons c r =>
        simp only [List.length_cons] at hn hm hl;rw [List.cons_append];simp only [strG,escL_app hz];by_cases h1:c=10
        · rw [if_pos h1,if_pos h1]
        rw [if_neg h1,if_neg h1];by_cases h2:c=q
        · rw [if_pos h2,if_pos h2]
        rw [if_neg h2,if_neg h2];by_cases h3:c=92
        · rw [if_pos h3,if_pos h3];split
          · rfl
          · rename_i d m' he;have hl2:=escL_len he;split
            · rfl
            · have h4:(c::(r++z)).drop m'=(c::r).drop m'++z:=by rw [←List.cons_append];exact drop_app (by simp only [List.length_cons];omega)
              rw [h4];exact ih (by rw [List.length_drop];simp only [List.length_cons];omega) (by rw [List.length_drop];simp only [List.length_cons];omega) (by rw [List.length_drop];simp only [List.length_append,List.length_cons,List.length_nil];omega)
        · rw [if_neg h3,if_neg h3];split
          · rfl
          · exact ih (by omega) (by omega) (by simp only [List.length_append,List.length_singleton];omega)
theorem pre_app {y:Sb} (hy:∀ c ∈ y,c≠10∧c≠32):∀ r:Sb,y.isPrefixOf (r++z)=y.isPrefixOf r:=by
  induction y with
  | nil=>intro r;simp
  | cons d y ih =>
    intro r;cases r with
    | nil =>
      obtain ⟨c,s,rfl,hc⟩:=hz;have:=hy d List.mem_cons_self
      have hne:(d==c)=false:=by
        rw [beq_eq_false_iff_ne];rintro rfl;rcases hc with h|h
        · exact this.1 h
        · exact this.2 h
      simp [List.isPrefixOf,hne]
    | cons e r =>
      simp only [List.cons_append,List.isPrefixOf,ih (fun c hc=>hy c (List.mem_cons_of_mem _ hc)) r]
theorem sym_app (r:Sb):(symsL.find? (·.isPrefixOf (r++z)))=symsL.find? (·.isPrefixOf r):=by
  have hs:∀ y ∈ symsL,∀ c ∈ y,c≠10∧c≠32:=by decide
  have:∀ l:List Sb,(∀ y ∈ l,∀ c ∈ y,c≠10∧c≠32)→(l.find? (·.isPrefixOf (r++z)))=l.find? (·.isPrefixOf r):=by
    intro l
    induction l with
    | nil=>intro _;rfl
    | cons y l ih =>
      intro h;simp only [List.find?_cons,pre_app hz (h y List.mem_cons_self) r,ih (fun y hy=>h y (List.mem_cons_of_mem _ hy))]
  exact this _ hs
theorem tokL_app {a ln:Nat} {r:Sb} (hr:r≠[]) (hs:∀ q c r',(q=39∨q=34)→r=c::r'→strG q (r'.length+z.length+1) (r'++z) [] 1=strG q (r'.length+1) r' [] 1):tokL a ln (r++z)=tokL a ln r:=by
  cases r with
  | nil=>exact absurd rfl hr
  | cons c r' =>
    have h1:spanB wordB (c::(r'++z))=spanB wordB (c::r'):=by rw [←List.cons_append];exact spanB_app hz (by decide) (by decide) _
    have h2:findN (c::(r'++z))=findN (c::r'):=by rw [←List.cons_append];exact findN_app hz _
    have h3:=spanB_le wordB (c::r');have h4:(c::(r'++z)).take (spanB wordB (c::r'))=(c::r').take (spanB wordB (c::r')):=by rw [←List.cons_append];exact take_app h3
    have h5:(symsL.find? (·.isPrefixOf (c::(r'++z))))=symsL.find? (·.isPrefixOf (c::r')):=by rw [←List.cons_append];exact sym_app hz _
    rw [List.cons_append];simp only [tokL,h1,h2,h4,h5];by_cases hi:initB c=true
    · rw [if_pos hi,if_pos hi]
    rw [if_neg hi,if_neg hi];by_cases hd:digB c=true
    · rw [if_pos hd,if_pos hd];split
      · rfl
      · rename_i u hu;have ho:=findN_ok hu;have h6:numN (c::(r'++z)) u=numN (c::r') u:=by rw [←List.cons_append];exact numN_app ho
        have h7:(c::(r'++z)).take u.en=(c::r').take u.en:=by rw [←List.cons_append];exact take_app ho.en
        have h8:(((c::(r'++z)).drop u.en).head?.map wordB).getD false=(((c::r').drop u.en).head?.map wordB).getD false:=by
          rw [←List.cons_append,drop_app ho.en];cases (c::r').drop u.en with
          | nil=>obtain ⟨d,s,rfl,rfl|rfl⟩:=hz <;> rfl
          | cons d s=>rfl
        rw [h6,h7,h8]
    rw [if_neg hd,if_neg hd];by_cases hq:c=39∨c=34
    · rw [if_pos hq,if_pos hq,List.length_append,hs c c r' hq rfl]
    · rw [if_neg hq,if_neg hq]
theorem skipL_app:∀ (b:Bool) (r:Sb),(skipL b r).1<r.length→skipL b (r++z)=skipL b r
  | _,[],h=>by simp [skipL] at h
  | true,c::r,h=>by
    rw [List.cons_append];unfold skipL at h ⊢;split <;> rename_i hc
    · rw [if_pos hc] at h;simp only [List.length_cons] at h;rw [skipL_app false r (by omega)]
    · rw [if_neg hc] at h;simp only [List.length_cons] at h;rw [skipL_app true r (by omega)]
  | false,c::r,h=>by
    rw [List.cons_append];unfold skipL at h ⊢;split <;> rename_i hc
    · rw [if_pos hc] at h;simp only [List.length_cons] at h;rw [skipL_app false r (by omega)]
    rw [if_neg hc] at h;split <;> rename_i hc2
    · rw [if_pos hc2] at h;simp only [List.length_cons] at h;rw [skipL_app false r (by omega)]
    rw [if_neg hc2] at h
    have hh:(c=45∧(r++z).head?=some 45)↔(c=45∧r.head?=some 45):=by
      cases r with
      | nil=>obtain ⟨d,s,rfl,rfl|rfl⟩:=hz <;> simp
      | cons d s=>simp
    by_cases hc3:c=45∧r.head?=some 45
    · rw [if_pos (hh.2 hc3),if_pos hc3];rw [if_pos hc3] at h;simp only [List.length_cons] at h;rw [skipL_app true r (by omega)]
    · rw [if_neg (fun h9=>hc3 (hh.1 h9)),if_neg hc3]
end
theorem skipL_t (c:UInt8) (r:Sb):skipL true (c::r)=if c=10 then (1+(skipL false r).1,1+(skipL false r).2) else (1+(skipL true r).1,(skipL true r).2):=rfl
theorem skipL_f (c:UInt8) (r:Sb):skipL false (c::r)=if c=10 then (1+(skipL false r).1,1+(skipL false r).2) else if c=32∨c=9∨c=13 then (1+(skipL false r).1,(skipL false r).2)
    else if c=45∧r.head?=some 45 then (1+(skipL true r).1,(skipL true r).2) else (0,0):=rfl
theorem skipL_all {z:Sb} (hz:Sepz z):∀ (b:Bool) (r:Sb),(skipL b r).1=r.length→∃ b',skipL b (r++z)=(r.length+(skipL b' z).1,(skipL b r).2+(skipL b' z).2)
  | b,[],h=>⟨b,by simp [skipL]⟩
  | true,c::r,h=>by
    rw [List.cons_append];simp only [skipL_t] at h ⊢;split <;> rename_i hc
    · rw [if_pos hc] at h;simp only [List.length_cons] at h ⊢;obtain ⟨b',h2⟩:=skipL_all hz false r (by omega);exact ⟨b',by rw [h2];exact Prod.ext (by simp only;omega) (by simp only;try omega)⟩
    · rw [if_neg hc] at h;simp only [List.length_cons] at h ⊢;obtain ⟨b',h2⟩:=skipL_all hz true r (by omega);exact ⟨b',by rw [h2];exact Prod.ext (by simp only;omega) (by simp only;try omega)⟩
  | false,c::r,h=>by
    rw [List.cons_append];simp only [skipL_f] at h ⊢;split <;> rename_i hc
    · rw [if_pos hc] at h;simp only [List.length_cons] at h ⊢;obtain ⟨b',h2⟩:=skipL_all hz false r (by omega);exact ⟨b',by rw [h2];exact Prod.ext (by simp only;omega) (by simp only;try omega)⟩
    rw [if_neg hc] at h;split <;> rename_i hc2
    · rw [if_pos hc2] at h;simp only [List.length_cons] at h ⊢;obtain ⟨b',h2⟩:=skipL_all hz false r (by omega);exact ⟨b',by rw [h2];exact Prod.ext (by simp only;omega) (by simp only;try omega)⟩
    rw [if_neg hc2] at h;by_cases hc3:c=45∧r.head?=some 45
    · rw [if_pos hc3] at h;simp only [List.length_cons] at h ⊢
      have h4:(r++z).head?=some 45:=by cases r with
        | nil=>cases hc3.2
        | cons d s=>exact hc3.2
      rw [if_pos ⟨hc3.1,h4⟩,if_pos hc3];obtain ⟨b',h2⟩:=skipL_all hz true r (by omega);exact ⟨b',by rw [h2];exact Prod.ext (by simp only;omega) (by simp only;try omega)⟩
    · rw [if_neg hc3] at h;simp at h
theorem nl_none {l:Sb} (h:∀ c ∈ l,c≠10):nlC l=0:=by
  unfold nlC;rw [List.count_eq_zero];intro h9;exact h 10 h9 rfl
theorem nl_span {p:UInt8→Bool} (hp:p 10=false) {l:Sb} {n:Nat} (h:n≤spanB p l):nlC (l.take n)=0:=by
  have h1:l.take (spanB p l)=l.takeWhile p:=(List.prefix_iff_eq_take.1 (List.takeWhile_prefix _)).symm;refine nl_none fun c hc=>?_
  have h2:c ∈ l.takeWhile p:=by
    rw [←h1];have:l.take n=(l.take (spanB p l)).take n:=by rw [List.take_take];congr 1;omega
    rw [this] at hc;exact List.mem_of_mem_take hc
  have h3:=List.all_eq_true.1 (List.all_takeWhile (p:=p) (l:=l)) c h2;rintro rfl;rw [hp] at h3;cases h3
theorem isD_nl {b:Int}:isD b 10=false:=by unfold isD;simp [show digN 10 = -1 by decide]
theorem nlC_take (l:Sb) (a b:Nat):nlC (l.take (a+b))=nlC (l.take a)+nlC ((l.drop a).take b):=by
  have:=nlC_split (l.take (a+b)) a;rw [List.take_take,Nat.min_eq_left (by omega),drop_take_add] at this;exact this.symm
theorem nlC_one {l:Sb} {c:UInt8} {i:Nat} (h:l[i]?=some c) (hc:c≠10):nlC ((l.drop i).take 1)=0:=by
  obtain ⟨hi,rfl⟩:=List.getElem?_eq_some_iff.1 h;rw [List.drop_eq_getElem_cons hi,List.take_succ_cons,List.take_zero];refine nl_none fun d hd=>?_;rw [List.mem_singleton.1 hd];exact hc
theorem runN_nl (b:Int) (l:Sb) {n:Nat} (h:n≤runN b l):nlC (l.take n)=0:=nl_span (p:=isD b) isD_nl h
theorem findN_nl {l:Sb} {u:Nu} (h:findN l=some u):nlC (l.take u.en)=0:=by
  rw [findN_eq] at h;split at h
  · cases h
  · split at h
    · rename_i h1;obtain ⟨e1,z0,x1,r1⟩:=h1;cases h;simp only;have x2:nlC ((l.drop 1).take 1)=0:=by rcases x1 with x1|x1 <;> exact nlC_one x1 (by decide)
      rw [nlC_take,show (2:Nat)=1+1 from rfl,nlC_take l 1 1,x2,runN_nl 10 l (by omega),runN_nl 16 (l.drop (1+1)) (Nat.le_refl _)]
    · split at h
      · rename_i h2;obtain ⟨p0,s0⟩:=h2;cases h;simp only;rw [nlC_take,nlC_take,nlC_one p0 (by decide),runN_nl 10 l (Nat.le_refl _),runN_nl 10 _ (Nat.le_refl _)]
      · cases h;exact runN_nl 10 l (Nat.le_refl _)
theorem nlC_cons {c:UInt8} {l:Sb} (h:c≠10):nlC (c::l)=nlC l:=by unfold nlC;rw [List.count_cons_of_ne h]
theorem escL_nl {r:Sb} {d:UInt8} {m:Nat} (h:escL r=.ok (d,m)):nlC (r.take (m - 1))=0:=by
  cases r with
  | nil=>cases h
  | cons c r =>
    have hk:c≠10→nlC ((c::r).take 1)=0:=fun hc=>nl_none (by simp [hc]);rw [escL] at h;split at h
    · rename_i hc;cases h;exact hk (by rw [hc];decide)
    · split at h
      · rename_i hc;cases h;exact hk (by rw [hc];decide)
      · split at h
        · rename_i hc;cases h;exact hk (by rcases hc with hc|hc|hc <;> (rw [hc];decide))
        · split at h
          · rename_i hc;split at h
            · cases h
            · rename_i h2;cases h;show nlC (c::r.take 2)=0;rw [nlC_cons (by rw [hc];decide)];exact nl_span (p:=hexB) (by decide) (by omega)
          · split at h
            · split at h
              · cases h
              · cases h;exact nl_span (p:=digB) (by decide) (by omega)
            · cases h
theorem strG_nlC {q:UInt8}:∀ {n:Nat} {r b:Sb} {k:Nat} {v:Sb} {m:Nat},strG q n r b k=.ok (v,m)→nlC (r.take (m - k))=0∨4096<b.length:=by
  intro n
  induction n with
  | zero=>intro r b k v m h;cases h
  | succ n ih =>
    intro r b k v m h;rcases Nat.lt_or_ge 4096 b.length with h9|h9
    · exact .inr h9
    have hlen:=strG_len h;unfold strG at h;cases r with
    | nil=>cases h
    | cons c r' =>
      simp only at h;split at h
      · cases h
      · rename_i hc;split at h
        · cases h;left;rw [show k+1 - k=1 by omega];exact nl_none (by simp [hc])
        · split at h
          · rename_i hb;split at h
            · cases h
            · rename_i d m' he;have hl:=escL_len he;have hl2:=escL_nl he;split at h
              · cases h
              · have hlen2:=strG_len h;rcases ih h with h2|h2
                · left;rcases hlen2 with h3|h3
                  · rw [show m - k=m'+(m - (k+m')) by omega,nlC_take,h2]
                    have:(c::r').take m'=c::r'.take (m' - 1):=by
                      obtain ⟨j,rfl⟩:∃ j,m'=j+1:=⟨m' - 1,by omega⟩
                      rfl
                    rw [this,nlC_cons hc,hl2]
                  · simp at h3;omega
                · simp at h2;omega
          · split at h
            · cases h
            · have hlen2:=strG_len h;rcases ih h with h2|h2
              · left;rcases hlen2 with h3|h3
                · rw [show m - k=(m - (k+1))+1 by omega,List.take_succ_cons,nlC_cons hc,h2]
                · simp at h3;omega
              · simp at h2;omega
theorem tokL_nl {a ln:Nat} {r:Sb} {t:Tk} {m:Nat} (h:tokL a ln r=.ok (t,m)):nlC (r.take m)=0:=by
  cases r with
  | nil=>cases h
  | cons c r' =>
    unfold tokL at h;simp only at h;split at h
    · split at h
      · cases h
      · cases h;exact nl_span (p:=wordB) (by decide) (Nat.le_refl _)
    · split at h
      · split at h
        · cases h
        · rename_i u hu;split at h
          · cases h
          · split at h
            · cases h
            · cases h;exact findN_nl hu
      · split at h
        · rename_i hq;split at h
          · cases h
          · rename_i b k hs;cases h;have hl:=strG_len hs;rcases strG_nlC hs with h2|h2
            · rcases hl with h3|h3
              · obtain ⟨j,rfl⟩:∃ j,m=j+1:=⟨m - 1,by omega⟩
                rw [List.take_succ_cons,nlC_cons (by rcases hq with hq|hq <;> (rw [hq];decide))];rw [Nat.add_sub_cancel] at h2;exact h2
              · simp at h3
            · simp at h2
        · split at h
          · cases h
          · rename_i y hy;cases h;have h1:=List.find?_some hy;have h2:=List.mem_of_find?_eq_some hy;have h3:=List.prefix_iff_eq_take.1 (List.isPrefixOf_iff_prefix.1 h1);rw [←h3];have:∀ y ∈ symsL,∀ c ∈ y,c≠10:=by decide
            exact nl_none (this y h2)
theorem drop_nil {r:Sb} {k:Nat} (h:k≤r.length) (hd:r.drop k=[]):k=r.length:=by
  have:=congrArg List.length hd;simp at this;omega
theorem scan_nl (z:Sb):∀ (n a ln:Nat) (r:Sb) (acc:List Tk),r.length≤n→scanX a ln (r++10::z) acc=match scanX a ln r acc with
    | .error e=>.error e
    | .ok L=>scanX (a+r.length+1) (ln+nlC r+1) z L:=by
  intro n
  induction n with
  | zero =>
    intro a ln r acc hn;have:r=[]:=List.length_eq_zero_iff.1 (by omega);subst this;rw [scanX_eq a ln [],scanX_eq a ln ([]++10::z)];simp only [List.nil_append,List.drop_nil,skipL,if_true,List.length_nil,Nat.add_zero];rw [scanX_eq (a+1)];have h0:nlC []=0:=rfl;rw [h0,show (1+(skipL false z).1)=(skipL false z).1+1 by omega,List.drop_succ_cons,Nat.add_zero,show a+((skipL false z).1+1)=a+1+(skipL false z).1 by omega,show ln+(1+(skipL false z).2)=ln+1+(skipL false z).2 by omega]
  | succ n ih =>
    intro a ln r acc hn;have hs:Sepz (10::z):=⟨10,z,rfl,.inl rfl⟩
    have hk:=skipL_le false r;have hnl:=skipL_nl false r;have hsp:=nlC_split r (skipL false r).1;rw [scanX_eq a ln r];rcases hd:r.drop (skipL false r).1 with _|⟨c,r1⟩
    · have hk2:=drop_nil hk hd;simp only;obtain ⟨b',hb⟩:=skipL_all hs false r hk2;have hb2:skipL b' (10::z)=(1+(skipL false z).1,1+(skipL false z).2):=by cases b' <;> simp [skipL]
      have hq:(skipL false r).2=nlC r:=by rw [hnl,hk2,List.take_length]
      rw [scanX_eq a ln (r++10::z),hb,hb2,scanX_eq (a+r.length+1),hq];simp only
      have hdr:(r++10::z).drop (r.length+(1+(skipL false z).1))=z.drop (skipL false z).1:=by
        rw [←List.drop_drop,List.drop_left,show 1+(skipL false z).1=(skipL false z).1+1 by omega,List.drop_succ_cons]
      rw [hdr,show a+(r.length+(1+(skipL false z).1))=a+r.length+1+(skipL false z).1 by omega,show ln+(nlC r+(1+(skipL false z).2))=ln+nlC r+1+(skipL false z).2 by omega]
    · have hl:(c::r1).length=r.length - (skipL false r).1:=by rw [←hd,List.length_drop]
      simp only [List.length_cons] at hl;have hsk:=skipL_app hs false r (by omega);have hdr:(r++10::z).drop (skipL false r).1=c::(r1++10::z):=by rw [drop_app hk,hd];rfl
      rw [scanX_eq a ln (r++10::z),hsk,hdr];simp only
      have ht:tokL (a+(skipL false r).1) (ln+(skipL false r).2) (c::(r1++10::z))=tokL (a+(skipL false r).1) (ln+(skipL false r).2) (c::r1):=by
        rw [←List.cons_append];refine tokL_app hs (by simp) fun q c' r' hq he=>?_;cases he;exact strG_nl (by rcases hq with h|h <;> (rw [h];decide)) (by simp only [List.length_cons];omega) (by omega)
      rw [ht];rcases htk:tokL (a+(skipL false r).1) (ln+(skipL false r).2) (c::r1) with e|⟨t,m⟩
      · rfl
      · simp only;have hm:=tokL_len htk;have hn0:=tokL_nl htk;have hs2:=nlC_split (c::r1) m;rw [hd] at hsp;rw [←List.cons_append,drop_app hm.2,ih _ _ _ _ (by rw [List.length_drop];simp only [List.length_cons] at hm ⊢;omega)];split
        · rfl
        · rw [List.length_drop];simp only [List.length_cons] at hm ⊢;rw [show a+(skipL false r).1+m+(r1.length+1 - m)+1=a+r.length+1 by omega,show ln+(skipL false r).2+nlC (List.drop m (c::r1))+1=ln+nlC r+1 by omega]
abbrev endZ:Sb:=[32,45,45,32,101,110,100]
theorem scan_end:∀ (n a ln:Nat) (r:Sb) (acc:List Tk),r.length≤n→r.length+7≤4096→scanX a ln (r++endZ) acc=scanX a ln r acc:=by
  intro n;have hs:Sepz endZ:=⟨32,_,rfl,.inr rfl⟩
  induction n with
  | zero =>
    intro a ln r acc hn _;have:r=[]:=List.length_eq_zero_iff.1 (by omega);subst this;rw [scanX_eq a ln [],scanX_eq a ln ([]++endZ)];rfl
  | succ n ih =>
    intro a ln r acc hn hbig;have hk:=skipL_le false r;rw [scanX_eq a ln r];rcases hd:r.drop (skipL false r).1 with _|⟨c,r1⟩
    · have hk2:=drop_nil hk hd;simp only;obtain ⟨b',hb⟩:=skipL_all hs false r hk2;have hb2:skipL b' endZ=(7,0):=by cases b' <;> rfl
      rw [scanX_eq a ln (r++endZ),hb,hb2];simp only;have hdr:(r++endZ).drop (r.length+7)=[]:=by rw [List.drop_eq_nil_of_le];simp
      rw [hdr]
    · have hl:(c::r1).length=r.length - (skipL false r).1:=by rw [←hd,List.length_drop]
      simp only [List.length_cons] at hl;have hsk:=skipL_app hs false r (by omega);have hdr:(r++endZ).drop (skipL false r).1=c::(r1++endZ):=by rw [drop_app hk,hd];rfl
      rw [scanX_eq a ln (r++endZ),hsk,hdr];simp only
      have ht:tokL (a+(skipL false r).1) (ln+(skipL false r).2) (c::(r1++endZ))=tokL (a+(skipL false r).1) (ln+(skipL false r).2) (c::r1):=by
        rw [←List.cons_append];refine tokL_app hs (by simp) fun q c' r' hq he=>?_;cases he;refine strG_bl hs ?_ (by simp only [List.length_cons];omega) (by omega) (by simp;omega);rcases hq with h|h <;> (rw [h];decide)
      rw [ht];rcases htk:tokL (a+(skipL false r).1) (ln+(skipL false r).2) (c::r1) with e|⟨t,m⟩
      · rfl
      · simp only;have hm:=tokL_len htk;rw [←List.cons_append,drop_app hm.2,ih _ _ _ _ (by rw [List.length_drop];simp only [List.length_cons] at hm ⊢;omega) (by rw [List.length_drop];simp only [List.length_cons];omega)]
def shT (d e:Nat) (t:Tk):Tk:=⟨t.kind,t.text,t.line+e,t.pos+d⟩
theorem tokL_sh (a ln d e:Nat) (r:Sb):tokL (a+d) (ln+e) r=match tokL a ln r with
    | .error x=>.error x
    | .ok (t,m)=>.ok (shT d e t,m):=by
  have hc:∀ (k:Int) (y:ByteArray) (n:Nat),(Except.ok (⟨k,y,((ln+e:Nat):Int),((a+d:Nat):Int)⟩,n):Except Int (Tk × Nat))=.ok (shT d e ⟨k,y,ln,a⟩,n):=fun k y n=>by simp [shT]
  cases r with
  | nil=>rfl
  | cons c r' =>
    unfold tokL;simp only [hc];by_cases hi:initB c=true
    · rw [if_pos hi,if_pos hi];by_cases h4:40<spanB wordB (c::r')
      · rw [if_pos h4,if_pos h4]
      · rw [if_neg h4,if_neg h4]
    rw [if_neg hi,if_neg hi];by_cases hd:digB c=true
    · rw [if_pos hd,if_pos hd];cases findN (c::r') with
      | none=>rfl
      | some u =>
        simp only;by_cases h5:(numN (c::r') u).2≠0
        · rw [if_pos h5,if_pos h5]
        rw [if_neg h5,if_neg h5];by_cases h6:(((c::r').drop u.en).head?.map wordB).getD false=true
        · rw [if_pos h6,if_pos h6]
        · rw [if_neg h6,if_neg h6]
    rw [if_neg hd,if_neg hd];by_cases hq:c=39∨c=34
    · rw [if_pos hq,if_pos hq];rcases strG c (r'.length+1) r' [] 1 with x|⟨b,k⟩ <;> rfl
    · rw [if_neg hq,if_neg hq];cases symsL.find? (·.isPrefixOf (c::r')) <;> rfl
theorem scan_sh (d e:Nat):∀ (n a ln:Nat) (r:Sb) (acc:List Tk),r.length≤n→scanX (a+d) (ln+e) r (acc.map (shT d e))=match scanX a ln r acc with
    | .error x=>.error (x.1+e,x.2)
    | .ok L=>.ok (L.map (shT d e)):=by
  intro n
  induction n with
  | zero =>
    intro a ln r acc hn;have:r=[]:=List.length_eq_zero_iff.1 (by omega);subst this;rw [scanX_eq a ln,scanX_eq (a+d)];rfl
  | succ n ih =>
    intro a ln r acc hn;have hk:=skipL_le false r;rw [scanX_eq a ln r,scanX_eq (a+d)];rcases hd:r.drop (skipL false r).1 with _|⟨c,r1⟩
    · rfl
    · have hl:(c::r1).length=r.length - (skipL false r).1:=by rw [←hd,List.length_drop]
      simp only;rw [show a+d+(skipL false r).1=a+(skipL false r).1+d by omega,show ln+e+(skipL false r).2=ln+(skipL false r).2+e by omega,tokL_sh];rcases htk:tokL (a+(skipL false r).1) (ln+(skipL false r).2) (c::r1) with x|⟨t,m⟩
      · simp
      · simp only;have hm:=tokL_len htk;have:=ih (a+(skipL false r).1+m) (ln+(skipL false r).2) ((c::r1).drop m) (acc++[t]) (by rw [List.length_drop];simp only [List.length_cons] at hm hl ⊢;omega);rw [List.map_append,List.map_singleton] at this;rw [show a+(skipL false r).1+d+m=a+(skipL false r).1+m+d by omega];exact this
theorem scan_acc:∀ (n a ln:Nat) (r:Sb) (acc:List Tk),r.length≤n→scanX a ln r acc=match scanX a ln r [] with
    | .error x=>.error x
    | .ok L=>.ok (acc++L):=by
  intro n
  induction n with
  | zero =>
    intro a ln r acc hn;have:r=[]:=List.length_eq_zero_iff.1 (by omega);subst this;rw [scanX_eq a ln,scanX_eq a ln];simp
  | succ n ih =>
    intro a ln r acc hn;have hk:=skipL_le false r;rw [scanX_eq a ln r acc,scanX_eq a ln r []];rcases hd:r.drop (skipL false r).1 with _|⟨c,r1⟩
    · simp
    · have hl:(c::r1).length=r.length - (skipL false r).1:=by rw [←hd,List.length_drop]
      simp only;rcases htk:tokL (a+(skipL false r).1) (ln+(skipL false r).2) (c::r1) with x|⟨t,m⟩
      · simp
      · simp only;have hm:=tokL_len htk;have hlen:((c::r1).drop m).length≤n:=by rw [List.length_drop];simp only [List.length_cons] at hm hl ⊢;omega
        rw [ih _ _ _ (acc++[t]) hlen,ih _ _ _ ([]++[t]) hlen];split <;> simp
def Xt {α:Type} (z:List Tk) (r r':Res α):Prop:=∀ v l,r=.ok v l→r'=.ok v (l++z)
def Xs {α:Type} (z:List Tk) (r r':Res α):Prop:=∀ v t l,r=.ok v (t::l)→r'=.ok v (t::l++z)
section
variable {α β:Type} {z:List Tk} {m m':Res α} {f f':α→List Tk→Res β}
theorem Xt.s (h:Xt z m m'):Xs z m m':=fun v t l e=>h v _ e
theorem Xt.bind (h:Xt z m m') (k:∀ x l,m=.ok x l→Xt z (f x l) (f' x (l++z))):Xt z (m.bind f) (m'.bind f'):=by
  cases m with
  | ok x l=>rw [h x l rfl];exact k x l rfl
  | bad l=>intro v l' e;cases e
theorem Xs.bindT (h:Xt z m m') (k:∀ x l,m=.ok x l→Xs z (f x l) (f' x (l++z))):Xs z (m.bind f) (m'.bind f'):=by
  cases m with
  | ok x l=>rw [h x l rfl];exact k x l rfl
  | bad l=>intro v t l' e;cases e
theorem Xs.bind (h:Xs z m m') (k:∀ x t l,Xs z (f x (t::l)) (f' x (t::l++z))) (k0:∀ x v t l,f x []≠.ok v (t::l)):Xs z (m.bind f) (m'.bind f'):=by
  cases m with
  | ok x l =>
    cases l with
    | nil=>intro v t l' e;exact absurd e (k0 x v t l')
    | cons t l=>rw [h x t l rfl];exact k x t l
  | bad l=>intro v t l' e;cases e
theorem Xs.kill (h:Xs z m m') (k:∀ x t l,Xt z (f x (t::l)) (f' x (t::l++z))) (k0:∀ x v l,f x []≠.ok v l):Xt z (m.bind f) (m'.bind f'):=by
  cases m with
  | ok x l =>
    cases l with
    | nil=>intro v l' e;exact absurd e (k0 x v l')
    | cons t l=>rw [h x t l rfl];exact k x t l
  | bad l=>intro v l' e;cases e
theorem Xt.ite {c c':Prop} [Decidable c] [Decidable c'] {n n':Res α} (hc:c'↔c) (h1:c→Xt z m m') (h2:¬ c→Xt z n n'):Xt z (if c then m else n) (if c' then m' else n'):=by
  by_cases h:c
  · rw [if_pos (hc.2 h),if_pos h];exact h1 h
  · rw [if_neg (fun h9=>h (hc.1 h9)),if_neg h];exact h2 h
theorem Xs.ite {c c':Prop} [Decidable c] [Decidable c'] {n n':Res α} (hc:c'↔c) (h1:c→Xs z m m') (h2:¬ c→Xs z n n'):Xs z (if c then m else n) (if c' then m' else n'):=by
  by_cases h:c
  · rw [if_pos (hc.2 h),if_pos h];exact h1 h
  · rw [if_neg (fun h9=>h (hc.1 h9)),if_neg h];exact h2 h
theorem Xt.yes {v:α} {l:List Tk}:Xt z (.ok v l) (.ok v (l++z)):=fun v' l' e=>by cases e;rfl
theorem Xt.yes' {v:α} {l l':List Tk} (h:l'=l++z):Xt z (.ok v l) (.ok v l'):=by subst h;exact Xt.yes
theorem Xt.no {l:List Tk} {r:Res α}:Xt z (.bad l) r:=fun v' l' e=>by cases e
end
def Smi (z:List Tk):Prop:=∃ t w,z=t::w∧t.kind=5∧t.text.data.toList=[59]
theorem no_need {α β:Type} {s:Sb} {f:Tk→List Tk→Res β} {v:β} {l:List Tk}:(needR s []).bind f≠.ok v l:=by rintro h;cases h
section
variable {z:List Tk} (hz:Smi z)
include hz
theorem Xt.is {s:Sb} (hs:s≠[59]) (l:List Tk):isB s (l++z)=isB s l:=by
  cases l with
  | nil =>
    obtain ⟨t,w,rfl,hk,ht⟩:=hz;have:([59]==s)=false:=by rw [beq_eq_false_iff_ne];exact fun h=>hs h.symm
    simp [isB,hk,ht,this]
  | cons t r=>rfl
theorem Xt.isi {s:Sb} (l:List Tk) (hs:s≠[59]:=by decide):isB s (l++z)=true↔isB s l=true:=by rw [Xt.is hz hs]
theorem Xt.nk {k:Int} (l:List Tk) (h5:k≠5:=by decide) (h0:k≠0:=by decide):(nextK (l++z)).kind=k↔(nextK l).kind=k:=by
  cases l with
  | nil =>
    obtain ⟨t,w,rfl,hk,ht⟩:=hz;show t.kind=k↔(0:Int)=k;rw [hk];exact ⟨fun h=>absurd h.symm h5,fun h=>absurd h.symm h0⟩
  | cons t r=>exact Iff.rfl
omit hz in
theorem Xt.nx {l:List Tk} (h:l≠[]):nextK (l++z)=nextK l:=by cases l with|nil=>exact absurd rfl h|cons t r=>rfl
omit hz in
theorem Xt.tl {l:List Tk} (h:l≠[]):(l++z).tail=l.tail++z:=by cases l with|nil=>exact absurd rfl h|cons t r=>rfl
omit hz in
theorem is_ne {s:Sb} {l:List Tk} (h:isB s l=true):l≠[]:=by rintro rfl;cases h
omit hz in
theorem kd_ne {k:Int} {l:List Tk} (h:(nextK l).kind=k) (h0:k≠0:=by decide):l≠[]:=by rintro rfl;exact h0 h.symm
theorem Xt.calls (l:List Tk):callsB (l++z)=callsB l:=by
  unfold callsB;rw [Xt.is hz (by decide),Xt.is hz (by decide)];congr 1;rw [Bool.eq_iff_iff,beq_iff_eq,beq_iff_eq];exact Xt.nk hz l
theorem Xt.eq_ (l:List Tk):nextEq (l++z)=nextEq l:=by
  obtain ⟨t,w,rfl,hk,ht⟩:=hz
  match l with
  | []=>cases w <;> simp [nextEq,hk]
  | [u]=>simp [nextEq,ht]
  | u::v::r=>rfl
theorem Xt.un (l:List Tk):unB (nextK (l++z))=unB (nextK l):=by
  cases l with
  | nil=>obtain ⟨t,w,rfl,hk,ht⟩:=hz;show unB t=0;simp [unB,hk,ht]
  | cons t r=>rfl
theorem Xt.bin (l:List Tk):(binB (nextK (l++z))).2.2=(binB (nextK l)).2.2:=by
  cases l with
  | nil =>
    obtain ⟨t,w,rfl,hk,ht⟩:=hz;show (binB t).2.2=0;unfold binB;rw [ht,hk];rfl
  | cons t r=>rfl
theorem Xt.ends {l:List Tk} (h:l≠[]):endsB (l++z)=endsB l:=by
  unfold endsB;rw [Xt.is hz (by decide),Xt.is hz (by decide),Xt.is hz (by decide),Xt.is hz (by decide)];congr 4;cases l with|nil=>exact absurd rfl h|cons t r=>rfl
omit hz in
theorem Xt.take (l:List Tk):Xt z (takeR l) (takeR (l++z)):=by cases l with|nil=>exact Xt.no|cons t r=>exact Xt.yes
theorem Xt.need (s:Sb) (l:List Tk) (hs:s≠[59]:=by decide):Xt z (needR s l) (needR s (l++z)):=Xt.ite (Xt.isi hz l hs) (fun _=>Xt.take l) fun _=>Xt.no
theorem Xt.name (l:List Tk):Xt z (nameR l) (nameR (l++z)):=Xt.ite (Xt.nk hz l) (fun _=>Xt.take l) fun _=>Xt.no
def ZE (z:List Tk) (E:EF):Prop:=∀ lim l,0≤lim→Xt z (E lim l) (E lim (l++z))
def ZB (z:List Tk) (B:BF):Prop:=∀ l,Xs z (B l) (B (l++z))
variable {E:EF} {B:BF} (hE:ZE z E) (hB:ZB z B)
include hE in
theorem Xt.listG:∀ {n n':Nat} {acc l},n≤n'→Xt z (listG E n acc l) (listG E n' acc (l++z))
  | 0,_,_,_,_=>Xt.no
  | n+1,0,_,_,h=>absurd h (by omega)
  | n+1,n'+1,acc,l,h=>Xt.ite (Xt.isi hz l) (fun hc=>Xt.bind (by rw [Xt.tl (is_ne hc)];exact hE 0 _ (by decide)) fun x l1 _=>Xt.listG (by omega)) fun _=>Xt.yes
omit hz in
theorem len_z (l:List Tk):l.length+1≤(l++z).length+1:=by simp
include hE in
theorem Xt.listR (l:List Tk):Xt z (listR E l) (listR E (l++z)):=Xt.bind (hE 0 l (by decide)) fun x l1 _=>Xt.listG hz hE (len_z l1)
include hE in
theorem Xt.item (l:List Tk) (hl:l≠[]):Xt z (itemR E l) (itemR E (l++z)):=by
  unfold itemR;rw [Xt.nx hl];refine Xt.ite (Xt.isi hz l) (fun hc=>Xt.bind (by rw [Xt.tl hl];exact hE 0 _ (by decide)) fun k l1 _=>Xt.bind (Xt.need hz _ l1) fun _ l2 _=>Xt.bind (Xt.need hz _ l2) fun _ l3 _=>Xt.bind (hE 0 l3 (by decide)) fun v l4 _=>Xt.yes) fun _=>?_;refine Xt.ite (by rw [Xt.eq_ hz]) (fun hc=>?_) fun _=>Xt.bind (hE 0 l (by decide)) fun x l1 _=>Xt.yes
  have h2:2≤l.length:=by
    match l,hc with
    | t::u::r,_=>simp
  rw [List.drop_append_of_le_length h2];exact Xt.bind (hE 0 _ (by decide)) fun v l1 _=>Xt.yes
end
section
variable {z:List Tk} (hz:Smi z) {E:EF} {B:BF} (hE:ZE z E) (hB:ZB z B) (hL:SE E)
include hz hE hL
theorem Xt.tabG:∀ {n n':Nat} {acc l},n≤n'→Xs z (tabG E n acc l) (tabG E n' acc (l++z))
  | 0,_,_,_,_=>Xt.no.s
  | n+1,0,_,_,h=>absurd h (by omega)
  | n+1,n'+1,acc,[],h=>by
    intro v t l e
    have:=(Le.bind (t:=fun _=>0) (k':=0) (item_le hL []) fun x l1 h1=>by simp at h1) v (t::l) (by
      have:Go.Proofs.YtdekaghipjpgpaaGreatDoor.tabG E (n+1) acc []=(itemR E []).bind fun x l1=>if isB [44] l1=true then Go.Proofs.YtdekaghipjpgpaaGreatDoor.tabG E n (acc++[x]) l1.tail else if isB [59] l1=true then Go.Proofs.YtdekaghipjpgpaaGreatDoor.tabG E n (acc++[x]) l1.tail else .ok (acc++[x]) l1:=rfl
      rw [this] at e;exact e)
    simp at this
  | n+1,n'+1,acc,t0::r0,h=>by
    have hne:t0::r0≠[]:=by simp
    refine Xs.ite (Xt.isi hz _) (fun hc=>Xt.yes.s) fun _=>Xs.bindT (Xt.item hz hE _ hne) fun x l1 _=>?_;refine Xs.ite (Xt.isi hz l1) (fun hc=>by rw [Xt.tl (is_ne hc)];exact Xt.tabG (by omega)) fun _=>?_;cases l1 with
    | nil=>intro v t l e;simp [isB] at e
    | cons t1 r1 =>
      refine Xs.ite Iff.rfl (fun hc=>?_) fun _=>Xt.yes.s;exact Xt.tabG (by omega)
theorem Xt.table (l:List Tk):Xt z (tableR E l) (tableR E (l++z)) :=
  Xt.bind (Xt.take l) fun t l1 _=>Xs.kill (Xt.tabG hz hE hL (len_z l1)) (fun xs t l=>Xt.bind (Xt.need hz _ _) fun _ l3 _=>Xt.yes) fun x v l=>no_need (α:=Ex)
theorem Xt.bare (l:List Tk):Xt z (bareR E l) (bareR E (l++z)) :=
  Xt.ite (Xt.nk hz l) (fun hc=>by have:=kd_ne hc;rw [Xt.nx this,Xt.tl this];exact Xt.yes) fun _=>Xt.table hz hE hL l
theorem Xt.args (e:Ex) (l:List Tk):Xt z (argsR E e l) (argsR E e (l++z)) :=
  Xt.ite (Xt.isi hz l) (fun hc=>by
    rw [Xt.tl (is_ne hc)];exact Xt.ite (Xt.isi hz _) (fun _=>Xt.bind (Xt.need hz _ _) fun _ l3 _=>Xt.yes) fun _=>Xt.bind (Xt.listR hz hE _) fun xs l1 _=>Xt.bind (Xt.need hz _ l1) fun _ l3 _=>Xt.yes)
    fun _=>Xt.bind (Xt.bare hz hE hL l) fun x l1 _=>Xt.yes
omit hL in
theorem Xt.head (l:List Tk):Xt z (headR E l) (headR E (l++z)) :=
  Xt.ite (Xt.isi hz l) (fun hc=>by
    rw [Xt.tl (is_ne hc),Xt.nx (is_ne hc)];exact Xt.bind (hE 0 _ (by decide)) fun e l1 _=>Xt.bind (Xt.need hz _ l1) fun _ l2 _=>Xt.yes)
    fun _=>Xt.bind (Xt.name hz l) fun n l1 _=>Xt.yes
theorem Xt.sufG:∀ {n n':Nat} {e b l},n≤n'→Xt z (sufG E n e b l) (sufG E n' e b (l++z))
  | 0,_,_,_,_,_=>Xt.no
  | n+1,0,_,_,_,h=>absurd h (by omega)
  | n+1,n'+1,e,b,l,h =>
    Xt.ite (Xt.isi hz l) (fun hc=>by
      rw [Xt.tl (is_ne hc),Xt.nx (is_ne hc)];exact Xt.bind (Xt.name hz _) fun k l1 _=>Xt.sufG (by omega)) fun _ =>
    Xt.ite (Xt.isi hz l) (fun hc=>by
      rw [Xt.tl (is_ne hc),Xt.nx (is_ne hc)];exact Xt.bind (hE 0 _ (by decide)) fun k l1 _=>Xt.bind (Xt.need hz _ l1) fun _ l2 _=>Xt.sufG (by omega)) fun _ =>
    Xt.ite (Xt.isi hz l) (fun hc=>by
      rw [Xt.tl (is_ne hc)];refine Xt.bind (Xt.name hz _) fun k l1 _=>Xt.ite (by rw [Xt.calls hz]) (fun hc1=>?_) fun _=>Xt.no;rw [Xt.nx (calls_ne hc1)];exact Xt.bind (Xt.args hz hE hL e l1) fun a l2 _=>Xt.sufG (by omega)) fun _ =>
    Xt.ite (by rw [Xt.calls hz]) (fun hc=>by
      rw [Xt.nx (calls_ne hc)];exact Xt.bind (Xt.args hz hE hL e l) fun a l1 _=>Xt.sufG (by omega)) fun _=>Xt.yes
theorem Xt.pref (l:List Tk):Xt z (prefR E l) (prefR E (l++z)):=Xt.bind (Xt.head hz hE l) fun x l1 _=>Xt.sufG hz hE hL (len_z l1)
omit hE hL in
theorem Xt.parG:∀ {n n':Nat} {ps l},n≤n'→Xt z (parG n ps l) (parG n' ps (l++z))
  | 0,_,_,_,_=>Xt.no
  | n+1,0,_,_,h=>absurd h (by omega)
  | n+1,n'+1,ps,l,h=>Xt.ite (Xt.isi hz l) (fun hc=>Xt.yes' (Xt.tl (is_ne hc))) fun _=>Xt.bind (Xt.name hz l) fun t l1 _=>Xt.ite (Xt.isi hz l1) (fun hc=>by rw [Xt.tl (is_ne hc)];exact Xt.parG (by omega)) fun _=>Xt.yes
omit hE hL in
include hB in
theorem Xt.body (e:Sb) (l:List Tk) (he:e≠[59]:=by decide):Xt z (bodyR B e l) (bodyR B e (l++z)):=Xs.kill (hB l) (fun b t l=>Xt.bind (Xt.need hz _ _ he) fun _ l2 _=>Xt.yes) fun x v l=>no_need (α:=Ex)
omit hE hL in
include hB in
theorem Xt.clo (line:Int) (name:ByteArray) (self:Bool) (l:List Tk):Xt z (cloR B line name self l) (cloR B line name self (l++z)) :=
  Xt.bind (Xt.need hz _ l) fun _ l1 _=>Xt.bind (Xt.ite (Xt.isi hz l1) (fun _=>Xt.yes) fun _=>Xt.parG hz (len_z l1)) fun ps l2 _=>Xt.bind (Xt.need hz _ l2) fun _ l3 _=>Xt.bind (Xt.body hz hB _ l3) fun b l4 _=>Xt.yes
include hB in
theorem Xt.pri (l:List Tk):Xt z (priR E B l) (priR E B (l++z)):=by
  by_cases hl:l=[]
  · subst hl;intro v l' e;have:priR E B []=.bad []:=rfl;rw [this] at e;cases e
  unfold priR;simp only;rw [Xt.nx hl,Xt.tl hl]
  refine Xt.ite Iff.rfl (fun hc=>Xt.yes) fun _=>Xt.ite Iff.rfl (fun hc=>Xt.yes) fun _=>Xt.ite (Xt.isi hz l) (fun hc=>Xt.yes) fun _=>Xt.ite (Xt.isi hz l) (fun hc=>Xt.yes) fun _=>Xt.ite (Xt.isi hz l) (fun hc=>Xt.yes) fun _ =>
    Xt.ite (Xt.isi hz l) (fun hc=>Xt.yes) fun _=>Xt.ite (Xt.isi hz l) (fun hc=>Xt.clo hz hB _ _ _ _) fun _=>Xt.ite (Xt.isi hz l) (fun hc=>Xt.table hz hE hL l) fun _=>Xt.bind (Xt.pref hz hE hL l) fun x l1 _=>Xt.yes
omit hL in
theorem Xt.binG {lim:Int} (hlim:0≤lim):∀ {n n':Nat} {e l},n≤n'→Xt z (binG E lim n e l) (binG E lim n' e (l++z))
  | 0,_,_,_,_=>Xt.no
  | n+1,0,_,_,h=>absurd h (by omega)
  | n+1,n'+1,e,l,h=>Xt.ite (by rw [Xt.bin hz]) (fun _=>Xt.yes) fun hc=>by
      have hl:l≠[]:=by
        rintro rfl;exact hc (show (0:Int)≤lim from hlim)
      have h0:0≤tight (binB (nextK l)).2.2:=by unfold tight;split <;> omega
      rw [Xt.nx hl,Xt.tl hl];exact Xt.bind (hE _ _ h0) fun x l1 _=>Xt.binG hlim (by omega)
include hB in
theorem Xt.unR (l:List Tk):Xt z (unR E B l) (unR E B (l++z)) :=
  Xt.ite (by rw [Xt.un hz]) (fun hc=>by
    have hl:l≠[]:=by rintro rfl;exact hc rfl
    rw [Xt.nx hl,Xt.tl hl];exact Xt.bind (hE _ _ (by decide)) fun x l1 _=>Xt.yes) fun _=>Xt.pri hz hE hB hL l
include hB in
theorem Xt.exp (lim:Int) (hlim:0≤lim) (l:List Tk):Xt z (expR E B lim l) (expR E B lim (l++z)):=Xt.bind (Xt.unR hz hE hB hL l) fun e l1 _=>Xt.binG hz hE hlim (len_z l1)
omit hz hE hL in
theorem Xt.attr1 (l:List Tk):Xt z (attr1 l) (attr1 (l++z)):=by
  by_cases hl:l=[]
  · subst hl;exact Xt.no
  unfold Go.Proofs.YtdekaghipjpgpaaGreatDoor.attr1;rw [Xt.nx hl,Xt.tl hl];exact Xt.ite Iff.rfl (fun _=>Xt.yes) fun _=>Xt.ite Iff.rfl (fun _=>Xt.yes) fun _=>Xt.no
omit hE hL in
theorem Xt.attr (l:List Tk):Xt z (attrR l) (attrR (l++z)) :=
  Xt.ite (Xt.isi hz l) (fun hc=>by rw [Xt.tl (is_ne hc)];exact Xt.bind (Xt.attr1 _) fun a l1 _=>Xt.bind (Xt.need hz _ l1) fun _ l2 _=>Xt.yes) fun _=>Xt.yes
omit hE hL in
theorem Xt.namesG:∀ {n n':Nat} {ns l},n≤n'→Xt z (namesG n ns l) (namesG n' ns (l++z))
  | 0,_,_,_,_=>Xt.no
  | n+1,0,_,_,h=>absurd h (by omega)
  | n+1,n'+1,ns,l,h=>Xt.bind (Xt.name hz l) fun t l1 _=>Xt.bind (Xt.attr hz l1) fun a l2 _=>Xt.ite (Xt.isi hz l2) (fun hc=>by rw [Xt.tl (is_ne hc)];exact Xt.namesG (by omega)) fun _=>Xt.yes
omit hL in
include hB in
theorem Xt.local_ (l:List Tk):Xt z (localR E B l) (localR E B (l++z)) :=
  Xt.bind (Xt.take l) fun t l1 _=>Xt.ite (Xt.isi hz l1) (fun hc=>by
      rw [Xt.tl (is_ne hc),Xt.nx (is_ne hc)];exact Xt.bind (Xt.name hz _) fun n l2 _=>Xt.bind (Xt.clo hz hB _ _ _ _) fun x l3 _=>Xt.yes)
    fun _=>Xt.bind (Xt.namesG hz (len_z l1)) fun ns l2 _=>Xt.ite (Xt.isi hz l2) (fun hc=>by rw [Xt.tl (is_ne hc)];exact Xt.bind (Xt.listR hz hE _) fun xs l3 _=>Xt.yes) fun _=>Xt.yes
omit hE hL in
theorem Xt.pathG:∀ {n n':Nat} {e s l},n≤n'→Xt z (pathG n e s l) (pathG n' e s (l++z))
  | 0,_,_,_,_,_=>Xt.no
  | n+1,0,_,_,_,h=>absurd h (by omega)
  | n+1,n'+1,e,s,l,h=>Xt.ite (by rw [Xt.is hz (by decide),Xt.is hz (by decide)]) (fun hc=>by
      have hl:l≠[]:=by rcases hc with hc|hc <;> exact is_ne hc
      rw [Xt.nx hl,Xt.tl hl];exact Xt.bind (Xt.name hz _) fun k l1 _=>Xt.ite Iff.rfl (fun _=>Xt.yes) fun _=>Xt.pathG (by omega)) fun _=>Xt.yes
omit hE hL in
include hB in
theorem Xt.func (l:List Tk):Xt z (funcR B l) (funcR B (l++z)) :=
  Xt.bind (Xt.take l) fun t l1 _=>Xt.bind (Xt.name hz l1) fun n l2 _=>Xt.bind (Xt.pathG hz (len_z l2)) fun x l3 _=>Xt.bind (Xt.clo hz hB _ _ _ _) fun c l4 _=>Xt.yes
omit hL in
include hB in
theorem Xt.ifG:∀ {n n':Nat} {cs bs l},n≤n'→Xs z (ifG E B n cs bs l) (ifG E B n' cs bs (l++z))
  | 0,_,_,_,_,_=>Xt.no.s
  | n+1,0,_,_,_,h=>absurd h (by omega)
  | n+1,n'+1,cs,bs,l,h=>Xs.bindT (hE 0 l (by decide)) fun c l1 _=>Xs.bindT (Xt.need hz _ l1) fun _ l2 _=>Xs.bind (hB l2)
      (fun b t l3=>Xs.ite (Xt.isi hz _) (fun hc=>Xt.ifG (by omega)) fun _=>Xt.yes.s) fun b v t l e=>by simp [isB] at e
omit hL in
include hB in
theorem Xt.if_ (l:List Tk):Xt z (ifR E B l) (ifR E B (l++z)) :=
  Xt.bind (Xt.take l) fun t l1 _=>Xs.kill (Xt.ifG hz hE hB (len_z l1)) (fun x t2 l2=>Xs.kill (Xs.ite (Xt.isi hz _) (fun hc=>Xs.bind (hB _) (fun b t3 l3=>Xt.yes.s) fun b v t3 l3 e=>by cases e) fun _=>Xt.yes.s)
    (fun bs t4 l4=>Xt.bind (Xt.need hz _ _) fun _ l5 _=>Xt.yes) fun bs v l=>no_need (α:=Ex)) fun x v l e=>by
      have e2:(Res.bad []:Res St)=.ok v l:=e;cases e2
omit hE hL in
theorem Xt.forG:∀ {n n':Nat} {ns l},n≤n'→Xt z (forG n ns l) (forG n' ns (l++z))
  | 0,_,_,_,_=>Xt.no
  | n+1,0,_,_,h=>absurd h (by omega)
  | n+1,n'+1,ns,l,h=>Xt.ite (Xt.isi hz l) (fun hc=>by rw [Xt.tl (is_ne hc)];exact Xt.bind (Xt.name hz _) fun t l1 _=>Xt.forG (by omega)) fun _=>Xt.yes
omit hL in
include hB in
theorem Xt.loop (l:List Tk):Xt z (loopR E B l) (loopR E B (l++z)) :=
  Xt.bind (Xt.take l) fun t l1 _=>Xt.bind (Xt.name hz l1) fun n l2 _ =>
    Xt.ite (Xt.isi hz l2) (fun hc=>by
        rw [Xt.tl (is_ne hc)];refine Xt.bind (hE 0 _ (by decide)) fun a l3 _=>Xt.bind (Xt.need hz _ l3) fun _ l4 _=>Xt.bind (hE 0 l4 (by decide)) fun b l5 _=>Xt.bind (Xt.ite (Xt.isi hz l5) (fun hc=>?_) fun _=>Xt.yes) fun xs l7 _=>Xt.bind (Xt.need hz _ l7) fun _ l8 _=>Xt.bind (Xt.body hz hB _ l8) fun k l9 _=>Xt.yes;rw [Xt.tl (is_ne hc)];exact Xt.bind (hE 0 _ (by decide)) fun c l6 _=>Xt.yes)
      fun _=>Xt.bind (Xt.forG hz (len_z l2)) fun ns l3 _=>Xt.bind (Xt.need hz _ l3) fun _ l4 _=>Xt.bind (Xt.listR hz hE l4) fun xs l5 _=>Xt.bind (Xt.need hz _ l5) fun _ l6 _=>Xt.bind (Xt.body hz hB _ l6) fun k l7 _=>Xt.yes
theorem Xt.leftG:∀ {n n':Nat} {acc e b l},n≤n'→Xt z (leftG E n acc e b l) (leftG E n' acc e b (l++z))
  | 0,_,_,_,_,_,_=>Xt.no
  | n+1,0,_,_,_,_,h=>absurd h (by omega)
  | n+1,n'+1,acc,e,b,l,h=>Xt.ite Iff.rfl (fun _=>Xt.no) fun _=>Xt.ite (Xt.isi hz l) (fun hc=>by rw [Xt.tl (is_ne hc)];exact Xt.bind (Xt.pref hz hE hL _) fun x l1 _=>Xt.leftG (by omega)) fun _=>Xt.yes
theorem Xt.simple (l:List Tk):Xt z (simpleR E l) (simpleR E (l++z)):=by
  by_cases hl:l=[]
  · subst hl;intro v l' e;have:simpleR E []=.bad []:=rfl;rw [this] at e;cases e
  unfold simpleR;rw [Xt.nx hl];exact Xt.bind (Xt.pref hz hE hL l) fun x l1 _=>Xt.ite Iff.rfl (fun _=>Xt.yes) fun _=>Xt.bind (Xt.leftG hz hE hL (len_z l1)) fun ls l2 _=>Xt.bind (Xt.need hz _ l2) fun _ l3 _=>Xt.bind (Xt.listR hz hE l3) fun rs l4 _=>Xt.yes
omit hL in
include hB in
theorem Xt.key (l:List Tk) (hl:l≠[]):Xt z (keyR E B l) (keyR E B (l++z)):=by
  unfold keyR;simp only;rw [Xt.nx hl]
  exact Xt.ite Iff.rfl (fun _=>Xt.local_ hz hE hB l) fun _=>Xt.ite Iff.rfl (fun _=>Xt.func hz hB l) fun _=>Xt.ite Iff.rfl (fun _=>Xt.if_ hz hE hB l) fun _=>Xt.ite Iff.rfl (fun _=>Xt.loop hz hE hB l) fun _ =>
    Xt.ite Iff.rfl (fun _=>Xt.bind (Xt.take l) fun _ l1 _=>Xt.bind (hE 0 l1 (by decide)) fun c l2 _=>Xt.bind (Xt.need hz _ l2) fun _ l3 _=>Xt.bind (Xt.body hz hB _ l3) fun b l4 _=>Xt.yes) fun _ =>
    Xt.ite Iff.rfl (fun _=>Xt.bind (Xt.take l) fun _ l1 _=>Xt.bind (Xt.body hz hB _ l1) fun b l2 _=>Xt.bind (hE 0 l2 (by decide)) fun c l3 _=>Xt.yes) fun _ =>
    Xt.ite Iff.rfl (fun _=>Xt.bind (Xt.take l) fun _ l1 _=>Xt.bind (Xt.body hz hB _ l1) fun b l2 _=>Xt.yes) fun _ =>
    Xt.ite Iff.rfl (fun _=>Xt.bind (Xt.take l) fun _ l1 _=>Xt.yes) fun _ =>
    Xt.ite Iff.rfl (fun _=>Xt.bind (Xt.take l) fun _ l1 _=>Xt.bind (Xt.name hz l1) fun n l2 _=>Xt.yes) fun _=>Xt.no
include hB in
theorem Xt.stat (l:List Tk):Xt z (statR E B l) (statR E B (l++z)) :=
  Xt.ite (Xt.nk hz l) (fun hc=>Xt.key hz hE hB l (kd_ne hc)) fun _=>Xt.ite (Xt.isi hz l) (fun hc=>by
    rw [Xt.tl (is_ne hc),Xt.nx (is_ne hc)];exact Xt.bind (Xt.name hz _) fun n l1 _=>Xt.bind (Xt.need hz _ l1) fun _ l2 _=>Xt.yes) fun _=>Xt.simple hz hE hL l
omit hL in
theorem Xt.ret (l:List Tk):Xs z (retR E l) (retR E (l++z)) :=
  Xs.bindT (Xt.take l) fun t l1 _=>by
    have hk:∀ (t:Tk) (xs:List Ex) (t2:Tk) (l2:List Tk),Xs z (if endsB (if isB [59] (t2::l2)=true then (t2::l2).tail else t2::l2)=true then .ok (St.mk 11 t.line [] [] xs [] ⟨#[]⟩) (if isB [59] (t2::l2)=true then (t2::l2).tail else t2::l2) else .bad (if isB [59] (t2::l2)=true then (t2::l2).tail else t2::l2))
        (if endsB (if isB [59] (t2::l2++z)=true then (t2::l2++z).tail else t2::l2++z)=true then .ok (St.mk 11 t.line [] [] xs [] ⟨#[]⟩) (if isB [59] (t2::l2++z)=true then (t2::l2++z).tail else t2::l2++z) else .bad (if isB [59] (t2::l2++z)=true then (t2::l2++z).tail else t2::l2++z)):=by
      intro t xs t2 l2
      have hi:(if isB [59] (t2::l2++z)=true then (t2::l2++z).tail else t2::l2++z)=(if isB [59] (t2::l2)=true then (t2::l2).tail else t2::l2)++z:=by
        have:isB [59] (t2::l2++z)=isB [59] (t2::l2):=rfl;rw [this];split <;> rfl
      rw [hi];generalize (if isB [59] (t2::l2)=true then (t2::l2).tail else t2::l2)=l3;intro v t' l' e;split at e
      · rename_i h9;cases e;rw [Xt.ends hz (by simp),if_pos h9]
      · cases e
    have h0:∀ (t:Tk) (xs:List Ex) (v:St) (t':Tk) (l':List Tk),(if endsB (if isB [59] ([]:List Tk)=true then ([]:List Tk).tail else [])=true then .ok (St.mk 11 t.line [] [] xs [] ⟨#[]⟩) (if isB [59] ([]:List Tk)=true then ([]:List Tk).tail else []) else .bad (if isB [59] ([]:List Tk)=true then ([]:List Tk).tail else []):Res St)≠.ok v (t'::l'):=by
      intro t xs v t' l' e;simp [isB,endsB] at e
    cases l1 with
    | nil=>intro v t' l' e;exact absurd (h0 t [] v t' l' e) id
    | cons t1 r1 =>
      refine Xs.bind ?_ (fun xs t2 l2=>hk t xs t2 l2) fun xs v t' l'=>h0 t xs v t' l';have h1:isB [59] (t1::r1++z)=isB [59] (t1::r1):=rfl;exact Xs.ite (by rw [Xt.ends hz (by simp),h1]) (fun _=>(Xt.listR hz hE _).s) fun _=>Xt.yes.s
include hB in
theorem Xt.blkG:∀ {n n':Nat} {acc l},n≤n'→Xs z (blkG E B n acc l) (blkG E B n' acc (l++z))
  | 0,_,_,_,_=>Xt.no.s
  | n+1,0,_,_,h=>absurd h (by omega)
  | n+1,n'+1,acc,[],h=>by
    intro v t l e;have:Go.Proofs.YtdekaghipjpgpaaGreatDoor.blkG E B (n+1) acc []=.ok acc []:=rfl;rw [this] at e;cases e
  | n+1,n'+1,acc,t0::r0,h=>Xs.ite (by rw [Xt.ends hz (by simp)]) (fun _=>Xt.yes.s) fun _=>Xs.ite Iff.rfl (fun _=>Xt.blkG (by omega)) fun _=>Xs.ite Iff.rfl (fun _=>Xs.bind (Xt.ret hz hE _) (fun s t l=>Xt.yes.s) fun s v t l e=>by cases e)
      fun _=>Xs.bindT (Xt.stat hz hE hB hL _) fun s l1 _=>Xt.blkG (by omega)
end
theorem ZEB {z:List Tk} (hz:Smi z):∀ n,ZE z (EB n).1∧ZB z (EB n).2
  | 0=>⟨fun _ _ _=>Xt.no,fun _=>Xt.no.s⟩
  | n+1=>⟨fun lim l h=>Xt.exp hz (ZEB hz n).1 (ZEB hz n).2 (EB_le n).1 lim h l,fun l=>Xt.blkG hz (ZEB hz n).1 (ZEB hz n).2 (EB_le n).1 (len_z l)⟩
end Go.Proofs.YtdekaghipjpgpaaGreatDoor
