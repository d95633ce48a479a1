/- Three plain laws of joined names, of paths and of statements' forms. -/
import Derived.Test.YtdekaghipjpgpaaGreatDoorC1
import Derived.Lib.Join
import Derived.Test.YtdekaghipjpgpaaGreatDoorT7
import Derived.Test.YtdekaghipjpgpaaGreatDoorT5
import Derived.Test.YtdekaghipjpgpaaGreatDoorT6
import Derived.Test.YtdekaghipjpgpaaGreatDoorCN
namespace Go.Proofs.YtdekaghipjpgpaaGreatDoor
open Go.RowKit
set_option linter.unusedVariables false
set_option linter.unusedSimpArgs false
theorem ite_err {c:Prop} [Decidable c] {n m:Int} (hn:n≠0):(if c then n else m)=0↔¬ c∧m=0:=by
  by_cases h:c
  · simp [h,hn]
  · simp [h]
theorem errX_iff {x:Ex} {p:Int} {t:Ttl}:errX x p t=0↔¬ ((if x.kind=5 then 4096 else 40)<x.str.size)∧¬ (x.funcs.any (fun f=>decide (4096<f.name.size) || f.params.any (fun p=>decide (40<p.size)))=true)∧¬ ((decide (x.line<0) || !formB x p)=true)∧¬ (x.funcs.any (fun f=>decide (f.line<0) || !fitsB t f)=true)∧¬ (((x.kind==7 || x.kind==10) && !nameB x.str)=true)∧¬ (x.funcs.any (fun f=>f.params.any (fun p => !nameB p))=true)∧(0:Int)=0:=by
  unfold errX;rw [ite_err (by decide),ite_err (by decide),ite_err (by decide),ite_err (by decide),ite_err (by decide),ite_err (by decide)]
theorem errY_iff {s:St} {b:Bool}:errY s b=0↔¬ (40<s.label.size)∧¬ (s.names.any (fun x=>decide (40<x.1.size))=true)∧¬ ((decide (s.line<0) || !formSB s b)=true)∧¬ (((s.kind==13 || s.kind==14) && !nameB s.label)=true)∧¬ (s.names.any (fun x => !nameB x.1)=true)∧(0:Int)=0:=by
  unfold errY;rw [ite_err (by decide),ite_err (by decide),ite_err (by decide),ite_err (by decide),ite_err (by decide)]
theorem errT_iff {x:Ex} {p:Int} {t:Ttl}:errT t p x=0↔errX x p t=0∧(∀ y ∈ x.args,errT ttl0 x.kind y=0)∧∀ f ∈ x.funcs,firstE (errSs f.body)=0:=by
  rw [errT_eq,alt_zero,alt_zero,firstE_zero,firstE_zero];simp [errF_eq]
abbrev Bs:=List UInt8
def bsOf (s:ByteArray):Bs:=s.data.toList
theorem errT_name {x:Ex} {p:Int} {t:Ttl} (h:errT t p x=0) (hk:x.kind=7∨x.kind=10):nameB x.str=true:=by
  obtain ⟨-,-,-,-,h5,-⟩:=errX_iff.1 (errT_iff.1 h).1;cases hn:nameB x.str
  · exfalso;apply h5;rw [hn];rcases hk with hk|hk <;> simp [hk]
  · rfl
def colonB (s:ByteArray):Bool:=(bsOf s).any (·==58)
theorem join_mem {sep:Bs} {x:UInt8} {l:List Bs} (h:x ∈ Lib.join l sep):x ∈ sep∨∃ e ∈ l,x ∈ e:=by
  cases l with
  | nil=>rw [Lib.join_nil] at h;cases h
  | cons a r =>
    rw [Lib.join_cons] at h;rcases List.mem_append.1 h with h|h
    · exact .inr ⟨a,by simp,h⟩
    · unfold Lib.joinTail at h;obtain ⟨q,hq,hx⟩:=List.mem_flatten.1 h;obtain ⟨e,he,rfl⟩:=List.mem_map.1 hq;rcases List.mem_append.1 hx with hx|hx
      · exact .inl hx
      · exact .inr ⟨e,by simp [he],hx⟩
theorem join_snoc (sep:List UInt8) (l:List (List UInt8)) (y:List UInt8):Lib.join (l++[y]) sep=Lib.join l sep++(if l=[] then [] else sep)++y:=by
  cases l with
  | nil=>simp [Lib.join_nil,Lib.join_one]
  | cons a r =>
    rw [List.cons_append,Lib.join_cons,Lib.join_cons,if_neg (by simp)];unfold Lib.joinTail;simp
theorem path_eq2 (x:Ex):pathE x=if x.kind=7 then some [x.str] else match x.args with
    | [a,b]=>if x.kind=8 then (if b.kind=5∧nameB b.str=true then (pathE a).map (·++[b.str]) else none) else none
    | _=>none:=by
  obtain ⟨k,o,l,p,q,s,args,f⟩:=x;rcases args with _|⟨a,_|⟨b,_|⟨c,r⟩⟩⟩ <;> by_cases h7:k=7 <;> by_cases h8:k=8 <;> simp [pathE,Ex.kind,Ex.str,Ex.args,h7,h8]
theorem errY_form {s:St} {b:Bool} (h:errY s b=0):formSB s b=true:=by
  obtain ⟨-,-,h3,-⟩:=errY_iff.1 h;simp at h3;exact h3.2
theorem st_func {s:St} {b:Bool} (h:errY s b=0) (hk:s.kind=2):s.names.length=1∧headK s.right=11:=by
  have h9:=errY_form h;unfold formSB at h9;simp [hk,cntB,fitN] at h9;exact ⟨by omega,by omega⟩
theorem list_one {α:Type} {l:List α} (h:l.length=1):∃ y,l=[y]:=by
  match l,h with
  | [y],_=>exact ⟨y,rfl⟩
theorem name_no_colon {s:ByteArray} (h:nameB s=true):∀ c ∈ bsOf s,c≠58:=by
  intro c hc;unfold nameB at h;unfold bsOf at hc;cases hl:s.data.toList with
  | nil=>rw [hl] at hc;cases hc
  | cons a r =>
    rw [hl] at h hc;simp only [Bool.and_eq_true] at h;have h9:=List.all_eq_true.1 h.2 c hc;rintro rfl
    revert h9;decide
theorem path_names:∀ (n:Nat) (x:Ex),x.wz≤n→∀ (t:Ttl) (p:Int) (l:List ByteArray),errT t p x=0→pathE x=some l→∀ e ∈ l,nameB e=true:=by
  intro n
  induction n with
  | zero=>intro x hx;have:=x.wz_eq;omega
  | succ n ih =>
    intro x hx t p l he hp;rw [path_eq2] at hp;by_cases h7:x.kind=7
    · rw [if_pos h7] at hp;cases hp;intro e h9;rw [List.mem_singleton.1 h9];exact errT_name he (.inl h7)
    · rw [if_neg h7] at hp;split at hp
      · rename_i a b hab;by_cases h8:x.kind=8
        · rw [if_pos h8] at hp;by_cases hb:b.kind=5∧nameB b.str=true
          · rw [if_pos hb] at hp;obtain ⟨l',hl',rfl⟩:=Option.map_eq_some_iff.1 hp;have ha:a ∈ x.args:=by rw [hab];simp
            intro e h9;rcases List.mem_append.1 h9 with h9|h9
            · exact ih a (by have:=Ex.argsW ha;omega) _ _ l' ((errT_iff.1 he).2.1 a ha) hl' e h9
            · rw [List.mem_singleton.1 h9];exact hb.2
          · rw [if_neg hb] at hp;cases hp
        · rw [if_neg h8] at hp;cases hp
      · cases hp
theorem dots_no_colon {l:List ByteArray} (h:∀ e ∈ l,nameB e=true):colonB (dots l)=false:=by
  unfold colonB;rw [List.any_eq_false];intro c hc;have e:bsOf (dots l)=Lib.join (l.map (·.data.toList)) [46]:=by simp [bsOf,dots]
  rw [e] at hc;rcases join_mem hc with h9|⟨q,hq,h9⟩
  · rw [List.mem_singleton.1 h9];decide
  · obtain ⟨s,hs,rfl⟩:=List.mem_map.1 hq;have:=name_no_colon (h s hs) c h9;simpa using this
theorem st_kinds {s:St} {b:Bool} (h:errY s b=0):1≤s.kind∧s.kind≤14:=by
  have h9:=errY_form h;apply Classical.byContradiction;intro hn;unfold formSB at h9;rw [if_neg (by omega),if_neg (by omega),if_neg (by omega),if_neg (by omega),if_neg (by omega),if_neg (by omega),if_neg (by omega),if_neg (by omega),if_neg (by omega),if_neg (by omega),if_neg (by omega),if_neg (by omega)] at h9;cases h9
theorem st_blocks1 {s:St} {b:Bool} (h:errY s b=0) (hk:s.kind=5∨s.kind=6∨s.kind=7∨s.kind=9∨s.kind=10):s.blocks.length=1:=by
  have h9:=errY_form h;unfold formSB at h9;rcases hk with hk|hk|hk|hk|hk <;> (simp [hk,cntB,fitN] at h9;omega)
theorem st_if {s:St} {b:Bool} (h:errY s b=0) (hk:s.kind=8):s.right.length≤s.blocks.length∧s.blocks.length≤s.right.length+1:=by
  have h9:=errY_form h;unfold formSB at h9;simp [hk,cntB,fitN] at h9;omega
def NmT (names:List ByteArray) (t:Ttl) (fs:List Fn):Prop:=∀ f ∈ fs,fitsB t f=okN names f
theorem ba_eq (a b:ByteArray):(a.toList==b.toList)=decide (a=b):=by
  rw [Bool.eq_iff_iff];simp [ba_toList]
theorem okN_nil (f:Fn):okN [⟨#[]⟩] f=decide ((⟨#[]⟩:ByteArray)=f.name):=by
  unfold okN okP;simp only [List.any_cons,List.any_nil,Bool.or_false,ba_eq];have e:colB ⟨#[]⟩=false:=rfl;rw [e];simp
theorem fits0 (f:Fn):fitsB ttl0 f=decide ((⟨#[]⟩:ByteArray)=f.name):=by
  unfold fitsB ttl0;simp only [List.any_cons,List.any_nil,Bool.or_false];have e:(ByteArray.empty).toList.isEmpty=true:=by rw [ByteArray.toList_eq];rfl
  rw [e];simp;rfl
theorem nmT0 (fs:List Fn):NmT [⟨#[]⟩] ttl0 fs:=fun f _=>by rw [fits0,okN_nil]
theorem self_eq (f:Fn):selfP f=decide (f.params.head?=some selfB):=by
  unfold selfP;cases hp:f.params with
  | nil=>rfl
  | cons p r =>
    simp only [List.head?_cons,Option.some.injEq];have:=ba_eq p selfB;have e:selfB.toList=[115,101,108,102]:=by rw [ByteArray.toList_eq];rfl
    rw [e] at this;exact this
theorem of_bsOf' {a b:ByteArray} (h:a.data.toList=b.data.toList):a=b:=by
  obtain ⟨⟨l⟩⟩:=a;obtain ⟨⟨m⟩⟩:=b;simp at h;rw [h]
theorem dots_one (s:ByteArray):dots [s]=s:=by
  apply of_bsOf';simp [dots,Lib.join_one]
theorem dots_snoc {l:List ByteArray} (h:l≠[]) (s:ByteArray):dots (l++[s])=dots l++⟨#[46]⟩++s:=by
  apply of_bsOf';show (Lib.join ((l++[s]).map (·.data.toList)) [46])=_;rw [List.map_append,List.map_cons,List.map_nil,join_snoc,if_neg (by simpa using h)];have e:∀ a b:ByteArray,(a++b).data.toList=a.data.toList++b.data.toList:=fun a b=>by simp
  rw [e,e];simp [dots]
theorem path_left:∀ (n:Nat) (x:Ex),x.wz≤n→(pathE x=none→(leftR x).2=false)∧(∀ l,pathE x=some l→l≠[]∧leftR x=(dots l,true)∧(x.kind=8→∃ a b l',x.args=[a,b]∧pathE a=some l'∧l=l'++[b.str])∧(x.kind≠8→l=[x.str])):=by
  intro n
  induction n with
  | zero=>intro x hx;have:=x.wz_eq;omega
  | succ n ih =>
    intro x hx;rw [path_eq2];by_cases h7:x.kind=7
    · rw [if_pos h7,leftR_7 h7];refine ⟨(fun h=>by cases h),fun l hl=>?_⟩;cases hl;exact ⟨by simp,by congr 1;exact (dots_one _).symm,fun h8=>by omega,fun _=>rfl⟩
    · rw [if_neg h7];by_cases h2:x.args.length=2
      · obtain ⟨a,b,hab⟩:∃ a b,x.args=[a,b]:=by
          match hq:x.args,h2 with
          | [a,b],_=>exact ⟨a,b,rfl⟩
        rw [leftR_two hab h7,hab];have hwa:a.wz≤n:=by have h1:=x.wz_eq;have h2:=b.wz_eq;rw [hab] at h1;simp only [Ex.wzs] at h1;omega
        obtain ⟨i1,i2⟩:=ih a hwa;by_cases h8:x.kind=8
        · by_cases hb:b.kind=5∧nameB b.str=true
          · simp only [if_pos h8,if_pos hb];rw [if_pos ⟨h8,hb.1,hb.2⟩];cases hp:pathE a with
            | none=>exact ⟨fun _=>i1 hp,fun l hl=>by cases hl⟩
            | some l' =>
              obtain ⟨j1,j2,-⟩:=i2 l' hp;refine ⟨(fun h=>by cases h),fun l hl=>?_⟩;cases hl;rw [j2];exact ⟨by simp,by rw [dots_snoc j1],fun _=>⟨a,b,l',rfl,hp,rfl⟩,fun h9=>absurd h8 h9⟩
          · simp only [if_pos h8,if_neg hb];rw [if_neg (fun h9=>hb ⟨h9.2.1,h9.2.2⟩)];exact ⟨fun _=>rfl,fun l hl=>by cases hl⟩
        · simp only [if_neg h8];rw [if_neg (fun h9=>h8 h9.1)];exact ⟨fun _=>rfl,fun l hl=>by cases hl⟩
      · rw [leftR_not h7 (.inr h2)];split
        · rename_i a b hab;rw [hab] at h2;exact absurd rfl h2
        · exact ⟨fun _=>rfl,fun l hl=>by cases hl⟩
theorem nmT_stat {s:St} {last:Bool} (hY:errY s last=0) (hL:∀ y ∈ s.left,errT (ttlS s) 0 y=0) (fs:List Fn):NmT (allowR s) (ttlS s) fs:=by
  intro f _;have hform:=errY_form hY;by_cases h2:s.kind=2
  · obtain ⟨hn,-⟩:=st_func hY h2;obtain ⟨nn,hnn⟩:=list_one hn
    have hnb:nameB nn.1=true:=by
      obtain ⟨-,-,-,-,h5,-⟩:=errY_iff.1 hY;cases hq:nameB nn.1
      · exfalso;exact h5 (List.any_eq_true.2 ⟨nn,by rw [hnn];simp,by rw [hq];rfl⟩)
      · rfl
    have hcol:colB nn.1=false:=by
      unfold colB;rw [List.any_eq_false];intro c hc;have:=name_no_colon hnb c hc;simpa using this
    unfold ttlS allowR;rw [if_pos ⟨h2,hn⟩,if_pos h2,hnn];unfold fitsB okN okP;simp only [List.headD_cons,List.any_cons,List.any_nil,Bool.or_false,ba_eq,hcol];have e:(ByteArray.empty).toList.isEmpty=true:=by rw [ByteArray.toList_eq];rfl
    rw [e];simp
  · by_cases h3:s.kind=3∧s.left.length=1∧s.right.length=1
    · obtain ⟨z,hz⟩:=list_one h3.2.1;have hzE:=hL z (by rw [hz];simp);obtain ⟨p1,p2⟩:=path_left _ z (Nat.le_refl _)
      have ht:ttlS s=match pathE z with
          | none=>ttl0
          | some l=>⟨[.empty,dots l],if 1<l.length then ⟨((dots l.dropLast).data.toList++58::(l.getLastD default).data.toList).toArray⟩ else .empty⟩:=by
        unfold ttlS;rw [if_neg (fun h=>h2 h.1),if_pos h3,hz];rfl
      have ha:allowR s=if (leftR z).2=true then (if z.kind=8 then [⟨#[]⟩,(leftR z).1,colonR z] else [⟨#[]⟩,(leftR z).1]) else [⟨#[]⟩]:=by
        unfold allowR;rw [if_neg h2,if_pos h3,hz];rfl
      rw [ht,ha];cases hp:pathE z with
      | none =>
        rw [p1 hp];exact nmT0 [f] f (by simp)
      | some l =>
        obtain ⟨q1,q2,q3,q4⟩:=p2 l hp;have hnames:=path_names _ z (Nat.le_refl _) _ _ l hzE hp;have hdc:colB (dots l)=false:=dots_no_colon hnames;rw [q2];simp only [if_true];by_cases h8:z.kind=8
        · obtain ⟨a,b,l',hab,hpa,hll⟩:=q3 h8;obtain ⟨-,r2⟩:=path_left _ a (Nat.le_refl _);obtain ⟨r3,r4,-⟩:=r2 l' hpa;have hl1:1<l.length:=by rw [hll];have:=List.length_pos_iff.2 r3;simp;omega
          have hcol:colonR z=⟨((dots l.dropLast).data.toList++58::(l.getLastD default).data.toList).toArray⟩:=by
            have e0:colonR z=(leftR a).1++⟨#[58]⟩++b.str:=by unfold colonR;rw [hab]
            rw [e0,r4,hll];simp only [List.dropLast_concat];apply of_bsOf';rw [show (⟨((dots l').data.toList++58::((l'++[b.str]).getLastD default).data.toList).toArray⟩:ByteArray).data.toList=(dots l').data.toList++58::b.str.data.toList from by simp];have e:∀ a b:ByteArray,(a++b).data.toList=a.data.toList++b.data.toList:=fun a b=>by simp
            rw [e,e];simp
          rw [if_pos h8,if_pos hl1,←hcol]
          have hcc:colB (colonR z)=true:=by
            rw [hcol];unfold colB;simp
          have hce:(colonR z).toList.isEmpty=false:=by
            rw [hcol,ByteArray.toList_eq];simp
          unfold fitsB okN okP;simp only [List.any_cons,List.any_nil,Bool.or_false,ba_eq,hdc,hcc,hce,self_eq];have e1:colB ⟨#[]⟩=false:=rfl;rw [e1];simp only [Bool.not_false,Bool.or_true,Bool.and_true,Bool.true_and,Bool.not_true,Bool.or_false,←Bool.or_assoc];rw [show decide (f.name=colonR z)=decide (colonR z=f.name) from by rw [decide_eq_decide];exact eq_comm];rfl
        · have hl1:¬ 1<l.length:=by rw [q4 h8];simp
          rw [if_neg h8,if_neg hl1];unfold fitsB okN okP;have e:(ByteArray.empty).toList.isEmpty=true:=by rw [ByteArray.toList_eq];rfl
          have e1:colB ⟨#[]⟩=false:=rfl;simp only [List.any_cons,List.any_nil,Bool.or_false,ba_eq,hdc,e,e1];simp;rfl
    · have ht:ttlS s=ttl0:=by
        unfold ttlS;rw [if_neg (fun h=>h2 h.1),if_neg h3]
      have ha:allowR s=[⟨#[]⟩]:=by unfold allowR;rw [if_neg h2,if_neg h3]
      rw [ht,ha];exact nmT0 [f] f (by simp)
theorem formB_par {x:Ex} {p q:Int} (h:(p==12)=(q==12)):formB x p=formB x q:=by
  unfold formB;rw [h]
theorem yTBa {P:Prop} (h:P:=by
  rw [if_pos k] at h
  first
    | exact hb _ _ _ _ h
    | exact hb _ _ _ _ (by simp only [Bool.and_eq_true] at h;exact h.1)):P:=h
theorem form_funcs {x:Ex} {p:Int} (h:formB x p=true) (hk:x.kind≠11):x.funcs=[]:=by
  have hb:∀ a b c n,hasB x a b c n=true→x.funcs=[]:=by
    intro a b c n h9;unfold hasB at h9;simp only [Bool.and_eq_true,Bool.or_eq_true,beq_iff_eq] at h9;rcases h9.2 with h9|h9
    · exact absurd h9 hk
    · exact List.length_eq_zero_iff.1 (by omega)
  unfold formB at h;by_cases k:x.kind=1∨x.kind=2∨x.kind=3∨x.kind=6
  · exact yTBa
  rw [if_neg k] at h;clear k;by_cases k:x.kind=4
  · exact yTBa
  rw [if_neg k] at h;clear k;by_cases k:x.kind=5∨x.kind=7
  · exact yTBa
  rw [if_neg k] at h;clear k;by_cases k:x.kind=8
  · exact yTBa
  rw [if_neg k] at h;clear k;by_cases k:x.kind=9
  · exact yTBa
  rw [if_neg k] at h;clear k;by_cases k:x.kind=10
  · exact yTBa
  rw [if_neg k] at h;clear k;by_cases k:x.kind=11
  · exact yTBa
  rw [if_neg k] at h;clear k;by_cases k:x.kind=12
  · exact yTBa
  rw [if_neg k] at h;clear k;by_cases k:x.kind=13
  · exact yTBa
  rw [if_neg k] at h;clear k;by_cases k:x.kind=14
  · exact yTBa
  rw [if_neg k] at h;clear k;by_cases k:x.kind=15
  · exact yTBa
  rw [if_neg k] at h;clear k;by_cases k:x.kind=16
  · exact yTBa
  rw [if_neg k] at h;clear k;by_cases k:x.kind=17∨x.kind=18
  · exact yTBa
  rw [if_neg k] at h;clear k;by_cases k:x.kind=19
  · exact yTBa
  rw [if_neg k] at h;clear k;cases h
theorem errX_t {x:Ex} {p:Int} (t t':Ttl) (hk:x.kind≠11):errX x p t=errX x p t':=by
  rw [errX_c,errX_c];split
  · rfl
  · split
    · rfl
    · split
      · rfl
      · rename_i h3
        have hf:formB x p=true:=by
          simp only [Bool.or_eq_true,not_or,Bool.not_eq_true',Bool.not_eq_true] at h3;cases hq:formB x p
          · rw [hq] at h3;simp at h3
          · rfl
        rw [form_funcs hf hk];rfl
theorem yTBb {P:Prop} (h:P:=by
  simp only [Bool.or_eq_true,decide_eq_true_eq,Bool.not_eq_true'] at h3;rcases h3 with h3|h3
  · rw [decide_eq_false (by omega)];rfl
  · rw [h3];simp):P:=h
theorem errX_ref (x:Ex) (p:Int) (t:Ttl) (names:List ByteArray) (hN:NmT names t x.funcs):errX x p t=if longB x=true then 3 else if formR x (p==12) names=false then 4 else if (c5 x || x.funcs.any f6)=true then 9 else 0:=by
  rw [errX_c];unfold longB;by_cases h1:mostX x.kind<x.str.size
  · rw [if_pos h1,decide_eq_true h1];rfl
  rw [if_neg h1,decide_eq_false h1,Bool.false_or];by_cases h2:x.funcs.any f2=true
  · rw [if_pos h2,if_pos h2]
  rw [if_neg h2,if_neg h2];have hfp:formB x (if (p==12)=true then 12 else 0)=formB x p:=formB_par (by cases hq:(p==12) <;> rfl);by_cases h3:(decide (x.line<0) || !formB x p)=true
  · rw [if_pos h3,if_pos];unfold formR;rw [hfp];exact yTBb
  rw [if_neg h3];simp only [Bool.or_eq_true,decide_eq_true_eq,Bool.not_eq_true',not_or] at h3;have hl:0≤x.line:=by omega
  have hf:formB x p=true:=by cases hq:formB x p;exact absurd hq h3.2;rfl
  have hfr:formR x (p==12) names = !x.funcs.any (f4 t):=by
    unfold formR;rw [hfp,hf,decide_eq_true hl];by_cases hk:x.kind=11
    · have e:(x.kind != 11)=false:=by rw [hk];rfl
      rw [e];simp only [Bool.true_and,Bool.false_or];unfold nlB;congr 1;rw [Bool.eq_iff_iff,List.any_eq_true,List.any_eq_true];constructor
      · rintro ⟨f,hf1,hf2⟩;refine ⟨f,hf1,?_⟩;unfold badN at hf2;unfold f4;rw [hN f hf1];simp only [Bool.or_eq_true] at hf2 ⊢;exact hf2.symm
      · rintro ⟨f,hf1,hf2⟩;refine ⟨f,hf1,?_⟩;unfold f4 at hf2;unfold badN;rw [hN f hf1] at hf2;simp only [Bool.or_eq_true] at hf2 ⊢;exact hf2.symm
    · have e:(x.kind != 11)=true:=by simp;exact hk
      rw [e,form_funcs hf hk];rfl
  rw [hfr];by_cases h4:x.funcs.any (f4 t)=true
  · rw [if_pos h4,h4];rfl
  · have h4':x.funcs.any (f4 t)=false:=by simpa using h4
    rw [if_neg h4,h4'];rw [if_neg (show ¬ ((!false)=false) by decide)];by_cases h5:c5 x=true
    · rw [if_pos h5,h5];rfl
    · have h5':c5 x=false:=by simpa using h5
      rw [if_neg h5,h5',Bool.false_or]
theorem errY_ref (s:St) (last:Bool):errY s last=if (decide (40<s.label.size) || s.names.any q2)=true then 3 else if formSR s last=false then 4 else if (c5s s || s.names.any q6)=true then 9 else 0:=by
  rw [errY_c];by_cases h1:40<s.label.size
  · rw [if_pos h1,decide_eq_true h1];rfl
  rw [if_neg h1,decide_eq_false h1,Bool.false_or];by_cases h2:s.names.any q2=true
  · rw [if_pos h2,if_pos h2]
  rw [if_neg h2,if_neg h2];unfold formSR;by_cases h3:(decide (s.line<0) || !formSB s last)=true
  · rw [if_pos h3,if_pos];exact yTBb
  rw [if_neg h3];simp only [Bool.or_eq_true,decide_eq_true_eq,Bool.not_eq_true',not_or] at h3;have hf:formSB s last=true:=by cases hq:formSB s last;exact absurd hq h3.2;rfl
  rw [decide_eq_true (by omega),hf];rw [if_neg (show ¬ ((true && true)=false) by decide)];by_cases h5:c5s s=true
  · rw [if_pos h5,h5];rfl
  · have h5':c5s s=false:=by simpa using h5
    rw [if_neg h5,h5',Bool.false_or]
theorem errT_t {x:Ex} {p:Int} (t t':Ttl) (hk:x.kind≠11):errT t p x=errT t' p x:=by
  rw [errT_eq,errT_eq,errX_t t t' hk]
set_option maxHeartbeats 8000000
set_option maxRecDepth 100000
structure NmAt (w:World) (names:List ByteArray) (na:Option Addr) (nc:Nat):Prop where
  cap:names.length≤nc
  len:names.length≤9223372036854775807
  rows:Rows AllB w 1 strR names na
theorem NmAt.below {w w':World} {names:List ByteArray} {na:Option Addr} {nc:Nat} (h:NmAt w names na nc) (hb:Below w.heap.size w w'):NmAt w' names na nc:=⟨h.cap,h.len,h.rows.keep (keep_below hb) (fun _ h=>h) (fun _ _ _ h=>h)⟩
theorem nm0_at (w:World) {b:Nat} (hb:b=w.heap.size):NmAt (w.alloc (.cells #[.string ⟨#[]⟩] 9)) [⟨#[]⟩] (some ⟨b,0,none⟩) 1:=by
  subst hb;obtain ⟨a,c,h1,h2,h3⟩:=rows_own (l:=[⟨#[]⟩]) (own_fresh w ⟨#[]⟩) (by intro s hs;rw [List.mem_singleton.1 hs];exact Nat.zero_le _);cases h1;exact ⟨Nat.le_refl _,by decide,h2⟩
def REx (n:Nat):Prop:=∀ (x:Ex) (d:EA) (inn:Bool) (names:List ByteArray) (na:Option Addr) (nc:Nat) (t:Ttl) (p:Int) (w:World),x.wz≤n→x.At AllB w d→inn=(p==12)→NmT names t x.funcs→NmAt w names na nc→Calls Tryz.prog 114 #[.agg #[.int .i64 x.kind,.int .i64 x.op,.int .i64 x.line,.int .i64 x.p,.int .i64 x.q,.string x.str,.slice d.a x.args.length d.c,.slice d.fa x.funcs.length d.fc],.bool inn,.slice na names.length nc] w fun e w'=>e=.returned (.int .i64 (errT t p x))∧Below w.heap.size w w'
def RExs (n:Nat):Prop:=∀ (l:List Ex) (a:Option Addr) (c:Nat) (inn:Bool) (names:List ByteArray) (na:Option Addr) (nc:Nat) (t:Ttl) (p:Int) (w:World),Ex.wzs l≤n→l.length≤c→l.length*104≤LM→Rows AllB w 8 (exR AllB w) l a→inn=(p==12)→(∀ x ∈ l,NmT names t x.funcs)→NmAt w names na nc→Calls Tryz.prog 113 #[.slice a l.length c,.bool inn,.slice na names.length nc] w fun e w'=>e=.returned (.int .i64 (firstE (l.map (errT t p))))∧Below w.heap.size w w'
def RBl (n:Nat):Prop:=∀ (l:List St) (a:Option Addr) (c:Nat) (w:World),St.wzs l≤n→l.length≤c→l.length*128≤LM→Rows AllB w 7 (stR AllB w) l a→Calls Tryz.prog 44 #[.slice a l.length c] w fun e w'=>e=.returned (.int .i64 (firstE (errSs l)))∧Below w.heap.size w w'
def RSt (n:Nat):Prop:=∀ (s:St) (d:SA) (last:Bool) (w:World),s.wz≤n→s.At AllB w d→Calls Tryz.prog 73 #[.agg #[.int .i64 s.kind,.int .i64 s.line,.slice d.na s.names.length d.nc,.slice d.la s.left.length d.lc,.slice d.ra s.right.length d.rc,.slice d.ba s.blocks.length d.bc,.string s.label],.bool last] w fun e w'=>e=.returned (.int .i64 (errS last s))∧Below w.heap.size w w'
theorem rows_belowS {w w':World} {l:List St} {a:Option Addr} (h:Rows AllB w 7 (stR AllB w) l a) (hb:Below w.heap.size w w'):Rows AllB w' 7 (stR AllB w') l a:=h.keep (keep_below hb) (fun _ h=>h) (fun x cs _ h=>by obtain ⟨d9,q1,q2⟩:=h;exact ⟨d9,q1,q2.keep (keep_below hb) (fun _ h=>h)⟩)
theorem exs_of {n:Nat} (hX:REx n):RExs n:=by
  intro l a c inn names na nc t p w hwz hlc hlm hrow hinn hN hnm;have hlen:l.length≤9223372036854775807:=by unfold LM at hlm;omega
  have HROW:=hI hrow;have HN:=hI hN;have HNM:=hI hnm;have HWZ:=hI hwz;have HINN:=hI hinn;obtain ⟨b,hb⟩:∃ b,b=firstE (l.map (errT t p)):=⟨_,rfl⟩
  rw [←hb];have HB:=hI hb;clear hrow hN hnm hwz hinn hb
  go_enter Tryz.func113,Tryz.ntmps113
  go_wp2_with fail
  go_loopg [7,8] l.length (fun gk i u wr=>∃ k:Nat,gk+k=l.length∧i=.int .i64 k∧Below w.heap.size w wr∧NoErr (errT t p) l k)
  case atStart=>exact ⟨0,by omega,rfl,Below.refl _ _,fun j x hj=>absurd hj (by omega)⟩
  case round =>
  obtain ⟨k,hk,rfl,hbr,hno⟩:=hrel;have HBR:=hI hbr;have HNO:=hI hno;have HK:=hI hk;clear hno;by_cases hlt:k<l.length
  · obtain ⟨x,hx⟩:∃ x,l[k]?=some x:=⟨_,List.getElem?_eq_getElem hlt⟩
    have HX:=hI hx;obtain ⟨ab,ao,h1,h2⟩:=HROW.out;obtain ⟨hda,-,hlb⟩:=h1 (by intro h0;rw [h0] at hlt;simp at hlt);subst hda;obtain ⟨cs,hr,dx,rfl,hax⟩:=h2 k x hx;have hr':=(keep_below hbr:Keep AllB w wr).range trivial hlb hr;have c0:=hr' 0 _ rfl;have c1:=hr' 1 _ rfl;have c2:=hr' 2 _ rfl;have c3:=hr' 3 _ rfl;have c4:=hr' 4 _ rfl;have c5:=hr' 5 _ rfl;have c6:=hr' 6 _ rfl;have c7:=hr' 7 _ rfl;simp only [Nat.add_zero] at c0;have hxm:=List.mem_of_getElem? hx;have HCX:=hI (hX x dx inn names na nc t p wr (by have h8:=Ex.wz_mem hxm;have h9:=HWZ.out;omega) (hax.keep (keep_below hbr) (fun _ h=>h)) HINN.out (HN.out x hxm) (HNM.out.below hbr));obtain ⟨v,hv⟩:∃ v,v=errT t p x:=⟨_,rfl⟩
    rw [←hv] at HCX;have HV:=hI hv;clear h1 h2 hr hr' hax hx hxm hk hbr hv;by_cases hv0:v=0
    · have t0:(v != 0)=false:=by rw [hv0];rfl
      have HV0:=hI hv0;clear hv0
      go_wp2_with (go_at_call 114;(with_reducible refine HCX.out.mono ?_);rintro e w2 ⟨rfl,hb2⟩;have HB2:=hI hb2;clear hb2)
      go_roundg (gk - 1)
      case rel=>exact ⟨k+1,by have:=HK.out;omega,by go_num,thru HB2.out HBR.out,HNO.out.succ HX.out (by rw [←HV.out];exact HV0.out)⟩
      case measure=>have:=HK.out;omega
    · have t0:(v != 0)=true:=by simp;exact hv0
      have e:b=v:=by rw [HB.out,firstE_at HNO.out HX.out (by rw [←HV.out];exact hv0),HV.out]
      subst e;clear HB
      go_wp2_with (go_at_call 114;(with_reducible refine HCX.out.mono ?_);rintro e w2 ⟨rfl,hb2⟩;have HB2:=hI hb2;clear hb2)
      go_ret;exact ⟨rfl,thru HB2.out HBR.out⟩
  · have hke:k=l.length:=by omega
    have e:b=0:=by rw [HB.out];exact firstE_none (by rw [←hke];exact HNO.out)
    subst e;clear HB hke hk
    go_wp2_with fail
    go_ret;exact ⟨rfl,HBR.out⟩
theorem bl_of {n:Nat} (hS:RSt n):RBl n:=by
  intro l a c w hwz hlc hlm hrow;have hlen:l.length≤9223372036854775807:=by unfold LM at hlm;omega
  have HROW:=hI hrow;have HWZ:=hI hwz;obtain ⟨b,hb⟩:∃ b,b=firstE (errSs l):=⟨_,rfl⟩
  rw [←hb];have HB:=hI hb;clear hrow hwz hb
  go_enter Tryz.func44,Tryz.ntmps44
  go_wp2_with fail
  go_loopg [3,4] l.length (fun gk i u wr=>∃ k:Nat,gk+k=l.length∧i=.int .i64 k∧Below w.heap.size w wr∧∀ j s,j<k→l[j]?=some s→errS (decide (j+1=l.length)) s=0)
  case atStart=>exact ⟨0,by omega,rfl,Below.refl _ _,fun j x hj=>absurd hj (by omega)⟩
  case round =>
  obtain ⟨k,hk,rfl,hbr,hno⟩:=hrel;have HBR:=hI hbr;have HNO:=hI hno;have HK:=hI hk;clear hno;by_cases hlt:k<l.length
  · obtain ⟨x,hx⟩:∃ x,l[k]?=some x:=⟨_,List.getElem?_eq_getElem hlt⟩
    have HX:=hI hx;obtain ⟨ab,ao,h1,h2⟩:=HROW.out;obtain ⟨hda,-,hlb⟩:=h1 (by intro h0;rw [h0] at hlt;simp at hlt);subst hda;obtain ⟨cs,hr,dx,rfl,hax⟩:=h2 k x hx;have hr':=(keep_below hbr:Keep AllB w wr).range trivial hlb hr;have c0:=hr' 0 _ rfl;have c1:=hr' 1 _ rfl;have c2:=hr' 2 _ rfl;have c3:=hr' 3 _ rfl;have c4:=hr' 4 _ rfl;have c5:=hr' 5 _ rfl;have c6:=hr' 6 _ rfl;simp only [Nat.add_zero] at c0;have hxm:=List.mem_of_getElem? hx;obtain ⟨la,hla⟩:∃ v,v=decide (k+1=l.length):=⟨_,rfl⟩
    have hlast:((k:Int)==(l.length:Int) - 1)=la:=by
      rw [hla,Bool.eq_iff_iff];simp;omega
    have HCX:=hI (hS x dx la wr (by have h8:=St.wz_mem hxm;have h9:=HWZ.out;omega) (hax.keep (keep_below hbr) (fun _ h=>h)));obtain ⟨v,hv⟩:∃ v,v=errS la x:=⟨_,rfl⟩
    rw [←hv] at HCX;have HV:=hI hv;have HLA:=hI hla;clear h1 h2 hr hr' hax hx hxm hk hbr hv hla;by_cases hv0:v=0
    · have t0:(v != 0)=false:=by rw [hv0];rfl
      have HV0:=hI hv0;clear hv0
      go_wp2_with (go_at_call 73;(with_reducible refine HCX.out.mono ?_);rintro e w2 ⟨rfl,hb2⟩;have HB2:=hI hb2;clear hb2)
      go_roundg (gk - 1)
      case rel =>
        refine ⟨k+1,by have:=HK.out;omega,by go_num,thru HB2.out HBR.out,fun j s hj hs=>?_⟩;by_cases hjk:j=k
        · subst hjk;rw [HX.out] at hs;cases hs;rw [←HLA.out,←HV.out];exact HV0.out
        · exact HNO.out j s (by omega) hs
      case measure=>have:=HK.out;omega
    · have t0:(v != 0)=true:=by simp;exact hv0
      have e:b=v:=by rw [HB.out,errSs_at HNO.out HX.out (by rw [←HLA.out,←HV.out];exact hv0),←HLA.out,HV.out]
      subst e;clear HB
      go_wp2_with (go_at_call 73;(with_reducible refine HCX.out.mono ?_);rintro e w2 ⟨rfl,hb2⟩;have HB2:=hI hb2;clear hb2)
      go_ret;exact ⟨rfl,thru HB2.out HBR.out⟩
  · have hke:k=l.length:=by omega
    have e:b=0:=by rw [HB.out];exact errSs_none (fun j s hj hs=>HNO.out j s (by omega) hs)
    subst e;clear HB hke hk
    go_wp2_with fail
    go_ret;exact ⟨rfl,HBR.out⟩
theorem firstE_more {l:List Int} {k:Nat} (h:firstE (l.take k)≠0):firstE l=firstE (l.take k):=by
  conv=>lhs;rw [←List.take_append_drop k l]
  rw [firstE_append];unfold alt;rw [if_neg h]
theorem firstE_next {α:Type} {g:α→Int} {l:List α} {k:Nat} {x:α} (h0:firstE ((l.take k).map g)=0) (hx:l[k]?=some x):firstE ((l.take (k+1)).map g)=g x:=by
  rw [List.take_add_one,hx,List.map_append,firstE_append];unfold alt;rw [if_pos h0];simp only [Option.toList_some,List.map_cons,List.map_nil,firstE];unfold alt;split
  · rename_i h9;exact h9.symm
  · rfl
theorem ex_step {n:Nat} (hXs:RExs n) (hB:RBl n):REx (n+1):=by
  intro x d inn names na nc t p w hwz hat hinn hN hnm;have hat':=Ex.at_iff.1 hat;have HA:=hI hat;have HNM:=hI hnm;have hfl:x.funcs.length≤9223372036854775807:=by have:=hat'.2.1.2.2.2.2;unfold LM at this;omega
  have hfc:x.funcs.length≤d.fc:=hat'.2.1.2.2.1;have hac:x.args.length≤d.c:=hat'.2.1.1;have ham:x.args.length*104≤LM:=hat'.2.1.2.1.2;have hwa:Ex.wzs x.args≤n:=by have:=x.wz_eq;omega
  have HWF:=hI (show ∀ f ∈ x.funcs,St.wzs f.body≤n by intro f hf;have h1:=Ex.bodyW hf;omega);have hEX:=errX_ref x p t names hN;rw [←hinn] at hEX;obtain ⟨b,hb⟩:∃ b,b=errT t p x:=⟨_,rfl⟩
  rw [←hb];rw [errT_eq,hEX] at hb;have HB:=hI hb;have HLG:=hI (show ∀ w',Below w.heap.size w w'→Calls Tryz.prog 160 #[(eV x d)] w' fun e w''=>e=.returned (.bool (longB x))∧Below w'.heap.size w' w'' from fun w' hb=>rlong_any x d w' (HA.out.keep (keep_below hb) (fun _ h=>h)));have HFM:=hI (show ∀ w',Below w.heap.size w w'→Calls Tryz.prog 161 #[(eV x d),.bool inn,.slice na names.length nc] w' fun e w''=>e=.returned (.bool (formR x inn names))∧Below w'.heap.size w' w'' from fun w' hb=>rform_any x d inn names na nc w' (HA.out.keep (keep_below hb) (fun _ h=>h)) HNM.out.cap HNM.out.len (HNM.out.below hb).rows);have HNA:=hI (show ∀ w',Below w.heap.size w w'→Calls Tryz.prog 162 #[(eV x d)] w' fun e w''=>e=.returned (.bool (!(c5 x || x.funcs.any f6)))∧Below w'.heap.size w' w'' from fun w' hb=>rnamed_any x d w' (HA.out.keep (keep_below hb) (fun _ h=>h)));obtain ⟨w1,hw1⟩:=bxE x d w;have HB1:=hI (show Below w.heap.size w w1 by rw [hw1];exact bw);have HBX:=hI (nwE x d hw1);have kb1:=fun i=>box_cell0 HBX.out i;have kz1:=new_lt HBX.out;have HW1:=hI hw1;clear hwz hat hinn hN hnm hat' hEX hb hw1;cases hlg:longB x
  case true =>
    have e:b=3:=by rw [HB.out,if_pos hlg];rfl
    subst e;rw [hlg] at HLG;clear HB hlg
    go_enter Tryz.func114,Tryz.ntmps114
    go_upto_region 1 with fail
    rw [←HW1.out]
    go_wp2_with (go_at_call 160;(with_reducible refine (HLG.out _ HB1.out).mono ?_);rintro e w2 ⟨rfl,hb2⟩)
    go_ret;exact ⟨rfl,thru hb2 HB1.out⟩
  rw [hlg] at HLG HB;rw [if_neg Bool.false_ne_true] at HB;clear hlg;cases hfm:formR x inn names
  case false =>
    have e:b=4:=by rw [HB.out,if_pos hfm];rfl
    subst e;rw [hfm] at HFM;clear HB hfm
    go_enter Tryz.func114,Tryz.ntmps114
    go_upto_region 1 with fail
    rw [←HW1.out]
    go_wp2_with (first
      | (go_at_call 160;(with_reducible refine (HLG.out _ HB1.out).mono ?_);rintro e w2 ⟨rfl,hb2⟩;have HB2:=hI (thru hb2 HB1.out);have hx2:=new_below hb2 HBX.out;have HX2:=hI hx2;have kb2:=fun i=>box_cell0 hx2 i;have kz2:=new_lt hx2;clear hb2 hx2)
      | (go_at_call 161;(with_reducible refine (HFM.out _ HB2.out).mono ?_);rintro e w3 ⟨rfl,hb3⟩))
    go_ret;exact ⟨rfl,thru hb3 HB2.out⟩
  rw [hfm] at HFM HB;rw [if_neg (show ¬ (true=false) by decide)] at HB;clear hfm;cases hnm:(c5 x || x.funcs.any f6)
  case true =>
    have e:b=9:=by rw [HB.out,if_pos hnm];rfl
    subst e;rw [hnm] at HNA;clear HB hnm
    go_enter Tryz.func114,Tryz.ntmps114
    go_upto_region 1 with fail
    rw [←HW1.out]
    go_wp2_with (first
      | (go_at_call 160;(with_reducible refine (HLG.out _ HB1.out).mono ?_);rintro e w2 ⟨rfl,hb2⟩;have HB2:=hI (thru hb2 HB1.out);have hx2:=new_below hb2 HBX.out;have HX2:=hI hx2;have kb2:=fun i=>box_cell0 hx2 i;have kz2:=new_lt hx2;clear hb2 hx2)
      | (go_at_call 161;(with_reducible refine (HFM.out _ HB2.out).mono ?_);rintro e w3 ⟨rfl,hb3⟩;have HB3:=hI (thru hb3 HB2.out);have hx3:=new_below hb3 HX2.out;have HX3:=hI hx3;have kb3:=fun i=>box_cell0 hx3 i;have kz3:=new_lt hx3;clear hb3 hx3)
      | (go_at_call 162;(with_reducible refine (HNA.out _ HB3.out).mono ?_);rintro e w4 ⟨rfl,hb4⟩))
    go_ret;exact ⟨rfl,thru hb4 HB3.out⟩
  rw [hnm] at HNA HB;rw [if_neg Bool.false_ne_true] at HB;clear hnm;obtain ⟨f0,hf0⟩:∃ v,v=firstE (x.args.map (errT ttl0 x.kind)):=⟨_,rfl⟩
  have HF0:=hI hf0;have HXS:=hI (show ∀ w' b',Below w.heap.size w w'→NmAt w' [⟨#[]⟩] (some ⟨b',0,none⟩) 1→Calls Tryz.prog 113 #[.slice d.a x.args.length d.c,.bool (x.kind==12),.slice (some ⟨b',0,none⟩) 1 1] w' fun e w''=>e=.returned (.int .i64 f0)∧Below w'.heap.size w' w'' from fun w' b' hb hq=>by rw [hf0];exact hXs x.args d.a d.c (x.kind==12) [⟨#[]⟩] (some ⟨b',0,none⟩) 1 ttl0 x.kind w' hwa hac ham (Ex.at_iff.1 (HA.out.keep (keep_below hb) (fun _ h=>h))).2.2.1 rfl (fun y _=>nmT0 _) hq);have hbb:b=alt f0 (firstE (x.funcs.map errF)):=by rw [HB.out,←hf0];unfold alt;rfl
  have HBB:=hI hbb;clear HB hbb hf0
  go_enter Tryz.func114,Tryz.ntmps114
  go_upto_region 1 with fail
  rw [←HW1.out]
  go_wp2_with (first
    | (go_at_call 160;(with_reducible refine (HLG.out _ HB1.out).mono ?_);rintro e w2 ⟨rfl,hb2⟩;have HB2:=hI (thru hb2 HB1.out);have hx2:=new_below hb2 HBX.out;have HX2:=hI hx2;have kb2:=fun i=>box_cell0 hx2 i;have kz2:=new_lt hx2;clear hb2 hx2)
    | (go_at_call 161;(with_reducible refine (HFM.out _ HB2.out).mono ?_);rintro e w3 ⟨rfl,hb3⟩;have HB3:=hI (thru hb3 HB2.out);have hx3:=new_below hb3 HX2.out;have HX3:=hI hx3;have kb3:=fun i=>box_cell0 hx3 i;have kz3:=new_lt hx3;clear hb3 hx3)
    | (go_at_call 162;(with_reducible refine (HNA.out _ HB3.out).mono ?_);rintro e w4 ⟨rfl,hb4⟩;have HB4:=hI (thru hb4 HB3.out);have hx4:=new_below hb4 HX3.out;have HX4:=hI hx4;have kb4:=fun i=>box_cell0 hx4 i;have kz4:=new_lt hx4;clear hb4 hx4)
    | (go_at_call 113;(with_reducible refine (HXS.out _ _ (balloc HB4.out _) (nm0_at _ rfl)).mono ?_);rintro e w5 ⟨rfl,hb5⟩;have HB5:=hI (thru hb5 (balloc HB4.out _));have hx5:=new_below hb5 (new_alloc HX4.out _);have HX5:=hI hx5;clear hb5 hx5))
  go_loopg [7,8] x.funcs.length (fun gk v i wr=>∃ k:Nat,gk+k=x.funcs.length∧i=.int .i64 k∧v=.int .i64 (alt f0 (firstE ((x.funcs.take k).map errF)))∧Below w.heap.size w wr∧wr.heap[w.heap.size]?=some (.cells #[.int .i64 x.kind,.int .i64 x.op,.int .i64 x.line,.int .i64 x.p,.int .i64 x.q,.string x.str,.slice d.a x.args.length d.c,.slice d.fa x.funcs.length d.fc] 28))
  case atStart=>exact ⟨0,by omega,rfl,by simp only [List.take_zero,List.map_nil,firstE];congr 1;unfold alt;split <;> simp_all,HB5.out,HX5.out⟩
  case round =>
  obtain ⟨k,hk,rfl,rfl,hbr,hxr⟩:=hrel;have HBR:=hI hbr;have HXR:=hI hxr;have HK:=hI hk;have kr:=fun i=>box_cell0 hxr i;have kzr:=new_lt hxr;obtain ⟨v,hv⟩:∃ v,v=alt f0 (firstE ((x.funcs.take k).map errF)):=⟨_,rfl⟩
  rw [←hv];have HV:=hI hv;clear hxr hv;by_cases hlt:k<x.funcs.length
  · by_cases hv0:v=0
    · have t0:(v==0)=true:=by rw [hv0];rfl
      obtain ⟨y,hy⟩:∃ y,x.funcs[k]?=some y:=⟨_,List.getElem?_eq_getElem hlt⟩
      have HY:=hI hy;obtain ⟨b9,off,dy,ha,hlb,hr,hay⟩:=fn_row HA.out hy;have hr':=(keep_below hbr:Keep AllB w wr).range trivial hlb hr;have c3:=hr' 3 _ rfl;have HCB:=hI (hB y.body dy.ba dy.bc wr (HWF.out y (List.mem_of_getElem? hy)) (Fn.at_iff.1 hay).2.1.2.2.1 (Fn.at_iff.1 hay).2.1.2.2.2.2 (rows_belowS (Fn.at_iff.1 hay).2.2.2 hbr));have hz:=alt_zero.1 (HV.out.symm.trans hv0)
      have HN2:=hI (show alt f0 (firstE ((x.funcs.take (k+1)).map errF))=firstE (errSs y.body) by
        rw [firstE_next hz.2 hy,errF_eq];unfold alt;rw [if_pos hz.1])
      obtain ⟨u,hu⟩:∃ u,u=firstE (errSs y.body):=⟨_,rfl⟩
      rw [←hu] at HCB HN2;obtain ⟨a0,c00,fa0,fc0⟩:=d;simp only at ha hfc;subst ha;clear hr hr' hay hy hk hbr hz hv0 hu
      go_wp2_with (go_at_call 44;(with_reducible refine HCB.out.mono ?_);rintro e w6 ⟨rfl,hb6⟩;have HB6:=hI hb6;clear hb6)
      go_roundg (gk - 1)
      case rel=>exact ⟨k+1,by have:=HK.out;omega,by go_num,by rw [HN2.out],thru HB6.out HBR.out,new_below HB6.out HXR.out⟩
      case measure=>have:=HK.out;omega
    · have t0:(v==0)=false:=by simp;exact hv0
      have e:b=v:=by
        rw [HBB.out,HV.out];have h9:=HV.out;unfold alt at h9 ⊢;split
        · rename_i hf;rw [if_pos hf] at h9;rw [List.map_take] at h9 ⊢;exact firstE_more (by rw [←h9];exact hv0)
        · rfl
      subst e;clear HBB HV hk
      go_wp2_with fail
      go_ret;exact ⟨rfl,HBR.out⟩
  · have hke:k=x.funcs.length:=by omega
    have e:b=v:=by rw [HBB.out,HV.out,hke,List.take_length]
    subst e;clear HBB HV hk hke
    go_wp2_with fail
    go_ret;exact ⟨rfl,HBR.out⟩
end Go.Proofs.YtdekaghipjpgpaaGreatDoor
