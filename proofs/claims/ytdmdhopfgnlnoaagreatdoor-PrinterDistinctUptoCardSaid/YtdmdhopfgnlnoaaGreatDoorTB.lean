/- The reference's errors and the tree's: the plain law. -/
import Derived.Test.YtdmdhopfgnlnoaaGreatDoorT7
import Derived.Test.YtdmdhopfgnlnoaaGreatDoorTZ
import Derived.Test.YtdmdhopfgnlnoaaGreatDoorT5
import Derived.Test.YtdmdhopfgnlnoaaGreatDoorT6
import Derived.Test.YtdmdhopfgnlnoaaGreatDoorCN
namespace Go.Proofs.YtdmdhopfgnlnoaaGreatDoor
open Go.RowKit
set_option linter.unusedVariables false
set_option linter.unusedSimpArgs false
def NmT (names:List ByteArray) (t:Ttl) (fs:List Fn):Prop:=∀ f ∈ fs,zn t f=okN names f
theorem ba_eq (a b:ByteArray):(a.toList==b.toList)=decide (a=b):=by
  rw [Bool.eq_iff_iff];simp [ba_toList]
theorem okN_nil (f:Fn):okN [⟨#[]⟩] f=decide ((⟨#[]⟩:ByteArray)=f.name):=by
  unfold okN okP;simp only [List.any_cons,List.any_nil,Bool.or_false,ba_eq];have e:vF ⟨#[]⟩=false:=rfl;rw [e];simp
theorem fits0 (f:Fn):zn ttl0 f=decide ((⟨#[]⟩:ByteArray)=f.name):=by
  unfold zn ttl0;simp only [List.any_cons,List.any_nil,Bool.or_false];have e:(ByteArray.empty).toList.isEmpty=true:=by rw [ByteArray.toList_eq];rfl
  rw [e];simp;rfl
theorem nmT0 (fs:List Fn):NmT [⟨#[]⟩] ttl0 fs:=fun f _=>by rw [fits0,okN_nil]
theorem self_eq (f:Fn):vl f=decide (f.params.head?=some qf):=by
  unfold vl;cases hp:f.params with
  | nil=>rfl
  | cons p r =>
    simp only [List.head?_cons,Option.some.injEq];have:=ba_eq p qf;have e:qf.toList=[115,101,108,102]:=by rw [ByteArray.toList_eq];rfl
    rw [e] at this;exact this
theorem of_bsOf' {a b:ByteArray} (h:a.data.toList=b.data.toList):a=b:=by
  obtain ⟨⟨l⟩⟩:=a;obtain ⟨⟨m⟩⟩:=b;simp at h;rw [h]
theorem dots_one (s:ByteArray):zu [s]=s:=by
  apply of_bsOf';simp [zu,Lib.join_one]
theorem dots_snoc {l:List ByteArray} (h:l≠[]) (s:ByteArray):zu (l++[s])=zu l++⟨#[46]⟩++s:=by
  apply of_bsOf';show (Lib.join ((l++[s]).map (·.data.toList)) [46])=_;rw [List.map_append,List.map_cons,List.map_nil,Ja,if_neg (by simpa using h)];have e:∀ a b:ByteArray,(a++b).data.toList=a.data.toList++b.data.toList:=fun a b=>by simp
  rw [e,e];simp [zu]
theorem Ki:∀ (n:Nat) (x:Ex),x.wz≤n→(Qr x=none→(ZN x).2=false)∧(∀ l,Qr x=some l→l≠[]∧ZN x=(zu l,true)∧(x.kind=8→∃ a b l',x.args=[a,b]∧Qr a=some l'∧l=l'++[b.str])∧(x.kind≠8→l=[x.str])):=by
  intro n
  induction n with
  | zero=>intro x hx;have:=x.wz_eq;omega
  | succ n ih =>
    intro x hx;rw [yS];by_cases h7:x.kind=7
    · rw [if_pos h7,leftR_7 h7];refine ⟨(fun h=>by cases h),fun l hl=>?_⟩;cases hl;exact ⟨by simp,by congr 1;exact (dots_one _).symm,fun h8=>by omega,fun _=>rfl⟩
    · rw [if_neg h7];by_cases h2:x.args.length=2
      · obtain ⟨a,b,hab⟩:∃ a b,x.args=[a,b]:=by
          match hq:x.args,h2 with
          | [a,b],_=>exact ⟨a,b,rfl⟩
        rw [vZ hab h7,hab];have hwa:a.wz≤n:=by have h1:=x.wz_eq;have h2:=b.wz_eq;rw [hab] at h1;simp only [Ex.wzs] at h1;omega
        obtain ⟨i1,i2⟩:=ih a hwa;by_cases h8:x.kind=8
        · by_cases hb:b.kind=5∧ZG b.str=true
          · simp only [if_pos h8,if_pos hb];rw [if_pos ⟨h8,hb.1,hb.2⟩];cases hp:Qr a with
            | none=>exact ⟨fun _=>i1 hp,fun l hl=>by cases hl⟩
            | some l' =>
              obtain ⟨j1,j2,-⟩:=i2 l' hp;refine ⟨(fun h=>by cases h),fun l hl=>?_⟩;cases hl;rw [j2];exact ⟨by simp,by rw [dots_snoc j1],fun _=>⟨a,b,l',rfl,hp,rfl⟩,fun h9=>absurd h8 h9⟩
          · simp only [if_pos h8,if_neg hb];rw [if_neg (fun h9=>hb ⟨h9.2.1,h9.2.2⟩)];exact ⟨fun _=>rfl,fun l hl=>by cases hl⟩
        · simp only [if_neg h8];rw [if_neg (fun h9=>h8 h9.1)];exact ⟨fun _=>rfl,fun l hl=>by cases hl⟩
      · rw [zD h7 (.inr h2)];split
        · rename_i a b hab;rw [hab] at h2;exact absurd rfl h2
        · exact ⟨fun _=>rfl,fun l hl=>by cases hl⟩
theorem nmT_stat {s:St} {last:Bool} (hY:VI s last=0) (hL:∀ y ∈ s.left,ZH (ZP s) 0 y=0) (fs:List Fn):NmT (Qp s) (ZP s) fs:=by
  intro f _;have hform:=QD hY;by_cases h2:s.kind=2
  · obtain ⟨hn,-⟩:=zL hY h2;obtain ⟨nn,hnn⟩:=Zy hn
    have hnb:ZG nn.1=true:=by
      obtain ⟨-,-,-,-,h5,-⟩:=vz.1 hY;cases hq:ZG nn.1
      · exfalso;exact h5 (List.any_eq_true.2 ⟨nn,by rw [hnn];simp,by rw [hq];rfl⟩)
      · rfl
    have hcol:vF nn.1=false:=by
      unfold vF;rw [List.any_eq_false];intro c hc;have:=qL hnb c hc;simpa using this
    unfold ZP Qp;rw [if_pos ⟨h2,hn⟩,if_pos h2,hnn];unfold zn okN okP;simp only [List.headD_cons,List.any_cons,List.any_nil,Bool.or_false,ba_eq,hcol];have e:(ByteArray.empty).toList.isEmpty=true:=by rw [ByteArray.toList_eq];rfl
    rw [e];simp
  · by_cases h3:s.kind=3∧s.left.length=1∧s.right.length=1
    · obtain ⟨z,hz⟩:=Zy h3.2.1;have hzE:=hL z (by rw [hz];simp);obtain ⟨p1,p2⟩:=Ki _ z (Nat.le_refl _)
      have ht:ZP s=match Qr z with
          | none=>ttl0
          | some l=>⟨[.empty,zu l],if 1<l.length then ⟨((zu l.dropLast).data.toList++58::(l.getLastD default).data.toList).toArray⟩ else .empty⟩:=by
        unfold ZP;rw [if_neg (fun h=>h2 h.1),if_pos h3,hz];rfl
      have ha:Qp s=if (ZN z).2=true then (if z.kind=8 then [⟨#[]⟩,(ZN z).1,QZ z] else [⟨#[]⟩,(ZN z).1]) else [⟨#[]⟩]:=by
        unfold Qp;rw [if_neg h2,if_pos h3,hz];rfl
      rw [ht,ha];cases hp:Qr z with
      | none =>
        rw [p1 hp];exact nmT0 [f] f (by simp)
      | some l =>
        obtain ⟨q1,q2,q3,q4⟩:=p2 l hp;have hnames:=Yf _ z (Nat.le_refl _) _ _ l hzE hp;have hdc:vF (zu l)=false:=qM hnames;rw [q2];simp only [if_true];by_cases h8:z.kind=8
        · obtain ⟨a,b,l',hab,hpa,hll⟩:=q3 h8;obtain ⟨-,r2⟩:=Ki _ a (Nat.le_refl _);obtain ⟨r3,r4,-⟩:=r2 l' hpa;have hl1:1<l.length:=by rw [hll];have:=List.length_pos_iff.2 r3;simp;omega
          have hcol:QZ z=⟨((zu l.dropLast).data.toList++58::(l.getLastD default).data.toList).toArray⟩:=by
            have e0:QZ z=(ZN a).1++⟨#[58]⟩++b.str:=by unfold QZ;rw [hab]
            rw [e0,r4,hll];simp only [List.dropLast_concat];apply of_bsOf';rw [show (⟨((zu l').data.toList++58::((l'++[b.str]).getLastD default).data.toList).toArray⟩:ByteArray).data.toList=(zu l').data.toList++58::b.str.data.toList from by simp];have e:∀ a b:ByteArray,(a++b).data.toList=a.data.toList++b.data.toList:=fun a b=>by simp
            rw [e,e];simp
          rw [if_pos h8,if_pos hl1,←hcol]
          have hcc:vF (QZ z)=true:=by
            rw [hcol];unfold vF;simp
          have hce:(QZ z).toList.isEmpty=false:=by
            rw [hcol,ByteArray.toList_eq];simp
          unfold zn okN okP;simp only [List.any_cons,List.any_nil,Bool.or_false,ba_eq,hdc,hcc,hce,self_eq];have e1:vF ⟨#[]⟩=false:=rfl;rw [e1];simp only [Bool.not_false,Bool.or_true,Bool.and_true,Bool.true_and,Bool.not_true,Bool.or_false,←Bool.or_assoc];rw [show decide (f.name=QZ z)=decide (QZ z=f.name) from by rw [decide_eq_decide];exact eq_comm];rfl
        · have hl1:¬ 1<l.length:=by rw [q4 h8];simp
          rw [if_neg h8,if_neg hl1];unfold zn okN okP;have e:(ByteArray.empty).toList.isEmpty=true:=by rw [ByteArray.toList_eq];rfl
          have e1:vF ⟨#[]⟩=false:=rfl;simp only [List.any_cons,List.any_nil,Bool.or_false,ba_eq,hdc,e,e1];simp;rfl
    · have ht:ZP s=ttl0:=by
        unfold ZP;rw [if_neg (fun h=>h2 h.1),if_neg h3]
      have ha:Qp s=[⟨#[]⟩]:=by unfold Qp;rw [if_neg h2,if_neg h3]
      rw [ht,ha];exact nmT0 [f] f (by simp)
theorem formB_par {x:Ex} {p q:Int} (h:(p==12)=(q==12)):Zn x p=Zn x q:=by
  unfold Zn;rw [h]
theorem Xx {P:Prop} (h:P:=by
  rw [if_pos k] at h
  first
    | exact hb _ _ _ _ h
    | exact hb _ _ _ _ (by simp only [Bool.and_eq_true] at h;exact h.1)):P:=h
theorem Yp {x:Ex} {p:Int} (h:Zn x p=true) (hk:x.kind≠11):x.funcs=[]:=by
  have hb:∀ a b c n,ZC x a b c n=true→x.funcs=[]:=by
    intro a b c n h9;unfold ZC at h9;simp only [Bool.and_eq_true,Bool.or_eq_true,beq_iff_eq] at h9;rcases h9.2 with h9|h9
    · exact absurd h9 hk
    · exact List.length_eq_zero_iff.1 (by omega)
  unfold Zn at h;by_cases k:x.kind=1∨x.kind=2∨x.kind=3∨x.kind=6
  · exact Xx
  rw [if_neg k] at h;clear k;by_cases k:x.kind=4
  · exact Xx
  rw [if_neg k] at h;clear k;by_cases k:x.kind=5∨x.kind=7
  · exact Xx
  rw [if_neg k] at h;clear k;by_cases k:x.kind=8
  · exact Xx
  rw [if_neg k] at h;clear k;by_cases k:x.kind=9
  · exact Xx
  rw [if_neg k] at h;clear k;by_cases k:x.kind=10
  · exact Xx
  rw [if_neg k] at h;clear k;by_cases k:x.kind=11
  · exact Xx
  rw [if_neg k] at h;clear k;by_cases k:x.kind=12
  · exact Xx
  rw [if_neg k] at h;clear k;by_cases k:x.kind=13
  · exact Xx
  rw [if_neg k] at h;clear k;by_cases k:x.kind=14
  · exact Xx
  rw [if_neg k] at h;clear k;by_cases k:x.kind=15
  · exact Xx
  rw [if_neg k] at h;clear k;by_cases k:x.kind=16
  · exact Xx
  rw [if_neg k] at h;clear k;by_cases k:x.kind=17∨x.kind=18
  · exact Xx
  rw [if_neg k] at h;clear k;by_cases k:x.kind=19
  · exact Xx
  rw [if_neg k] at h;clear k;cases h
theorem errX_t {x:Ex} {p:Int} (t t':Ttl) (hk:x.kind≠11):Jf x p t=Jf x p t':=by
  rw [Yu,Yu];split
  · rfl
  · split
    · rfl
    · split
      · rfl
      · rename_i h3
        have hf:Zn x p=true:=by
          simp only [Bool.or_eq_true,not_or,Bool.not_eq_true',Bool.not_eq_true] at h3;cases hq:Zn x p
          · rw [hq] at h3;simp at h3
          · rfl
        rw [Yp hf hk];rfl
theorem yTBb {P:Prop} (h:P:=by
  simp only [Bool.or_eq_true,decide_eq_true_eq,Bool.not_eq_true'] at h3;rcases h3 with h3|h3
  · rw [decide_eq_false (by omega)];rfl
  · rw [h3];simp):P:=h
theorem errX_ref (x:Ex) (p:Int) (t:Ttl) (names:List ByteArray) (hN:NmT names t x.funcs):Jf x p t=if Ju x=true then 3 else if ZE x (p==12) names=false then 4 else if (c5 x || x.funcs.any f6)=true then 9 else 0:=by
  rw [Yu];unfold Ju;by_cases h1:zY x.kind<x.str.size
  · rw [if_pos h1,decide_eq_true h1];rfl
  rw [if_neg h1,decide_eq_false h1,Bool.false_or];by_cases h2:x.funcs.any f2=true
  · rw [if_pos h2,if_pos h2]
  rw [if_neg h2,if_neg h2];have hfp:Zn x (if (p==12)=true then 12 else 0)=Zn x p:=formB_par (by cases hq:(p==12) <;> rfl);by_cases h3:(decide (x.line<0) || !Zn x p)=true
  · rw [if_pos h3,if_pos];unfold ZE;rw [hfp];exact yTBb
  rw [if_neg h3];simp only [Bool.or_eq_true,decide_eq_true_eq,Bool.not_eq_true',not_or] at h3;have hl:0≤x.line:=by omega
  have hf:Zn x p=true:=by cases hq:Zn x p;exact absurd hq h3.2;rfl
  have hfr:ZE x (p==12) names = !x.funcs.any (f4 t):=by
    unfold ZE;rw [hfp,hf,decide_eq_true hl];by_cases hk:x.kind=11
    · have e:(x.kind != 11)=false:=by rw [hk];rfl
      rw [e];simp only [Bool.true_and,Bool.false_or];unfold nlB;congr 1;rw [Bool.eq_iff_iff,List.any_eq_true,List.any_eq_true];constructor
      · rintro ⟨f,hf1,hf2⟩;refine ⟨f,hf1,?_⟩;unfold badN at hf2;unfold f4;rw [hN f hf1];simp only [Bool.or_eq_true] at hf2 ⊢;exact hf2.symm
      · rintro ⟨f,hf1,hf2⟩;refine ⟨f,hf1,?_⟩;unfold f4 at hf2;unfold badN;rw [hN f hf1] at hf2;simp only [Bool.or_eq_true] at hf2 ⊢;exact hf2.symm
    · have e:(x.kind != 11)=true:=by simp;exact hk
      rw [e,Yp hf hk];rfl
  rw [hfr];by_cases h4:x.funcs.any (f4 t)=true
  · rw [if_pos h4,h4];rfl
  · have h4':x.funcs.any (f4 t)=false:=by simpa using h4
    rw [if_neg h4,h4'];rw [if_neg (show ¬ ((!false)=false) by decide)];by_cases h5:c5 x=true
    · rw [if_pos h5,h5];rfl
    · have h5':c5 x=false:=by simpa using h5
      rw [if_neg h5,h5',Bool.false_or]
theorem errY_ref (s:St) (last:Bool):VI s last=if (decide (40<s.label.size) || s.names.any q2)=true then 3 else if ZD s last=false then 4 else if (YJ s || s.names.any q6)=true then 9 else 0:=by
  rw [errY_c];by_cases h1:40<s.label.size
  · rw [if_pos h1,decide_eq_true h1];rfl
  rw [if_neg h1,decide_eq_false h1,Bool.false_or];by_cases h2:s.names.any q2=true
  · rw [if_pos h2,if_pos h2]
  rw [if_neg h2,if_neg h2];unfold ZD;by_cases h3:(decide (s.line<0) || !Zp s last)=true
  · rw [if_pos h3,if_pos];exact yTBb
  rw [if_neg h3];simp only [Bool.or_eq_true,decide_eq_true_eq,Bool.not_eq_true',not_or] at h3;have hf:Zp s last=true:=by cases hq:Zp s last;exact absurd hq h3.2;rfl
  rw [decide_eq_true (by omega),hf];rw [if_neg (show ¬ ((true && true)=false) by decide)];by_cases h5:YJ s=true
  · rw [if_pos h5,h5];rfl
  · have h5':YJ s=false:=by simpa using h5
    rw [if_neg h5,h5',Bool.false_or]
theorem errT_t {x:Ex} {p:Int} (t t':Ttl) (hk:x.kind≠11):ZH t p x=ZH t' p x:=by
  rw [vB,vB,errX_t t t' hk]
set_option maxHeartbeats 8000000
set_option maxRecDepth 100000
structure YG (w:World) (names:List ByteArray) (na:Option Addr) (nc:Nat):Prop where
  cap:names.length≤nc
  len:names.length≤9223372036854775807
  rows:Rows Ze w 1 QR names na
theorem YG.below {w w':World} {names:List ByteArray} {na:Option Addr} {nc:Nat} (h:YG w names na nc) (hb:Below w.heap.size w w'):YG w' names na nc:=⟨h.cap,h.len,h.rows.keep (Zb hb) (fun _ h=>h) (fun _ _ _ h=>h)⟩
theorem vV (w:World) {b:Nat} (hb:b=w.heap.size):YG (w.alloc (.cells #[.string ⟨#[]⟩] 9)) [⟨#[]⟩] (some ⟨b,0,none⟩) 1:=by
  subst hb;obtain ⟨a,c,h1,h2,h3⟩:=rows_own (l:=[⟨#[]⟩]) (qv w ⟨#[]⟩) (by intro s hs;rw [List.mem_singleton.1 hs];exact Nat.zero_le _);cases h1;exact ⟨Nat.le_refl _,by decide,h2⟩
def REx (n:Nat):Prop:=∀ (x:Ex) (d:EA) (inn:Bool) (names:List ByteArray) (na:Option Addr) (nc:Nat) (t:Ttl) (p:Int) (w:World),x.wz≤n→x.At Ze w d→inn=(p==12)→NmT names t x.funcs→YG w names na nc→Calls Tryz.prog 73 #[.agg #[.int .i64 x.kind,.int .i64 x.op,.int .i64 x.line,.int .i64 x.p,.int .i64 x.q,.string x.str,.slice d.a x.args.length d.c,.slice d.fa x.funcs.length d.fc],.bool inn,.slice na names.length nc] w fun e w'=>e=.returned (.int .i64 (ZH t p x))∧Below w.heap.size w w'
def RExs (n:Nat):Prop:=∀ (l:List Ex) (a:Option Addr) (c:Nat) (inn:Bool) (names:List ByteArray) (na:Option Addr) (nc:Nat) (t:Ttl) (p:Int) (w:World),Ex.wzs l≤n→l.length≤c→l.length*104≤LM→Rows Ze w 8 (Yt Ze w) l a→inn=(p==12)→(∀ x ∈ l,NmT names t x.funcs)→YG w names na nc→Calls Tryz.prog 72 #[.slice a l.length c,.bool inn,.slice na names.length nc] w fun e w'=>e=.returned (.int .i64 (Zf (l.map (ZH t p))))∧Below w.heap.size w w'
def RBl (n:Nat):Prop:=∀ (l:List St) (a:Option Addr) (c:Nat) (w:World),St.wzs l≤n→l.length≤c→l.length*128≤LM→Rows Ze w 7 (stR Ze w) l a→Calls Tryz.prog 21 #[.slice a l.length c] w fun e w'=>e=.returned (.int .i64 (Zf (ZI l)))∧Below w.heap.size w w'
def RSt (n:Nat):Prop:=∀ (s:St) (d:SA) (last:Bool) (w:World),s.wz≤n→s.At Ze w d→Calls Tryz.prog 37 #[.agg #[.int .i64 s.kind,.int .i64 s.line,.slice d.na s.names.length d.nc,.slice d.la s.left.length d.lc,.slice d.ra s.right.length d.rc,.slice d.ba s.blocks.length d.bc,.string s.label],.bool last] w fun e w'=>e=.returned (.int .i64 (Qs last s))∧Below w.heap.size w w'
theorem VF {w w':World} {l:List St} {a:Option Addr} (h:Rows Ze w 7 (stR Ze w) l a) (hb:Below w.heap.size w w'):Rows Ze w' 7 (stR Ze w') l a:=h.keep (Zb hb) (fun _ h=>h) (fun x cs _ h=>by obtain ⟨d9,q1,q2⟩:=h;exact ⟨d9,q1,q2.keep (Zb hb) (fun _ h=>h)⟩)
theorem exs_of {n:Nat} (hX:REx n):RExs n:=by
  intro l a c inn names na nc t p w hwz hlc hlm hrow hinn hN hnm;have hlen:l.length≤9223372036854775807:=by unfold LM at hlm;omega
  have HROW:=hI hrow;have HN:=hI hN;have HNM:=hI hnm;have HWZ:=hI hwz;have HINN:=hI hinn;obtain ⟨b,hb⟩:∃ b,b=Zf (l.map (ZH t p)):=⟨_,rfl⟩
  rw [←hb];have HB:=hI hb;clear hrow hN hnm hwz hinn hb
  go_enter Tryz.func72,Tryz.ntmps72
  go_wp2_with fail
  go_loopg [7,8] l.length (fun gk i u wr=>∃ k:Nat,gk+k=l.length∧i=.int .i64 k∧Below w.heap.size w wr∧qN (ZH t p) l k)
  case atStart=>exact ⟨0,by omega,rfl,Below.refl _ _,fun j x hj=>absurd hj (by omega)⟩
  case round =>
  obtain ⟨k,hk,rfl,hbr,hno⟩:=hrel;have HBR:=hI hbr;have HNO:=hI hno;have HK:=hI hk;clear hno;by_cases hlt:k<l.length
  · obtain ⟨x,hx⟩:∃ x,l[k]?=some x:=⟨_,List.getElem?_eq_getElem hlt⟩
    have HX:=hI hx;obtain ⟨ab,ao,h1,h2⟩:=HROW.out;obtain ⟨hda,-,hlb⟩:=h1 (by intro h0;rw [h0] at hlt;simp at hlt);subst hda;obtain ⟨cs,hr,dx,rfl,hax⟩:=h2 k x hx;have hr':=(Zb hbr:ZA Ze w wr).range trivial hlb hr;have c0:=hr' 0 _ rfl;have c1:=hr' 1 _ rfl;have c2:=hr' 2 _ rfl;have c3:=hr' 3 _ rfl;have c4:=hr' 4 _ rfl;have c5:=hr' 5 _ rfl;have c6:=hr' 6 _ rfl;have c7:=hr' 7 _ rfl;simp only [Nat.add_zero] at c0;have hxm:=List.mem_of_getElem? hx;have HCX:=hI (hX x dx inn names na nc t p wr (by have h8:=Ex.wz_mem hxm;have h9:=HWZ.out;omega) (hax.keep (Zb hbr) (fun _ h=>h)) HINN.out (HN.out x hxm) (HNM.out.below hbr));obtain ⟨v,hv⟩:∃ v,v=ZH t p x:=⟨_,rfl⟩
    rw [←hv] at HCX;have HV:=hI hv;clear h1 h2 hr hr' hax hx hxm hk hbr hv;by_cases hv0:v=0
    · have t0:(v != 0)=false:=by rw [hv0];rfl
      have HV0:=hI hv0;clear hv0
      go_wp2_with (go_at_call 73;(with_reducible refine HCX.out.mono ?_);rintro e w2 ⟨rfl,hb2⟩;have HB2:=hI hb2;clear hb2)
      go_roundg (gk - 1)
      case rel=>exact ⟨k+1,by have:=HK.out;omega,by go_num,thru HB2.out HBR.out,HNO.out.succ HX.out (by rw [←HV.out];exact HV0.out)⟩
      case measure=>have:=HK.out;omega
    · have t0:(v != 0)=true:=by simp;exact hv0
      have e:b=v:=by rw [HB.out,Vs HNO.out HX.out (by rw [←HV.out];exact hv0),HV.out]
      subst e;clear HB
      go_wp2_with (go_at_call 73;(with_reducible refine HCX.out.mono ?_);rintro e w2 ⟨rfl,hb2⟩;have HB2:=hI hb2;clear hb2)
      go_ret;exact ⟨rfl,thru HB2.out HBR.out⟩
  · have hke:k=l.length:=by omega
    have e:b=0:=by rw [HB.out];exact VH (by rw [←hke];exact HNO.out)
    subst e;clear HB hke hk
    go_wp2_with fail
    go_ret;exact ⟨rfl,HBR.out⟩
theorem bl_of {n:Nat} (hS:RSt n):RBl n:=by
  intro l a c w hwz hlc hlm hrow;have hlen:l.length≤9223372036854775807:=by unfold LM at hlm;omega
  have HROW:=hI hrow;have HWZ:=hI hwz;obtain ⟨b,hb⟩:∃ b,b=Zf (ZI l):=⟨_,rfl⟩
  rw [←hb];have HB:=hI hb;clear hrow hwz hb
  go_enter Tryz.func21,Tryz.ntmps21
  go_wp2_with fail
  go_loopg [3,4] l.length (fun gk i u wr=>∃ k:Nat,gk+k=l.length∧i=.int .i64 k∧Below w.heap.size w wr∧∀ j s,j<k→l[j]?=some s→Qs (decide (j+1=l.length)) s=0)
  case atStart=>exact ⟨0,by omega,rfl,Below.refl _ _,fun j x hj=>absurd hj (by omega)⟩
  case round =>
  obtain ⟨k,hk,rfl,hbr,hno⟩:=hrel;have HBR:=hI hbr;have HNO:=hI hno;have HK:=hI hk;clear hno;by_cases hlt:k<l.length
  · obtain ⟨x,hx⟩:∃ x,l[k]?=some x:=⟨_,List.getElem?_eq_getElem hlt⟩
    have HX:=hI hx;obtain ⟨ab,ao,h1,h2⟩:=HROW.out;obtain ⟨hda,-,hlb⟩:=h1 (by intro h0;rw [h0] at hlt;simp at hlt);subst hda;obtain ⟨cs,hr,dx,rfl,hax⟩:=h2 k x hx;have hr':=(Zb hbr:ZA Ze w wr).range trivial hlb hr;have c0:=hr' 0 _ rfl;have c1:=hr' 1 _ rfl;have c2:=hr' 2 _ rfl;have c3:=hr' 3 _ rfl;have c4:=hr' 4 _ rfl;have c5:=hr' 5 _ rfl;have c6:=hr' 6 _ rfl;simp only [Nat.add_zero] at c0;have hxm:=List.mem_of_getElem? hx;obtain ⟨la,hla⟩:∃ v,v=decide (k+1=l.length):=⟨_,rfl⟩
    have hlast:((k:Int)==(l.length:Int) - 1)=la:=by
      rw [hla,Bool.eq_iff_iff];simp;omega
    have HCX:=hI (hS x dx la wr (by have h8:=St.wz_mem hxm;have h9:=HWZ.out;omega) (hax.keep (Zb hbr) (fun _ h=>h)));obtain ⟨v,hv⟩:∃ v,v=Qs la x:=⟨_,rfl⟩
    rw [←hv] at HCX;have HV:=hI hv;have HLA:=hI hla;clear h1 h2 hr hr' hax hx hxm hk hbr hv hla;by_cases hv0:v=0
    · have t0:(v != 0)=false:=by rw [hv0];rfl
      have HV0:=hI hv0;clear hv0
      go_wp2_with (go_at_call 37;(with_reducible refine HCX.out.mono ?_);rintro e w2 ⟨rfl,hb2⟩;have HB2:=hI hb2;clear hb2)
      go_roundg (gk - 1)
      case rel =>
        refine ⟨k+1,by have:=HK.out;omega,by go_num,thru HB2.out HBR.out,fun j s hj hs=>?_⟩;by_cases hjk:j=k
        · subst hjk;rw [HX.out] at hs;cases hs;rw [←HLA.out,←HV.out];exact HV0.out
        · exact HNO.out j s (by omega) hs
      case measure=>have:=HK.out;omega
    · have t0:(v != 0)=true:=by simp;exact hv0
      have e:b=v:=by rw [HB.out,vC HNO.out HX.out (by rw [←HLA.out,←HV.out];exact hv0),←HLA.out,HV.out]
      subst e;clear HB
      go_wp2_with (go_at_call 37;(with_reducible refine HCX.out.mono ?_);rintro e w2 ⟨rfl,hb2⟩;have HB2:=hI hb2;clear hb2)
      go_ret;exact ⟨rfl,thru HB2.out HBR.out⟩
  · have hke:k=l.length:=by omega
    have e:b=0:=by rw [HB.out];exact qY (fun j s hj hs=>HNO.out j s (by omega) hs)
    subst e;clear HB hke hk
    go_wp2_with fail
    go_ret;exact ⟨rfl,HBR.out⟩
theorem firstE_more {l:List Int} {k:Nat} (h:Zf (l.take k)≠0):Zf l=Zf (l.take k):=by
  conv=>lhs;rw [←List.take_append_drop k l]
  rw [ZY];unfold Vl;rw [if_neg h]
theorem firstE_next {α:Type} {g:α→Int} {l:List α} {k:Nat} {x:α} (h0:Zf ((l.take k).map g)=0) (hx:l[k]?=some x):Zf ((l.take (k+1)).map g)=g x:=by
  rw [List.take_add_one,hx,List.map_append,ZY];unfold Vl;rw [if_pos h0];simp only [Option.toList_some,List.map_cons,List.map_nil,Zf];unfold Vl;split
  · rename_i h9;exact h9.symm
  · rfl
theorem ex_step {n:Nat} (hXs:RExs n) (hB:RBl n):REx (n+1):=by
  intro x d inn names na nc t p w hwz hat hinn hN hnm;have hat':=Ex.at_iff.1 hat;have HA:=hI hat;have HNM:=hI hnm;have hfl:x.funcs.length≤9223372036854775807:=by have:=hat'.2.1.2.2.2.2;unfold LM at this;omega
  have hfc:x.funcs.length≤d.fc:=hat'.2.1.2.2.1;have hac:x.args.length≤d.c:=hat'.2.1.1;have ham:x.args.length*104≤LM:=hat'.2.1.2.1.2;have hwa:Ex.wzs x.args≤n:=by have:=x.wz_eq;omega
  have HWF:=hI (show ∀ f ∈ x.funcs,St.wzs f.body≤n by intro f hf;have h1:=Ex.bodyW hf;omega);have hEX:=errX_ref x p t names hN;rw [←hinn] at hEX;obtain ⟨b,hb⟩:∃ b,b=ZH t p x:=⟨_,rfl⟩
  rw [←hb];rw [vB,hEX] at hb;have HB:=hI hb;have HLG:=hI (show ∀ w',Below w.heap.size w w'→Calls Tryz.prog 103 #[(eV x d)] w' fun e w''=>e=.returned (.bool (Ju x))∧Below w'.heap.size w' w'' from fun w' hb=>rlong_any x d w' (HA.out.keep (Zb hb) (fun _ h=>h)));have HFM:=hI (show ∀ w',Below w.heap.size w w'→Calls Tryz.prog 104 #[(eV x d),.bool inn,.slice na names.length nc] w' fun e w''=>e=.returned (.bool (ZE x inn names))∧Below w'.heap.size w' w'' from fun w' hb=>rform_any x d inn names na nc w' (HA.out.keep (Zb hb) (fun _ h=>h)) HNM.out.cap HNM.out.len (HNM.out.below hb).rows);have HNA:=hI (show ∀ w',Below w.heap.size w w'→Calls Tryz.prog 105 #[(eV x d)] w' fun e w''=>e=.returned (.bool (!(c5 x || x.funcs.any f6)))∧Below w'.heap.size w' w'' from fun w' hb=>rnamed_any x d w' (HA.out.keep (Zb hb) (fun _ h=>h)));obtain ⟨w1,hw1⟩:=vG x d w;have HB1:=hI (show Below w.heap.size w w1 by rw [hw1];exact bw);have HBX:=hI (vU x d hw1);have kb1:=fun i=>Za HBX.out i;have kz1:=Zc HBX.out;have HW1:=hI hw1;clear hwz hat hinn hN hnm hat' hEX hb hw1;cases hlg:Ju x
  case true =>
    have e:b=3:=by rw [HB.out,if_pos hlg];rfl
    subst e;rw [hlg] at HLG;clear HB hlg
    go_enter Tryz.func73,Tryz.ntmps73
    go_upto_region 1 with fail
    rw [←HW1.out]
    go_wp2_with (go_at_call 103;(with_reducible refine (HLG.out _ HB1.out).mono ?_);rintro e w2 ⟨rfl,hb2⟩)
    go_ret;exact ⟨rfl,thru hb2 HB1.out⟩
  rw [hlg] at HLG HB;rw [if_neg Bool.false_ne_true] at HB;clear hlg;cases hfm:ZE x inn names
  case false =>
    have e:b=4:=by rw [HB.out,if_pos hfm];rfl
    subst e;rw [hfm] at HFM;clear HB hfm
    go_enter Tryz.func73,Tryz.ntmps73
    go_upto_region 1 with fail
    rw [←HW1.out]
    go_wp2_with (first
      | (go_at_call 103;(with_reducible refine (HLG.out _ HB1.out).mono ?_);rintro e w2 ⟨rfl,hb2⟩;have HB2:=hI (thru hb2 HB1.out);have hx2:=Zd hb2 HBX.out;have HX2:=hI hx2;have kb2:=fun i=>Za hx2 i;have kz2:=Zc hx2;clear hb2 hx2)
      | (go_at_call 104;(with_reducible refine (HFM.out _ HB2.out).mono ?_);rintro e w3 ⟨rfl,hb3⟩))
    go_ret;exact ⟨rfl,thru hb3 HB2.out⟩
  rw [hfm] at HFM HB;rw [if_neg (show ¬ (true=false) by decide)] at HB;clear hfm;cases hnm:(c5 x || x.funcs.any f6)
  case true =>
    have e:b=9:=by rw [HB.out,if_pos hnm];rfl
    subst e;rw [hnm] at HNA;clear HB hnm
    go_enter Tryz.func73,Tryz.ntmps73
    go_upto_region 1 with fail
    rw [←HW1.out]
    go_wp2_with (first
      | (go_at_call 103;(with_reducible refine (HLG.out _ HB1.out).mono ?_);rintro e w2 ⟨rfl,hb2⟩;have HB2:=hI (thru hb2 HB1.out);have hx2:=Zd hb2 HBX.out;have HX2:=hI hx2;have kb2:=fun i=>Za hx2 i;have kz2:=Zc hx2;clear hb2 hx2)
      | (go_at_call 104;(with_reducible refine (HFM.out _ HB2.out).mono ?_);rintro e w3 ⟨rfl,hb3⟩;have HB3:=hI (thru hb3 HB2.out);have hx3:=Zd hb3 HX2.out;have HX3:=hI hx3;have kb3:=fun i=>Za hx3 i;have kz3:=Zc hx3;clear hb3 hx3)
      | (go_at_call 105;(with_reducible refine (HNA.out _ HB3.out).mono ?_);rintro e w4 ⟨rfl,hb4⟩))
    go_ret;exact ⟨rfl,thru hb4 HB3.out⟩
  rw [hnm] at HNA HB;rw [if_neg Bool.false_ne_true] at HB;clear hnm;obtain ⟨f0,hf0⟩:∃ v,v=Zf (x.args.map (ZH ttl0 x.kind)):=⟨_,rfl⟩
  have HF0:=hI hf0;have HXS:=hI (show ∀ w' b',Below w.heap.size w w'→YG w' [⟨#[]⟩] (some ⟨b',0,none⟩) 1→Calls Tryz.prog 72 #[.slice d.a x.args.length d.c,.bool (x.kind==12),.slice (some ⟨b',0,none⟩) 1 1] w' fun e w''=>e=.returned (.int .i64 f0)∧Below w'.heap.size w' w'' from fun w' b' hb hq=>by rw [hf0];exact hXs x.args d.a d.c (x.kind==12) [⟨#[]⟩] (some ⟨b',0,none⟩) 1 ttl0 x.kind w' hwa hac ham (Ex.at_iff.1 (HA.out.keep (Zb hb) (fun _ h=>h))).2.2.1 rfl (fun y _=>nmT0 _) hq);have hbb:b=Vl f0 (Zf (x.funcs.map errF)):=by rw [HB.out,←hf0];unfold Vl;rfl
  have HBB:=hI hbb;clear HB hbb hf0
  go_enter Tryz.func73,Tryz.ntmps73
  go_upto_region 1 with fail
  rw [←HW1.out]
  go_wp2_with (first
    | (go_at_call 103;(with_reducible refine (HLG.out _ HB1.out).mono ?_);rintro e w2 ⟨rfl,hb2⟩;have HB2:=hI (thru hb2 HB1.out);have hx2:=Zd hb2 HBX.out;have HX2:=hI hx2;have kb2:=fun i=>Za hx2 i;have kz2:=Zc hx2;clear hb2 hx2)
    | (go_at_call 104;(with_reducible refine (HFM.out _ HB2.out).mono ?_);rintro e w3 ⟨rfl,hb3⟩;have HB3:=hI (thru hb3 HB2.out);have hx3:=Zd hb3 HX2.out;have HX3:=hI hx3;have kb3:=fun i=>Za hx3 i;have kz3:=Zc hx3;clear hb3 hx3)
    | (go_at_call 105;(with_reducible refine (HNA.out _ HB3.out).mono ?_);rintro e w4 ⟨rfl,hb4⟩;have HB4:=hI (thru hb4 HB3.out);have hx4:=Zd hb4 HX3.out;have HX4:=hI hx4;have kb4:=fun i=>Za hx4 i;have kz4:=Zc hx4;clear hb4 hx4)
    | (go_at_call 72;(with_reducible refine (HXS.out _ _ (Zj HB4.out _) (vV _ rfl)).mono ?_);rintro e w5 ⟨rfl,hb5⟩;have HB5:=hI (thru hb5 (Zj HB4.out _));have hx5:=Zd hb5 (Zm HX4.out _);have HX5:=hI hx5;clear hb5 hx5))
  go_loopg [7,8] x.funcs.length (fun gk v i wr=>∃ k:Nat,gk+k=x.funcs.length∧i=.int .i64 k∧v=.int .i64 (Vl f0 (Zf ((x.funcs.take k).map errF)))∧Below w.heap.size w wr∧wr.heap[w.heap.size]?=some (.cells #[.int .i64 x.kind,.int .i64 x.op,.int .i64 x.line,.int .i64 x.p,.int .i64 x.q,.string x.str,.slice d.a x.args.length d.c,.slice d.fa x.funcs.length d.fc] 37))
  case atStart=>exact ⟨0,by omega,rfl,by simp only [List.take_zero,List.map_nil,Zf];congr 1;unfold Vl;split <;> simp_all,HB5.out,HX5.out⟩
  case round =>
  obtain ⟨k,hk,rfl,rfl,hbr,hxr⟩:=hrel;have HBR:=hI hbr;have HXR:=hI hxr;have HK:=hI hk;have kr:=fun i=>Za hxr i;have kzr:=Zc hxr;obtain ⟨v,hv⟩:∃ v,v=Vl f0 (Zf ((x.funcs.take k).map errF)):=⟨_,rfl⟩
  rw [←hv];have HV:=hI hv;clear hxr hv;by_cases hlt:k<x.funcs.length
  · by_cases hv0:v=0
    · have t0:(v==0)=true:=by rw [hv0];rfl
      obtain ⟨y,hy⟩:∃ y,x.funcs[k]?=some y:=⟨_,List.getElem?_eq_getElem hlt⟩
      have HY:=hI hy;obtain ⟨b9,off,dy,ha,hlb,hr,hay⟩:=fn_row HA.out hy;have hr':=(Zb hbr:ZA Ze w wr).range trivial hlb hr;have c3:=hr' 3 _ rfl;have HCB:=hI (hB y.body dy.ba dy.bc wr (HWF.out y (List.mem_of_getElem? hy)) (Fn.at_iff.1 hay).2.1.2.2.1 (Fn.at_iff.1 hay).2.1.2.2.2.2 (VF (Fn.at_iff.1 hay).2.2.2 hbr));have hz:=zG.1 (HV.out.symm.trans hv0)
      have HN2:=hI (show Vl f0 (Zf ((x.funcs.take (k+1)).map errF))=Zf (ZI y.body) by
        rw [firstE_next hz.2 hy,errF_eq];unfold Vl;rw [if_pos hz.1])
      obtain ⟨u,hu⟩:∃ u,u=Zf (ZI y.body):=⟨_,rfl⟩
      rw [←hu] at HCB HN2;obtain ⟨a0,c00,fa0,fc0⟩:=d;simp only at ha hfc;subst ha;clear hr hr' hay hy hk hbr hz hv0 hu
      go_wp2_with (go_at_call 21;(with_reducible refine HCB.out.mono ?_);rintro e w6 ⟨rfl,hb6⟩;have HB6:=hI hb6;clear hb6)
      go_roundg (gk - 1)
      case rel=>exact ⟨k+1,by have:=HK.out;omega,by go_num,by rw [HN2.out],thru HB6.out HBR.out,Zd HB6.out HXR.out⟩
      case measure=>have:=HK.out;omega
    · have t0:(v==0)=false:=by simp;exact hv0
      have e:b=v:=by
        rw [HBB.out,HV.out];have h9:=HV.out;unfold Vl at h9 ⊢;split
        · rename_i hf;rw [if_pos hf] at h9;rw [List.map_take] at h9 ⊢;exact firstE_more (by rw [←h9];exact hv0)
        · rfl
      subst e;clear HBB HV hk
      go_wp2_with fail
      go_ret;exact ⟨rfl,HBR.out⟩
  · have hke:k=x.funcs.length:=by omega
    have e:b=v:=by rw [HBB.out,HV.out,hke,List.take_length]
    subst e;clear HBB HV hk hke
    go_wp2_with fail
    go_ret;exact ⟨rfl,HBR.out⟩
end Go.Proofs.YtdmdhopfgnlnoaaGreatDoor
