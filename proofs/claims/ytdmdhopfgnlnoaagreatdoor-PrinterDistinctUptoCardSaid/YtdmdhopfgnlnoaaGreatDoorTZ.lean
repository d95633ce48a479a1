/- Three plain laws of joined names, of paths and of statements' forms. -/
import Derived.Test.YtdmdhopfgnlnoaaGreatDoorC1
import Derived.Lib.Join
namespace Go.Proofs.YtdmdhopfgnlnoaaGreatDoor
open Go.RowKit
set_option linter.unusedVariables false
set_option linter.unusedSimpArgs false
theorem Vw {c:Prop} [Decidable c] {n m:Int} (hn:n≠0):(if c then n else m)=0↔¬ c∧m=0:=by
  by_cases h:c
  · simp [h,hn]
  · simp [h]
theorem ql {x:Ex} {p:Int} {t:Ttl}:Jf x p t=0↔¬ ((if x.kind=5 then 4096 else 40)<x.str.size)∧¬ (x.funcs.any (fun f=>decide (4096<f.name.size) || f.params.any (fun p=>decide (40<p.size)))=true)∧¬ ((decide (x.line<0) || !Zn x p)=true)∧¬ (x.funcs.any (fun f=>decide (f.line<0) || !zn t f)=true)∧¬ (((x.kind==7 || x.kind==10) && !ZG x.str)=true)∧¬ (x.funcs.any (fun f=>f.params.any (fun p => !ZG p))=true)∧(0:Int)=0:=by
  unfold Jf;rw [Vw (by decide),Vw (by decide),Vw (by decide),Vw (by decide),Vw (by decide),Vw (by decide)]
theorem vz {s:St} {b:Bool}:VI s b=0↔¬ (40<s.label.size)∧¬ (s.names.any (fun x=>decide (40<x.1.size))=true)∧¬ ((decide (s.line<0) || !Zp s b)=true)∧¬ (((s.kind==13 || s.kind==14) && !ZG s.label)=true)∧¬ (s.names.any (fun x => !ZG x.1)=true)∧(0:Int)=0:=by
  unfold VI;rw [Vw (by decide),Vw (by decide),Vw (by decide),Vw (by decide),Vw (by decide)]
theorem Qm {x:Ex} {p:Int} {t:Ttl}:ZH t p x=0↔Jf x p t=0∧(∀ y ∈ x.args,ZH ttl0 x.kind y=0)∧∀ f ∈ x.funcs,Zf (ZI f.body)=0:=by
  rw [vB,zG,zG,QE,QE];simp [errF_eq]
abbrev Bs:=List UInt8
def Zg (s:ByteArray):Bs:=s.data.toList
def QJ (c:UInt8):Bs :=
  if c=10 then [92,110] else if c=9 then [92,116] else if c=92∨c=34 then [92,c]
  else if c<32∨126<c then [92,48+c / 100,48+c / 10 % 10,48+c % 10] else [c]
def Vv (s:ByteArray):Bs:=34::(Zg s).flatMap QJ++[34]
theorem Ku {x:Ex} {p:Int} {t:Ttl} (h:ZH t p x=0) (hk:x.kind=7∨x.kind=10):ZG x.str=true:=by
  obtain ⟨-,-,-,-,h5,-⟩:=ql.1 (Qm.1 h).1;cases hn:ZG x.str
  · exfalso;apply h5;rw [hn];rcases hk with hk|hk <;> simp [hk]
  · rfl
def QK (s:ByteArray):Bool:=(Zg s).any (·==58)
theorem join_mem {sep:Bs} {x:UInt8} {l:List Bs} (h:x ∈ Lib.join l sep):x ∈ sep∨∃ e ∈ l,x ∈ e:=by
  cases l with
  | nil=>rw [Lib.join_nil] at h;cases h
  | cons a r =>
    rw [Lib.join_cons] at h;rcases List.mem_append.1 h with h|h
    · exact .inr ⟨a,by simp,h⟩
    · unfold Lib.joinTail at h;obtain ⟨q,hq,hx⟩:=List.mem_flatten.1 h;obtain ⟨e,he,rfl⟩:=List.mem_map.1 hq;rcases List.mem_append.1 hx with hx|hx
      · exact .inl hx
      · exact .inr ⟨e,by simp [he],hx⟩
theorem Ja (sep:List UInt8) (l:List (List UInt8)) (y:List UInt8):Lib.join (l++[y]) sep=Lib.join l sep++(if l=[] then [] else sep)++y:=by
  cases l with
  | nil=>simp [Lib.join_nil,Lib.join_one]
  | cons a r =>
    rw [List.cons_append,Lib.join_cons,Lib.join_cons,if_neg (by simp)];unfold Lib.joinTail;simp
theorem yS (x:Ex):Qr x=if x.kind=7 then some [x.str] else match x.args with
    | [a,b]=>if x.kind=8 then (if b.kind=5∧ZG b.str=true then (Qr a).map (·++[b.str]) else none) else none
    | _=>none:=by
  obtain ⟨k,o,l,p,q,s,args,f⟩:=x;rcases args with _|⟨a,_|⟨b,_|⟨c,r⟩⟩⟩ <;> by_cases h7:k=7 <;> by_cases h8:k=8 <;> simp [Qr,Ex.kind,Ex.str,Ex.args,h7,h8]
theorem QD {s:St} {b:Bool} (h:VI s b=0):Zp s b=true:=by
  obtain ⟨-,-,h3,-⟩:=vz.1 h;simp at h3;exact h3.2
theorem zL {s:St} {b:Bool} (h:VI s b=0) (hk:s.kind=2):s.names.length=1∧Zx s.right=11:=by
  have h9:=QD h;unfold Zp at h9;simp [hk,Zv,ZM] at h9;exact ⟨by omega,by omega⟩
theorem Zy {α:Type} {l:List α} (h:l.length=1):∃ y,l=[y]:=by
  match l,h with
  | [y],_=>exact ⟨y,rfl⟩
theorem qL {s:ByteArray} (h:ZG s=true):∀ c ∈ Zg s,c≠58:=by
  intro c hc;unfold ZG at h;unfold Zg at hc;cases hl:s.data.toList with
  | nil=>rw [hl] at hc;cases hc
  | cons a r =>
    rw [hl] at h hc;simp only [Bool.and_eq_true] at h;have h9:=List.all_eq_true.1 h.2 c hc;rintro rfl
    revert h9;decide
theorem Yf:∀ (n:Nat) (x:Ex),x.wz≤n→∀ (t:Ttl) (p:Int) (l:List ByteArray),ZH t p x=0→Qr x=some l→∀ e ∈ l,ZG e=true:=by
  intro n
  induction n with
  | zero=>intro x hx;have:=x.wz_eq;omega
  | succ n ih =>
    intro x hx t p l he hp;rw [yS] at hp;by_cases h7:x.kind=7
    · rw [if_pos h7] at hp;cases hp;intro e h9;rw [List.mem_singleton.1 h9];exact Ku he (.inl h7)
    · rw [if_neg h7] at hp;split at hp
      · rename_i a b hab;by_cases h8:x.kind=8
        · rw [if_pos h8] at hp;by_cases hb:b.kind=5∧ZG b.str=true
          · rw [if_pos hb] at hp;obtain ⟨l',hl',rfl⟩:=Option.map_eq_some_iff.1 hp;have ha:a ∈ x.args:=by rw [hab];simp
            intro e h9;rcases List.mem_append.1 h9 with h9|h9
            · exact ih a (by have:=Ex.argsW ha;omega) _ _ l' ((Qm.1 he).2.1 a ha) hl' e h9
            · rw [List.mem_singleton.1 h9];exact hb.2
          · rw [if_neg hb] at hp;cases hp
        · rw [if_neg h8] at hp;cases hp
      · cases hp
theorem qM {l:List ByteArray} (h:∀ e ∈ l,ZG e=true):QK (zu l)=false:=by
  unfold QK;rw [List.any_eq_false];intro c hc;have e:Zg (zu l)=Lib.join (l.map (·.data.toList)) [46]:=by simp [Zg,zu]
  rw [e] at hc;rcases join_mem hc with h9|⟨q,hq,h9⟩
  · rw [List.mem_singleton.1 h9];decide
  · obtain ⟨s,hs,rfl⟩:=List.mem_map.1 hq;have:=qL (h s hs) c h9;simpa using this
theorem qe {s:St} {b:Bool} (h:VI s b=0):1≤s.kind∧s.kind≤14:=by
  have h9:=QD h;apply Classical.byContradiction;intro hn;unfold Zp at h9;rw [if_neg (by omega),if_neg (by omega),if_neg (by omega),if_neg (by omega),if_neg (by omega),if_neg (by omega),if_neg (by omega),if_neg (by omega),if_neg (by omega),if_neg (by omega),if_neg (by omega),if_neg (by omega)] at h9;cases h9
theorem QG {s:St} {b:Bool} (h:VI s b=0) (hk:s.kind=5∨s.kind=6∨s.kind=7∨s.kind=9∨s.kind=10):s.blocks.length=1:=by
  have h9:=QD h;unfold Zp at h9;rcases hk with hk|hk|hk|hk|hk <;> (simp [hk,Zv,ZM] at h9;omega)
theorem st_if {s:St} {b:Bool} (h:VI s b=0) (hk:s.kind=8):s.right.length≤s.blocks.length∧s.blocks.length≤s.right.length+1:=by
  have h9:=QD h;unfold Zp at h9;simp [hk,Zv,ZM] at h9;omega
end Go.Proofs.YtdmdhopfgnlnoaaGreatDoor
