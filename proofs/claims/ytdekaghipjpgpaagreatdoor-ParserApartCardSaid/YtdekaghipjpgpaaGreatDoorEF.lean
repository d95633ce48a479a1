/- What is left of a list of tokens are tokens of the list; the line of an error (ParserForm). -/
import Derived.Test.YtdekaghipjpgpaaGreatDoorE3
import Derived.Test.YtdekaghipjpgpaaGreatDoorB1
import Derived.Test.YtdekaghipjpgpaaGreatDoorEA
namespace Go.Proofs.YtdekaghipjpgpaaGreatDoor
open Go.RowKit
set_option linter.unusedVariables false
set_option linter.unusedSimpArgs false
open Classical in
noncomputable def mkT (P:Tk→Prop) (t:Tk):Tk:=if P t then t else ⟨t.kind,t.text,t.line,t.pos+1⟩
theorem nt_mk (P:Tk→Prop):Nt (mkT P) id:=⟨fun t=>by unfold mkT;split <;> rfl,fun t=>by unfold mkT;split <;> rfl,fun t=>by unfold mkT;split <;> rfl,rfl⟩
theorem mk_eq {P:Tk→Prop} {t:Tk} (h:mkT P t=t):P t:=by
  unfold mkT at h;split at h
  · assumption
  · have h2:=congrArg Tk.pos h;simp only at h2;omega
theorem mk_map {P:Tk→Prop} {l:List Tk} (h:∀ t ∈ l,P t):l.map (mkT P)=l:=by
  induction l with
  | nil=>rfl
  | cons a r ih=>rw [List.map_cons,ih fun t ht=>h t (List.mem_cons_of_mem _ ht),mkT,if_pos (h a List.mem_cons_self)]
theorem mk_all {P:Tk→Prop} {l:List Tk} (h:l=l.map (mkT P)):∀ t ∈ l,P t:=by
  induction l with
  | nil=>intro t ht;cases ht
  | cons a r ih =>
    simp only [List.map_cons,List.cons.injEq] at h;intro t ht;rcases List.mem_cons.1 ht with rfl|h2
    · exact mk_eq h.1.symm
    · exact ih h.2 t h2
theorem rest_mem {α:Type} {a:α→α} {P:Tk→Prop} {f:List Tk→Res α} {l:List Tk} (hf:f (l.map (mkT P))=(f l).lift a (mkT P)) (h:∀ t ∈ l,P t):(∀ v l',f l=.ok v l'→∀ t ∈ l',P t)∧∀ l',f l=.bad l'→∀ t ∈ l',P t:=by
  rw [mk_map h] at hf;constructor
  · intro v l' e;rw [e] at hf;simp only [Res.lift,Res.ok.injEq] at hf;exact mk_all hf.2
  · intro l' e;rw [e] at hf;simp only [Res.lift,Res.bad.injEq] at hf;exact mk_all hf
theorem line_mem {L l:List Tk} {N:Int} (hL:∀ t ∈ L,0≤t.line∧t.line≤N) (hl:∀ t ∈ l,0≤t.line∧t.line≤N) (hN:1≤N):0≤lineK L l∧lineK L l≤N:=by
  unfold lineK;cases l with
  | cons t r=>exact hl t List.mem_cons_self
  | nil =>
    cases h:L.getLast? with
    | none=>simp;omega
    | some t=>exact hL t (List.mem_of_getLast? h)
theorem parse_line {α:Type} {a:α→α} {f:List Tk→Res α} {s:Sb} {n x:Int} (hf:∀ P l,f (l.map (mkT P))=(f l).lift a (mkT P)) (h:parseW f s=.error (n,x)):0≤n∧n≤1+(nlC s:Int):=by
  rcases hs:scanT s with e|L
  · unfold parseW at h;rw [hs] at h;cases h;have:=scanT_bad hs;omega
  · rw [parseW_ok hs] at h
    have hL:∀ t ∈ L,0≤t.line∧t.line≤1+(nlC s:Int):=fun t ht=>by
      have h9:=(scanT_ok hs).1 t ht;have h1:=h9.lo;have h2:=h9.hi;omega
    have hr:=rest_mem (hf _ L) hL;rcases hx:f L with ⟨v,_|⟨t,r⟩⟩|l
    · rw [hx] at h;cases h
    · rw [hx] at h;cases h;exact line_mem hL (hr.1 _ _ hx) (by omega)
    · rw [hx] at h;cases h;exact line_mem hL (hr.2 _ hx) (by omega)
theorem chunk_line {cv:List St→Int} {s:Sb} {n x:Int} (h:chunkV cv s=.error (n,x)):0≤n∧n≤1+(nlC s:Int):=by
  unfold chunkV at h;rcases hp:pblkW s with e|b
  · rw [hp] at h;cases h;exact parse_line (f:=(EB 70000).2) (a:=St.mls id) (fun P l=>((nt_mk P).EB 70000).2 l) hp
  · rw [hp] at h;simp only at h;split at h
    · cases h
    · cases h;omega
def semiT (p:Int):Tk:=⟨5,txA [59],1,p⟩
theorem blk_semi (t:Tk) (l:List Tk) (hk:t.kind=5) (ht:t.text=txA [59]):(EB 70000).2 (t::l)=(EB 70000).2 l:=by
  show blkG (EB 69999).1 (EB 69999).2 ((l.length+1)+1) [] (t::l)=_;rw [blkG];have e1:endsB (t::l)=false:=by simp [endsB,isB,hk,ht,txA]
  have e2:isB [59] (t::l)=true:=by simp [isB,hk,ht,txA]
  rw [if_neg (by rw [e1];decide),if_pos e2];rfl
theorem semi_tok (a:Nat) (s:Sb):tokL a 1 (59::s)=.ok (semiT a,1):=by
  unfold tokL;dsimp only;rw [if_neg (show ¬ initB 59=true by decide),if_neg (show ¬ digB 59=true by decide),if_neg (by decide)];rfl
theorem scan_pre (s:Sb):scanX 0 1 (32::59::32::s) []=scanX 3 1 s [semiT 1]:=by
  rw [scanX_bl];have h:skipL false (59::32::s)=(0,0):=rfl;rw [scanX_eq (0+1),h];have h2:(59::32::s:Sb).drop 0=59::32::s:=rfl;have h3:tokL (0+1+0) (1+0) (59::32::s)=.ok (semiT 1,1):=semi_tok 1 (32::s);simp only [h2,h3];exact scanX_bl 2 1 s [semiT 1]
theorem scan_shift (d e:Nat) (s:Sb):scanX d (1+e) s []=match scanX 0 1 s [] with
    | .error x=>.error (x.1+e,x.2)
    | .ok L=>.ok (L.map (shT d e)):=by
  have h:=scan_sh d e s.length 0 1 s [] (Nat.le_refl _);rw [Nat.zero_add,List.map_nil] at h;exact h
theorem scanT_blank {s:Sb} (hs:s.length≤2000):scanT (32::59::32::(s++endZ))=match scanT s with
    | .error x=>.error (x.1+0,x.2)
    | .ok L=>.ok (semiT 1::L.map (shT 3 0)):=by
  have hl:(32::59::32::(s++endZ)).length≤65536:=by simp only [List.length_cons,List.length_append];show s.length+7+1+1+1≤_;omega
  rw [scanT_eq,scanT_eq,if_neg (by omega),if_neg (by omega),scan_pre,scan_acc (s++endZ).length 3 1 (s++endZ) [semiT 1] (Nat.le_refl _)];have h:=scan_shift 3 0 (s++endZ);rw [show (1+0:Nat)=1 from rfl,scan_end s.length 0 1 s [] (Nat.le_refl _) (by omega)] at h;rw [h];rcases scanX 0 1 s [] with x|L <;> rfl
theorem last_map {f:Tk→Tk} (L:List Tk):(L.map f).getLast?=L.getLast?.map f:=List.getLast?_map
theorem blk_blank {s:Sb} (hs:s.length≤2000):pblkW (32::59::32::(s++endZ))=pblkW s:=by
  have h1:=scanT_blank hs;rcases h:scanT s with e|L
  · rw [h] at h1;unfold pblkW parseW;rw [h1,h];simp
  · rw [h] at h1;unfold pblkW;rw [parseW_ok h,parseW_ok h1,blk_semi _ _ rfl rfl,((nt_sh 3).EB 70000).2 L];rcases (EB 70000).2 L with ⟨v,_|⟨t,r⟩⟩|_|⟨t,r⟩
    · simp [Res.lift,parRes,St.mls_id]
    · simp [Res.lift,parRes,lineK,shT]
    · have h2:(semiT 1::L.map (shT 3 0)).getLast?.map (·.line)=(L.getLast?.map (·.line)).getD 1:=by
        rw [List.getLast?_cons,last_map];cases L.getLast? <;> simp [shT,semiT]
      simp [Res.lift,parRes,lineK,h2]
    · simp [Res.lift,parRes,lineK,shT]
theorem chunk_blank (cv:List St→Int) {s:Sb} (hs:s.length≤2000):chunkV cv (32::59::32::(s++endZ))=chunkV cv s:=by
  unfold chunkV;rw [blk_blank hs]
def upL (e:Nat) (n:Int):Int:=if n≤0 then n else n+e
def upT (d e:Nat) (t:Tk):Tk:=⟨t.kind,t.text,upL e t.line,t.pos+d⟩
theorem nt_up (d e:Nat):Nt (upT d e) (upL e):=⟨fun _=>rfl,fun _=>rfl,fun _=>rfl,rfl⟩
theorem sh_up (d e:Nat) {N M:Nat} {L:List Tk} (h:∀ t ∈ L,TkOk N M t):L.map (shT d e)=L.map (upT d e) :=
  List.map_congr_left fun t ht=>by
    have h1:=(h t ht).lo;unfold shT upT upL;rw [if_neg (by omega)]
theorem scanT_lf {s:Sb} (hs:s.length≤2000):scanT (10::s)=match scanT s with
    | .error x=>.error (x.1+1,x.2)
    | .ok L=>.ok (L.map (shT 1 1)):=by
  have hl:(10::s:Sb).length≤65536:=by simp only [List.length_cons];omega
  have h0:scanX 0 1 (10::s) []=scanX 1 2 s []:=by
    have h:skipL false (10::s)=(1+(skipL false s).1,1+(skipL false s).2):=by rw [skipL_f];simp
    rw [scanX_eq 0,scanX_eq 1,h];have h2:(10::s:Sb).drop (1+(skipL false s).1)=s.drop (skipL false s).1:=by rw [Nat.add_comm];rfl
    simp only [h2,show 0+(1+(skipL false s).1)=1+(skipL false s).1 from by omega,show 1+(1+(skipL false s).2)=2+(skipL false s).2 from by omega]
  rw [scanT_eq,scanT_eq,if_neg (by omega),if_neg (by omega),h0];have h:=scan_shift 1 1 s;rw [show (1+1:Nat)=2 from rfl] at h;rw [h];rcases scanX 0 1 s [] with x|L <;> rfl
def Ln (P:St→Prop) (m:Res St):Prop:=∀ s l,m=.ok s l→P s
section
variable {P:St→Prop}
theorem Ln.bind {α:Type} {m:Res α} {f:α→List Tk→Res St} (h:∀ x l,Ln P (f x l)):Ln P (m.bind f):=by
  cases m with
  | ok x l=>exact h x l
  | bad l=>intro s l e;cases e
theorem Ln.ite {c:Prop} [Decidable c] {m m':Res St} (h:Ln P m) (h':Ln P m'):Ln P (if c then m else m'):=by split <;> assumption
theorem Ln.yes {s:St} {l:List Tk} (h:P s):Ln P (.ok s l):=fun s' l' e=>by cases e;exact h
theorem Ln.no {l:List Tk}:Ln P (.bad l):=fun s' l' e=>by cases e
theorem Ln.step {t:Tk} {r:List Tk} {f:Tk→List Tk→Res St} (h:Ln P (f t r)):Ln P ((takeR (t::r)).bind f):=h
end
section
variable (E:EF) (B:BF) (t:Tk) (r:List Tk)
abbrev LnP (t:Tk) (s:St):Prop:=s.line=t.line∧(s.kind==11)=false
theorem ln_local:Ln (LnP t) (localR E B (t::r)):=Ln.step (Ln.ite (Ln.bind fun _ _=>Ln.bind fun _ _=>Ln.yes ⟨rfl,rfl⟩) (Ln.bind fun _ _=>Ln.ite (Ln.bind fun _ _=>Ln.yes ⟨rfl,rfl⟩) (Ln.yes ⟨rfl,rfl⟩)))
theorem ln_func:Ln (LnP t) (funcR B (t::r)):=Ln.step (Ln.bind fun _ _=>Ln.bind fun _ _=>Ln.bind fun _ _=>Ln.yes ⟨rfl,rfl⟩)
theorem ln_if:Ln (LnP t) (ifR E B (t::r)):=Ln.step (Ln.bind fun _ _=>Ln.bind fun _ _=>Ln.bind fun _ _=>Ln.yes ⟨rfl,rfl⟩)
theorem ln_loop:Ln (LnP t) (loopR E B (t::r)):=Ln.step (Ln.bind fun _ _=>Ln.ite (Ln.bind fun _ _=>Ln.bind fun _ _=>Ln.bind fun _ _=>Ln.bind fun _ _=>Ln.bind fun _ _=>Ln.bind fun _ _=>Ln.yes ⟨rfl,rfl⟩) (Ln.bind fun _ _=>Ln.bind fun _ _=>Ln.bind fun _ _=>Ln.bind fun _ _=>Ln.bind fun _ _=>Ln.yes ⟨rfl,rfl⟩))
theorem ln_key:Ln (LnP t) (keyR E B (t::r)) :=
  Ln.ite (ln_local E B t r) (Ln.ite (ln_func B t r) (Ln.ite (ln_if E B t r) (Ln.ite (ln_loop E B t r) (Ln.ite (Ln.bind fun _ _=>Ln.bind fun _ _=>Ln.bind fun _ _=>Ln.bind fun _ _=>Ln.yes ⟨rfl,rfl⟩)
    (Ln.ite (Ln.bind fun _ _=>Ln.bind fun _ _=>Ln.bind fun _ _=>Ln.yes ⟨rfl,rfl⟩) (Ln.ite (Ln.bind fun _ _=>Ln.bind fun _ _=>Ln.yes ⟨rfl,rfl⟩) (Ln.ite (Ln.bind fun _ _=>Ln.yes ⟨rfl,rfl⟩) (Ln.ite (Ln.bind fun _ _=>Ln.bind fun _ _=>Ln.yes ⟨rfl,rfl⟩) Ln.no))))))))
theorem ln_stat:Ln (LnP t) (statR E B (t::r)) :=
  Ln.ite (ln_key E B t r) (Ln.ite (Ln.bind fun _ _=>Ln.bind fun _ _=>Ln.yes ⟨rfl,rfl⟩) (Ln.bind fun _ _=>Ln.ite (Ln.yes ⟨rfl,rfl⟩) (Ln.bind fun _ _=>Ln.bind fun _ _=>Ln.bind fun _ _=>Ln.yes ⟨rfl,rfl⟩)))
theorem ln_ret:Ln (fun s=>s.line=t.line) (retR E (t::r)):=Ln.step (Ln.bind fun _ _=>Ln.ite (Ln.yes rfl) Ln.no)
end
theorem blk_lines {E:EF} {B:BF} (P:Tk→Prop) (hE:NE (mkT P) id E) (hB:NB (mkT P) id B) (hP:∀ t,P t→1≤t.line):∀ (n:Nat) (acc:List St) (l:List Tk),(∀ t ∈ l,P t)→(∀ s ∈ acc,1≤s.line)→∀ v l',blkG E B n acc l=.ok v l'→∀ s ∈ v,1≤s.line:=by
  intro n
  induction n with
  | zero=>intro acc l _ _ v l' h;cases h
  | succ n ih =>
    intro acc l hl ha v l' h
    have snoc:∀ s:St,1≤s.line→∀ s' ∈ acc++[s],1≤s'.line:=fun s h1 s' h2=>by
      rcases List.mem_append.1 h2 with h3|h3
      · exact ha s' h3
      · rw [List.mem_singleton.1 h3];exact h1
    rw [blkG] at h;split at h
    · cases h;exact ha
    · rename_i he;cases l with
      | nil=>exact absurd rfl he
      | cons t r =>
        have ht:=hP t (hl t List.mem_cons_self);split at h
        · exact ih acc r (fun t' h'=>hl t' (List.mem_cons_of_mem _ h')) ha v l' h
        · split at h
          · rcases hs:retR E (t::r) with ⟨s,l1⟩|l1
            · rw [hs] at h;cases h;exact snoc s (by rw [ln_ret E t r s _ hs];exact ht)
            · rw [hs] at h;cases h
          · rcases hs:statR E B (t::r) with ⟨s,l1⟩|l1
            · rw [hs] at h;exact ih _ l1 ((rest_mem ((nt_mk P).stat hE hB (t::r)) hl).1 _ _ hs) (snoc s (by rw [(ln_stat E B t r s l1 hs).1];exact ht)) v l' h
            · rw [hs] at h;cases h
theorem EB_lines {L:List Tk} {b:List St} {l:List Tk} (hL:∀ t ∈ L,1≤t.line) (h:(EB 70000).2 L=.ok b l):∀ s ∈ b,1≤s.line :=
  blk_lines (E:=(EB 69999).1) (B:=(EB 69999).2) (fun t=>1≤t.line) ((nt_mk _).EB 69999).1 ((nt_mk _).EB 69999).2 (fun _ h=>h) (L.length+1) [] L hL (fun s h=>by cases h) b l h
theorem blk_lf {s:Sb} (hs:s.length≤2000):(∃ b,pblkW s=.ok b∧pblkW (10::s)=.ok (St.mls (upL 1) b)∧∀ st ∈ b,1≤st.line)∨∃ n k x:Int,pblkW s=.error (n,x)∧pblkW (10::s)=.error (k,x)∧(k=n+1∨n=1∧k=1):=by
  have h1:=scanT_lf hs;rcases h:scanT s with e|L
  · rw [h] at h1;refine .inr ⟨e.1,e.1+1,e.2,?_,?_,.inl rfl⟩
    · unfold pblkW parseW;rw [h]
    · unfold pblkW parseW;rw [h1]
  · rw [h] at h1;simp only at h1;rw [sh_up 1 1 (scanT_ok h).1] at h1;have hlo:∀ t ∈ L,1≤t.line:=fun t ht=>((scanT_ok h).1 t ht).lo;have hr:=rest_mem (((nt_mk _).EB 70000).2 L) hlo;have hup:∀ n:Int,1≤n→upL 1 n=n+1:=fun n hn=>by unfold upL;rw [if_neg (by omega)];rfl
    unfold pblkW;rw [parseW_ok h,parseW_ok h1,((nt_up 1 1).EB 70000).2 L];rcases hb:(EB 70000).2 L with ⟨v,_|⟨t,r⟩⟩|_|⟨t,r⟩
    · exact .inl ⟨v,rfl,rfl,EB_lines hlo hb⟩
    · refine .inr ⟨_,_,4,rfl,rfl,.inl ?_⟩;exact hup _ (hr.1 _ _ hb t List.mem_cons_self)
    · refine .inr ⟨_,_,4,rfl,rfl,?_⟩;show ((L.map (upT 1 1)).getLast?.map (·.line)).getD 1=(L.getLast?.map (·.line)).getD 1+1∨_;rw [last_map];cases hg:L.getLast? with
      | none=>right;exact ⟨by simp [lineK,hg],by simp [lineK,hg]⟩
      | some t=>left;exact hup _ (hlo t (List.mem_of_getLast? hg))
    · refine .inr ⟨_,_,4,rfl,rfl,.inl ?_⟩;exact hup _ (hr.2 _ hb t List.mem_cons_self)
theorem chunk_lf {cv:List St→Int} (hcv:∀ b,cv (St.mls (upL 1) b)=cv b) {s:Sb} (hs:s.length≤2000) :
    (∃ b,chunkV cv s=.ok b∧chunkV cv (10::s)=.ok (St.mls (upL 1) b)∧∀ st ∈ b,1≤st.line)∨∃ n k x:Int,chunkV cv s=.error (n,x)∧chunkV cv (10::s)=.error (k,x)∧(n=0∧k=0∨k=n+1∨n=1∧k=1):=by
  unfold chunkV;rcases blk_lf hs with ⟨b,h1,h2,h3⟩|⟨n,k,x,h1,h2,h3⟩
  · rw [h1,h2];simp only [hcv];by_cases h0:cv b=0
    · rw [if_pos h0,if_pos h0];exact .inl ⟨b,rfl,rfl,h3⟩
    · rw [if_neg h0,if_neg h0];exact .inr ⟨0,0,cv b,rfl,rfl,.inl ⟨rfl,rfl⟩⟩
  · rw [h1,h2];exact .inr ⟨n,k,x,rfl,rfl,.inr h3⟩
end Go.Proofs.YtdekaghipjpgpaaGreatDoor
