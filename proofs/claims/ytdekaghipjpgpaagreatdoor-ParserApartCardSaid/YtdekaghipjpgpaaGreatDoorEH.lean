/- The pure law of ParserApart: two chunks, one behind the other. -/
import Derived.Test.YtdekaghipjpgpaaGreatDoorEF
import Derived.Test.YtdekaghipjpgpaaGreatDoorE6
namespace Go.Proofs.YtdekaghipjpgpaaGreatDoor
open Go.RowKit
set_option linter.unusedVariables false
set_option linter.unusedSimpArgs false
section
variable {E:EF} {B:BF} (hE:SE E) (hB:SB B)
include hE hB
theorem blk_fuel:∀ (n m:Nat) (acc:List St) (l:List Tk),l.length<n→l.length<m→blkG E B n acc l=blkG E B m acc l
  | 0,_,_,_,h,_=>absurd h (by omega)
  | _+1,0,_,_,_,h=>absurd h (by omega)
  | n+1,m+1,acc,l,h,h'=>by
    simp only [blkG];split
    · rfl
    · split
      · rename_i hc;exact blk_fuel n m acc _ (by have:=tail_lt hc;omega) (by have:=tail_lt hc;omega)
      · split
        · rfl
        · rcases hs:statR E B l with ⟨s,l1⟩|l1
          · have h1:l1.length+1≤l.length:=stat_le hE hB l s l1 hs;exact blk_fuel n m (acc++[s]) l1 (by omega) (by omega)
          · rfl
end
def preR (a:List St):Res (List St)→Res (List St)
  | .ok v l=>.ok (a++v) l
  | .bad l=>.bad l
theorem blk_pre {E:EF} {B:BF} (a:List St):∀ (n:Nat) (acc:List St) (l:List Tk),blkG E B n (a++acc) l=preR a (blkG E B n acc l)
  | 0,_,_=>rfl
  | n+1,acc,l=>by
    simp only [blkG];split
    · rfl
    · split
      · exact blk_pre a n acc _
      · split
        · rcases retR E l with ⟨s,l1⟩|l1
          · show Res.ok (a++acc++[s]) l1=Res.ok (a++(acc++[s])) l1;rw [List.append_assoc]
          · rfl
        · rcases statR E B l with ⟨s,l1⟩|l1
          · show blkG E B n (a++acc++[s]) l1=preR a (blkG E B n (acc++[s]) l1);rw [List.append_assoc];exact blk_pre a n (acc++[s]) l1
          · rfl
section
variable {z:List Tk} (hz:Smi z) {E:EF} {B:BF} (hE:ZE z E) (hB:ZB z B) (hL:SE E) (hM:SB B)
include hz hE hB hL hM
omit hz hE hB hL hM in
theorem semi_is {z l:List Tk} (h:l≠[]) (s:Sb):isB s (l++z)=isB s l:=by
  cases l with
  | nil=>exact absurd rfl h
  | cons t r=>rfl
theorem blk_on:∀ (n:Nat) (acc:List St) (l:List Tk) (v:List St),l.length<n→blkG E B n acc l=.ok v []→(∀ s,v.getLast?=some s→(s.kind==11)=false)→∀ m,(l++z).length<m→blkG E B m acc (l++z)=blkG E B m v z
  | 0,_,_,_,h,_,_,_,_=>absurd h (by omega)
  | n+1,acc,l,v,h,hv,hl,0,hm=>absurd hm (by omega)
  | n+1,acc,l,v,h,hv,hl,m+1,hm=>by
    by_cases hn:l=[]
    · subst hn;have:acc=v:=by simp only [blkG] at hv;rw [if_pos (show endsB []=true from rfl)] at hv;cases hv;rfl
      subst this;rfl
    · have hzl:z.length<m:=by
        cases l with
        | nil=>exact absurd rfl hn
        | cons t r=>simp at hm;omega
      have hf:blkG E B (m+1) v z=blkG E B m v z:=blk_fuel hL hM _ _ _ _ (by omega) hzl;rw [hf];simp only [blkG] at hv ⊢;rw [Xt.ends hz hn,semi_is hn,semi_is hn];by_cases he:endsB l=true
      · rw [if_pos he] at hv;cases hv;exact absurd rfl hn
      · rw [if_neg he] at hv ⊢;by_cases hs:isB [59] l=true
        · rw [if_pos hs] at hv ⊢;rw [Xt.tl hn];exact blk_on n acc l.tail v (by have:=tail_lt hs;omega) hv hl m (by have:=tail_lt hs;simp at hm ⊢;omega)
        · rw [if_neg hs] at hv ⊢;by_cases hr:isB [114,101,116,117,114,110] l=true
          · rw [if_pos hr] at hv;rcases hx:retR E l with ⟨s,l1⟩|l1
            · rw [hx] at hv;cases hv;have h1:=hl s (by simp);rw [ret_kind hx] at h1;exact absurd h1 (by decide)
            · rw [hx] at hv;cases hv
          · rw [if_neg hr] at hv ⊢;rcases hx:statR E B l with ⟨s,l1⟩|l1
            · rw [hx] at hv;rw [Xt.stat hz hE hB hL l s l1 hx];have h1:l1.length+1≤l.length:=stat_le hL hM l s l1 hx;exact blk_on n (acc++[s]) l1 v (by omega) hv hl m (by simp at hm ⊢;omega)
            · rw [hx] at hv;cases hv
omit hB hL hM in
theorem ret_no {w:List Tk} (hw:z.tail=w) (hn:w≠[]) {l:List Tk} {s:St} (h:retR E l=.ok s []):∀ v,retR E (l++z)≠.ok v []:=by
  cases l with
  | nil=>cases h
  | cons t l1 =>
    have hnz:z≠[]:=by obtain ⟨a,b,rfl,-,-⟩:=hz;simp
    have ez:isB [59] z=true:=by obtain ⟨a,b,rfl,h5,ht⟩:=hz;simp [isB,h5,ht]
    have enz:endsB z=false:=by obtain ⟨a,b,rfl,h5,ht⟩:=hz;simp [endsB,isB,h5,ht]
    have key:∀ (xs:List Ex) (l2:List Tk),(if endsB (if isB [59] l2=true then l2.tail else l2)=true then Res.ok (St.mk 11 t.line [] [] xs [] ⟨#[]⟩) (if isB [59] l2=true then l2.tail else l2) else .bad (if isB [59] l2=true then l2.tail else l2))=.ok s [] →
        ∀ v,(if endsB (if isB [59] (l2++z)=true then (l2++z).tail else l2++z)=true then Res.ok (St.mk 11 t.line [] [] xs [] ⟨#[]⟩) (if isB [59] (l2++z)=true then (l2++z).tail else l2++z) else .bad (if isB [59] (l2++z)=true then (l2++z).tail else l2++z))≠.ok v []:=by
      intro xs l2 h2 v
      have h3:(if isB [59] l2=true then l2.tail else l2)=[]:=by
        generalize (if isB [59] l2=true then l2.tail else l2)=q at h2;split at h2
        · cases h2;rfl
        · cases h2
      cases l2 with
      | nil =>
        rw [List.nil_append,if_pos ez,hw];intro h4;split at h4
        · cases h4;exact hn rfl
        · cases h4
      | cons a r =>
        by_cases h5:isB [59] (a::r)=true
        · rw [if_pos h5] at h3;have h6:r=[]:=h3;subst h6;have h7:isB [59] ([a]++z)=true:=h5;rw [if_pos h7];intro h8;rw [if_neg (by show ¬ endsB z=true;rw [enz];decide)] at h8;cases h8
        · rw [if_neg h5] at h3;cases h3
    have h0:Res.bind (if endsB l1=false∧isB [59] l1=false then listR E l1 else .ok [] l1) (fun xs l2=>if endsB (if isB [59] l2=true then l2.tail else l2)=true then Res.ok (St.mk 11 t.line [] [] xs [] ⟨#[]⟩) (if isB [59] l2=true then l2.tail else l2) else .bad (if isB [59] l2=true then l2.tail else l2))=.ok s []:=h;show ∀ v,Res.bind (if endsB (l1++z)=false∧isB [59] (l1++z)=false then listR E (l1++z) else .ok [] (l1++z)) (fun xs l2=>if endsB (if isB [59] l2=true then l2.tail else l2)=true then Res.ok (St.mk 11 t.line [] [] xs [] ⟨#[]⟩) (if isB [59] l2=true then l2.tail else l2) else .bad (if isB [59] l2=true then l2.tail else l2))≠.ok v [];by_cases hc:endsB l1=false∧isB [59] l1=false
    · have hl1:l1≠[]:=by rintro rfl;exact absurd hc.1 (by decide)
      have e2:isB [59] (l1++z)=isB [59] l1:=by cases l1 with|nil=>exact absurd rfl hl1|cons a r=>rfl
      rw [if_pos hc] at h0;rw [Xt.ends hz hl1,e2,if_pos hc];rcases hx:listR E l1 with ⟨xs,l2⟩|l2
      · rw [hx] at h0;rw [Xt.listR hz hE l1 xs l2 hx];exact key xs l2 h0
      · rw [hx] at h0;cases h0
    · rw [if_neg hc] at h0
      have hc2:¬ (endsB (l1++z)=false∧isB [59] (l1++z)=false):=by
        by_cases hl1:l1=[]
        · subst hl1;rintro ⟨-,h9⟩;rw [List.nil_append,ez] at h9;cases h9
        · have e2:isB [59] (l1++z)=isB [59] l1:=by cases l1 with|nil=>exact absurd rfl hl1|cons a r=>rfl
          rw [Xt.ends hz hl1,e2];exact hc
      rw [if_neg hc2];exact key [] l1 h0
theorem blk_no {w:List Tk} (hw:z.tail=w) (hn:w≠[]):∀ (n:Nat) (acc:List St) (l:List Tk) (v:List St),l.length<n→blkG E B n acc l=.ok v []→(∀ s ∈ acc,(s.kind==11)=false)→(∃ s,v.getLast?=some s∧s.kind=11)→∀ m v',blkG E B m acc (l++z)≠.ok v' []
  | 0,_,_,_,h,_,_,_,_,_=>absurd h (by omega)
  | n+1,acc,l,v,h,hv,ha,hl,0,v'=>fun h=>by cases h
  | n+1,acc,l,v,h,hv,ha,hl,m+1,v'=>by
    by_cases hnl:l=[]
    · subst hnl;have h9:acc=v:=by simp only [blkG] at hv;rw [if_pos (show endsB []=true from rfl)] at hv;cases hv;rfl
      subst h9;obtain ⟨s,h1,h2⟩:=hl;have h3:=ha s (List.mem_of_getLast? h1);rw [h2] at h3;exact absurd h3 (by decide)
    · simp only [blkG] at hv ⊢;rw [Xt.ends hz hnl,semi_is hnl,semi_is hnl];by_cases he:endsB l=true
      · rw [if_pos he] at hv;cases hv;exact absurd rfl hnl
      · rw [if_neg he] at hv ⊢;by_cases hs:isB [59] l=true
        · rw [if_pos hs] at hv ⊢;rw [Xt.tl hnl];exact blk_no hw hn n acc l.tail v (by have:=tail_lt hs;omega) hv ha hl m v'
        · rw [if_neg hs] at hv ⊢;by_cases hr:isB [114,101,116,117,114,110] l=true
          · rw [if_pos hr] at hv ⊢;rcases hx:retR E l with ⟨s,l1⟩|l1
            · rw [hx] at hv;cases hv;have h1:=ret_no hz hE hw hn hx;rcases hy:retR E (l++z) with ⟨s',l2⟩|l2
              · intro h2;cases h2;exact h1 _ hy
              · intro h2;cases h2
            · rw [hx] at hv;cases hv
          · rw [if_neg hr] at hv ⊢;rcases hx:statR E B l with ⟨s,l1⟩|l1
            · rw [hx] at hv;rw [Xt.stat hz hE hB hL l s l1 hx];have h1:l1.length+1≤l.length:=stat_le hL hM l s l1 hx;refine blk_no hw hn n (acc++[s]) l1 v (by omega) hv (fun s' h'=>?_) hl m v';rcases List.mem_append.1 h' with h3|h3
              · exact ha s' h3
              · rw [List.mem_singleton.1 h3];cases l with
                | nil=>exact absurd rfl hnl
                | cons t r=>exact (ln_stat E B t r s l1 hx).2
            · rw [hx] at hv;cases hv
omit hB hL hM in
theorem ret_same {l:List Tk} {s:St} (h:retR E l=.ok s []) {v:St} {r:List Tk} (hv:retR E (l++z)=.ok v r):v=s:=by
  cases l with
  | nil=>cases h
  | cons t l1 =>
    have key:∀ (m m':Res (List Ex)),(∀ xs l2 xs' l3,m=.ok xs l2→m'=.ok xs' l3→xs'=xs)→Res.bind m (fun xs l2=>if endsB (if isB [59] l2=true then l2.tail else l2)=true then Res.ok (St.mk 11 t.line [] [] xs [] ⟨#[]⟩) (if isB [59] l2=true then l2.tail else l2) else .bad (if isB [59] l2=true then l2.tail else l2))=.ok s [] →
        Res.bind m' (fun xs l2=>if endsB (if isB [59] l2=true then l2.tail else l2)=true then Res.ok (St.mk 11 t.line [] [] xs [] ⟨#[]⟩) (if isB [59] l2=true then l2.tail else l2) else .bad (if isB [59] l2=true then l2.tail else l2))=.ok v r→v=s:=by
      intro m m' hm h1 h2;rcases m with ⟨xs,l2⟩|l2
      · rcases m' with ⟨xs',l3⟩|l3
        · have:=hm _ _ _ _ rfl rfl;subst this
          have k2:∀ (q:List Tk) (s0 v:St) (r:List Tk),(if endsB q=true then Res.ok s0 q else .bad q)=.ok v r→v=s0:=by
            intro q s0 v r h;split at h
            · cases h;rfl
            · cases h
          exact (k2 _ _ _ _ h2).trans (k2 _ _ _ _ h1).symm
        · cases h2
      · cases h1
    refine key _ _ ?_ h hv;intro xs l2 xs' l3 e1 e2;change (if endsB (l1++z)=false∧isB [59] (l1++z)=false then listR E (l1++z) else .ok [] (l1++z))=.ok xs' l3 at e2;have ez:isB [59] z=true:=by obtain ⟨a,b,rfl,h5,ht⟩:=hz;simp [isB,h5,ht]
    by_cases hc:endsB l1=false∧isB [59] l1=false
    · have hl1:l1≠[]:=by rintro rfl;exact absurd hc.1 (by decide)
      have e3:isB [59] (l1++z)=isB [59] l1:=by cases l1 with|nil=>exact absurd rfl hl1|cons a r=>rfl
      rw [if_pos hc] at e1;rw [Xt.ends hz hl1,e3,if_pos hc,Xt.listR hz hE l1 xs l2 e1] at e2;cases e2;rfl
    · rw [if_neg hc] at e1
      have hc2:¬ (endsB (l1++z)=false∧isB [59] (l1++z)=false):=by
        by_cases hl1:l1=[]
        · subst hl1;rintro ⟨-,h9⟩;rw [List.nil_append,ez] at h9;cases h9
        · have e3:isB [59] (l1++z)=isB [59] l1:=by cases l1 with|nil=>exact absurd rfl hl1|cons a r=>rfl
          rw [Xt.ends hz hl1,e3];exact hc
      rw [if_neg hc2] at e2;cases e1;cases e2;rfl
theorem blk_same:∀ (n:Nat) (acc:List St) (l:List Tk) (v:List St),l.length<n→blkG E B n acc l=.ok v []→(∀ s ∈ acc,(s.kind==11)=false)→(∃ s,v.getLast?=some s∧s.kind=11)→∀ m v' r,blkG E B m acc (l++z)=.ok v' r→v'=v
  | 0,_,_,_,h,_,_,_,_,_,_=>absurd h (by omega)
  | n+1,acc,l,v,h,hv,ha,hl,0,v',r=>fun h=>by cases h
  | n+1,acc,l,v,h,hv,ha,hl,m+1,v',r=>by
    by_cases hnl:l=[]
    · subst hnl;have h9:acc=v:=by simp only [blkG] at hv;rw [if_pos (show endsB []=true from rfl)] at hv;cases hv;rfl
      subst h9;obtain ⟨s,h1,h2⟩:=hl;have h3:=ha s (List.mem_of_getLast? h1);rw [h2] at h3;exact absurd h3 (by decide)
    · simp only [blkG] at hv ⊢;rw [Xt.ends hz hnl,semi_is hnl,semi_is hnl];by_cases he:endsB l=true
      · rw [if_pos he] at hv;cases hv;exact absurd rfl hnl
      · rw [if_neg he] at hv ⊢;by_cases hs:isB [59] l=true
        · rw [if_pos hs] at hv ⊢;rw [Xt.tl hnl];exact blk_same n acc l.tail v (by have:=tail_lt hs;omega) hv ha hl m v' r
        · rw [if_neg hs] at hv ⊢;by_cases hr:isB [114,101,116,117,114,110] l=true
          · rw [if_pos hr] at hv ⊢;rcases hx:retR E l with ⟨s,l1⟩|l1
            · rw [hx] at hv;cases hv;rcases hy:retR E (l++z) with ⟨s',l2⟩|l2
              · intro h2;cases h2;rw [ret_same hz hE hx hy]
              · intro h2;cases h2
            · rw [hx] at hv;cases hv
          · rw [if_neg hr] at hv ⊢;rcases hx:statR E B l with ⟨s,l1⟩|l1
            · rw [hx] at hv;rw [Xt.stat hz hE hB hL l s l1 hx];have h1:l1.length+1≤l.length:=stat_le hL hM l s l1 hx;refine blk_same n (acc++[s]) l1 v (by omega) hv (fun s' h'=>?_) hl m v' r;rcases List.mem_append.1 h' with h3|h3
              · exact ha s' h3
              · rw [List.mem_singleton.1 h3];cases l with
                | nil=>exact absurd rfl hnl
                | cons t r=>exact (ln_stat E B t r s l1 hx).2
            · rw [hx] at hv;cases hv
end
theorem scan_semi (a ln:Nat) (s:Sb) (acc:List Tk):scanX a ln (59::s) acc=scanX (a+1) ln s (acc++[⟨5,txA [59],ln,a⟩]):=by
  have h:skipL false (59::s)=(0,0):=rfl;rw [scanX_eq a,h];have h2:(59::s:Sb).drop 0=59::s:=rfl
  have h3:tokL (a+0) (ln+0) (59::s)=.ok (⟨5,txA [59],ln,a⟩,1):=by
    unfold tokL;dsimp only;rw [if_neg (show ¬ initB 59=true by decide),if_neg (show ¬ digB 59=true by decide),if_neg (by decide)];rfl
  simp only [h2,h3];rfl
theorem scanT_both {s t:Sb} (hs:s.length≤2000) (ht:t.length≤2000) {L M:List Tk} (h1:scanT s=.ok L) (h2:scanT t=.ok M) :
    ∃ u:Tk,u.kind=5∧u.text=txA [59]∧scanT (s++10::59::t)=.ok (L++u::M.map (shT (s.length+2) (nlC s+1))):=by
  refine ⟨⟨5,txA [59],((1+nlC s+1:Nat):Int),((0+s.length+1:Nat):Int)⟩,rfl,rfl,?_⟩;have hl:(s++10::59::t).length≤65536:=by simp;omega
  rw [scanT_eq,if_neg (by omega)] at h1 h2 ⊢;rw [scan_nl (59::t) s.length 0 1 s [] (Nat.le_refl _),h1];simp only;rw [scan_semi,scan_acc t.length _ _ t _ (Nat.le_refl _)];have h:=scan_shift (0+s.length+1+1) (nlC s+1) t;rw [show 1+(nlC s+1)=1+nlC s+1 from by omega] at h;rw [h,h2];simp only [List.append_assoc,List.singleton_append,show 0+s.length+1+1=s.length+2 from by omega]
theorem both_ok {s t:Sb} (hs:s.length≤2000) (ht:t.length≤2000) {a b:List St} (ha:pblkW s=.ok a) (hb:pblkW t=.ok b) (hl:∀ x,a.getLast?=some x→(x.kind==11)=false) :
    pblkW (s++10::59::t)=.ok (a++St.mls (upL (nlC s+1)) b):=by
  obtain ⟨L,h1,h2⟩:=parseW_inv ha;obtain ⟨M,h3,h4⟩:=parseW_inv hb;obtain ⟨u,hk,ht',hsc⟩:=scanT_both hs ht h1 h3;have hz:Smi (u::M.map (shT (s.length+2) (nlC s+1))):=⟨u,_,rfl,hk,by rw [ht'];rfl⟩
  have hZ:=ZEB hz 69999;have hE:=EB_le 69999
  have e1:(EB 70000).2 (L++u::M.map (shT (s.length+2) (nlC s+1)))=blkG (EB 69999).1 (EB 69999).2 ((L++u::M.map (shT (s.length+2) (nlC s+1))).length+1) a (u::M.map (shT (s.length+2) (nlC s+1))) :=
    blk_on hz hZ.1 hZ.2 hE.1 hE.2 (L.length+1) [] L a (Nat.lt_succ_self _) h2 hl _ (Nat.lt_succ_self _)
  have e2:∀ k,(M.map (shT (s.length+2) (nlC s+1))).length<k→blkG (EB 69999).1 (EB 69999).2 (k+1) a (u::M.map (shT (s.length+2) (nlC s+1)))=preR a ((EB 70000).2 (M.map (shT (s.length+2) (nlC s+1)))):=by
    intro k hk2;have f1:endsB (u::M.map (shT (s.length+2) (nlC s+1)))=false:=by simp [endsB,isB,hk,ht',txA]
    have f2:isB [59] (u::M.map (shT (s.length+2) (nlC s+1)))=true:=by simp [isB,hk,ht',txA]
    rw [blkG,if_neg (by rw [f1];decide),if_pos f2];have h9:=blk_pre (E:=(EB 69999).1) (B:=(EB 69999).2) a k [] (M.map (shT (s.length+2) (nlC s+1)));rw [List.append_nil] at h9;rw [List.tail_cons,h9,blk_fuel hE.1 hE.2 k ((M.map (shT (s.length+2) (nlC s+1))).length+1) [] _ hk2 (Nat.lt_succ_self _)];rfl
  unfold pblkW;rw [parseW_ok hsc,e1,e2 _ (by simp;omega),sh_up _ _ (scanT_ok h3).1,((nt_up _ _).EB 70000).2 M,h4];rfl
theorem both_no {s t:Sb} (hs:s.length≤2000) (ht:t.length≤2000) {a b:List St} (ha:pblkW s=.ok a) (hb:pblkW t=.ok b) (hl:∃ x,a.getLast?=some x∧x.kind=11) (hn:b≠[]) :
    ∃ n,pblkW (s++10::59::t)=.error (n,4):=by
  obtain ⟨L,h1,h2⟩:=parseW_inv ha;obtain ⟨M,h3,h4⟩:=parseW_inv hb;obtain ⟨u,hk,ht',hsc⟩:=scanT_both hs ht h1 h3;have hz:Smi (u::M.map (shT (s.length+2) (nlC s+1))):=⟨u,_,rfl,hk,by rw [ht'];rfl⟩
  have hZ:=ZEB hz 69999;have hE:=EB_le 69999
  have hM:M.map (shT (s.length+2) (nlC s+1))≠[]:=by
    intro h9;have h8:M=[]:=List.map_eq_nil_iff.1 h9;subst h8;have h7:(EB 70000).2 []=.ok [] []:=rfl;rw [h7] at h4;cases h4;exact hn rfl
  have e1:∀ v',(EB 70000).2 (L++u::M.map (shT (s.length+2) (nlC s+1)))≠.ok v' []:=fun v' =>
    blk_no hz hZ.1 hZ.2 hE.1 hE.2 rfl hM (L.length+1) [] L a (Nat.lt_succ_self _) h2 (fun s h=>by cases h) hl _ v'
  unfold pblkW;rw [parseW_ok hsc];rcases hx:(EB 70000).2 (L++u::M.map (shT (s.length+2) (nlC s+1))) with ⟨v,_|⟨t,r⟩⟩|l
  · exact absurd hx (e1 v)
  · exact ⟨_,rfl⟩
  · exact ⟨_,rfl⟩
theorem both_same {s t:Sb} (hs:s.length≤2000) (ht:t.length≤2000) {a b c:List St} (ha:pblkW s=.ok a) (hb:pblkW t=.ok b) (hl:∃ x,a.getLast?=some x∧x.kind=11) (hc:pblkW (s++10::59::t)=.ok c):c=a:=by
  obtain ⟨L,h1,h2⟩:=parseW_inv ha;obtain ⟨M,h3,h4⟩:=parseW_inv hb;obtain ⟨u,hk,ht',hsc⟩:=scanT_both hs ht h1 h3;have hz:Smi (u::M.map (shT (s.length+2) (nlC s+1))):=⟨u,_,rfl,hk,by rw [ht'];rfl⟩
  have hZ:=ZEB hz 69999;have hE:=EB_le 69999;obtain ⟨L',h5,h6⟩:=parseW_inv hc;rw [hsc] at h5;cases h5;exact blk_same hz hZ.1 hZ.2 hE.1 hE.2 (L.length+1) [] L a (Nat.lt_succ_self _) h2 (fun s h=>by cases h) hl _ _ _ h6
theorem chunk_both {cv:List St→Int} (hcv:∀ (a b:List St) (e:Nat),cv a=0→cv b=0→(∀ x,a.getLast?=some x→(x.kind==11)=false)→cv (a++St.mls (upL e) b)=0∨cv (a++St.mls (upL e) b)=3)
    {s t:Sb} (hs:s.length≤2000) (ht:t.length≤2000) {a b:List St} (ha:chunkV cv s=.ok a) (hb:chunkV cv t=.ok b) :
    ((∃ x,a.getLast?=some x∧(x.kind==11)=true)∧b≠[]∧∃ n,chunkV cv (s++10::59::t)=.error (n,4)) ∨
    ((∃ x,a.getLast?=some x∧(x.kind==11)=true)∧b=[]∧((∃ n x,chunkV cv (s++10::59::t)=.error (n,x))∨chunkV cv (s++10::59::t)=.ok a)) ∨
    ((∀ x,a.getLast?=some x→(x.kind==11)=false)∧((∃ n,chunkV cv (s++10::59::t)=.error (n,3))∨∃ e,chunkV cv (s++10::59::t)=.ok (a++St.mls (upL e) b))):=by
  have inv:∀ {s:Sb} {a:List St},chunkV cv s=.ok a→pblkW s=.ok a∧cv a=0:=by
    intro s a h;unfold chunkV at h;rcases hp:pblkW s with e|b'
    · rw [hp] at h;cases h
    · rw [hp] at h;simp only at h;split at h
      · cases h;exact ⟨rfl,by assumption⟩
      · cases h
  obtain ⟨a1,a2⟩:=inv ha;obtain ⟨b1,b2⟩:=inv hb;by_cases hl:∃ x,a.getLast?=some x∧x.kind=11
  · have hl':∃ x,a.getLast?=some x∧(x.kind==11)=true:=by obtain ⟨x,h1,h2⟩:=hl;exact ⟨x,h1,by rw [h2];rfl⟩
    by_cases hn:b=[]
    · refine .inr (.inl ⟨hl',hn,?_⟩);rcases hc:chunkV cv (s++10::59::t) with ⟨n,x⟩|c
      · exact .inl ⟨n,x,rfl⟩
      · right;rw [both_same hs ht a1 b1 hl (inv hc).1]
    · refine .inl ⟨hl',hn,?_⟩;obtain ⟨n,h⟩:=both_no hs ht a1 b1 hl hn;exact ⟨n,by unfold chunkV;rw [h]⟩
  · have hl':∀ x,a.getLast?=some x→(x.kind==11)=false:=fun x hx=>by
      have:¬ x.kind=11:=fun h=>hl ⟨x,hx,h⟩;simpa using this
    refine .inr (.inr ⟨hl',?_⟩);have h:=both_ok hs ht a1 b1 hl';rcases hcv a b (nlC s+1) a2 b2 hl' with h0|h3
    · exact .inr ⟨_,by unfold chunkV;rw [h];simp only;rw [if_pos h0]⟩
    · exact .inl ⟨0,by unfold chunkV;rw [h];simp only;rw [if_neg (by rw [h3];decide),h3]⟩
end Go.Proofs.YtdekaghipjpgpaaGreatDoor
