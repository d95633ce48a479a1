/- Contracts of ref03.Symbol and token. -/
import Derived.Test.YtdekaghipjpgpaaGreatDoorA7
import Derived.Test.YtdekaghipjpgpaaGreatDoorWD
namespace Go.Proofs.YtdekaghipjpgpaaGreatDoor
open Go.RowKit
set_option linter.unusedVariables false
set_option linter.unusedSimpArgs false
def sy2:List Sb:=[[47,47],[60,60],[62,62],[61,61],[126,61],[60,61],[62,61],[58,58],[46,46]]
def sy1:List Sb:=[[43],[45],[42],[47],[37],[94],[35],[38],[124],[126],[60],[62],[61],[40],[41],[123],[125],[91],[93],[59],[58],[44],[46]]
theorem find_take (n:Nat):∀ (L:List Sb),(∀ y ∈ L,y.length=n)→∀ l:Sb,L.find? (·.isPrefixOf l)=if l.take n ∈ L then some (l.take n) else none
  | [],_,l=>rfl
  | y::L,h,l=>by
    have ih:=find_take n L (fun z hz=>h z (List.mem_cons_of_mem _ hz)) l;have hy:=h y List.mem_cons_self;rw [List.find?_cons];cases hp:y.isPrefixOf l
    · simp only;rw [ih]
      have hne:l.take n≠y:=fun he=>by
        have:y <+: l:=by rw [←he];exact List.take_prefix n l
        rw [←List.isPrefixOf_iff_prefix,hp] at this;cases this
      by_cases hm:l.take n ∈ L
      · rw [if_pos hm,if_pos (List.mem_cons_of_mem _ hm)]
      · rw [if_neg hm,if_neg (fun h9=>by rcases List.mem_cons.1 h9 with h9|h9;exact hne h9;exact hm h9)]
    · simp only;have he:y=l.take n:=by rw [←hy];exact List.prefix_iff_eq_take.1 (List.isPrefixOf_iff_prefix.1 hp)
      rw [←he,if_pos List.mem_cons_self]
def symN (l:Sb):Nat:=if l.take 3=[46,46,46] then 3 else if l.take 2 ∈ sy2 then 2 else if l.take 1 ∈ sy1 then 1 else 0
theorem sym_find (l:Sb):symsL.find? (·.isPrefixOf l)=if symN l=0 then none else some (l.take (symN l)):=by
  have e:symsL=[[46,46,46]]++(sy2++sy1):=rfl;rw [e,List.find?_append,List.find?_append,find_take 3 [[46,46,46]] (by decide),find_take 2 sy2 (by decide),find_take 1 sy1 (by decide)];unfold symN;by_cases h3:l.take 3=[46,46,46]
  · rw [if_pos (by rw [h3];simp),if_pos h3];rfl
  · rw [if_neg (by simpa using h3),if_neg h3];by_cases h2:l.take 2 ∈ sy2
    · rw [if_pos h2,if_pos h2];rfl
    · rw [if_neg h2,if_neg h2];by_cases h1:l.take 1 ∈ sy1
      · rw [if_pos h1,if_pos h1];rfl
      · rw [if_neg h1,if_neg h1];rfl
set_option maxRecDepth 100000 in
set_option maxHeartbeats 8000000 in
theorem rsymbol_any (s:ByteArray) (w:World):Calls Tryz.prog 61 #[.string s] w fun e w'=>e=.returned (.int .i64 ((symN s.data.toList:Nat):Int))∧w'=w:=by
  obtain ⟨N,hN⟩:∃ N,N=symN s.data.toList:=⟨_,rfl⟩
  rw [←hN];have HN:=hI hN;have e3:(s.extract 0 3).toList=s.data.toList.take 3:=by rw [ByteArray.toList_eq,ext_tl];rfl
  have e2:(s.extract 0 2).toList=s.data.toList.take 2:=by rw [ByteArray.toList_eq,ext_tl];rfl
  have hlen:s.data.toList.length=s.size:=by simp
  clear hN;by_cases c3:s.data.toList.take 3=[46,46,46]
  · have h3:3≤s.size:=by have h9:=congrArg List.length c3;rw [List.length_take,hlen] at h9;simp at h9;omega
    rw [c3] at e3;have he:N=3:=by rw [HN.out];unfold symN;rw [if_pos c3]
    subst he;clear HN c3 hlen e2
    go_enter Tryz.func61,Tryz.ntmps61
    go_wp2_with fail
    go_ret;exact ⟨rfl,rfl⟩
  have t3:(s.data.toList.take 3==[46,46,46])=false:=by simpa using c3
  by_cases c2:s.data.toList.take 2 ∈ sy2
  · have h2:2≤s.size:=by
      have h9:(s.data.toList.take 2).length=2:=by
        have:∀ y ∈ sy2,y.length=2:=by decide
        exact this _ c2
      rw [List.length_take,hlen] at h9;omega
    have he:N=2:=by rw [HN.out];unfold symN;rw [if_neg c3,if_pos c2]
    subst he;clear HN c3 hlen;generalize s.data.toList.take 2=X at e2 c2;simp only [sy2,List.mem_cons,List.not_mem_nil,or_false] at c2;rcases c2 with rfl|rfl|rfl|rfl|rfl|rfl|rfl|rfl|rfl
    all_goals
      go_enter Tryz.func61,Tryz.ntmps61
      go_wp2_with fail
      all_goals
        go_ret;exact ⟨rfl,rfl⟩
  have q0:(s.data.toList.take 2==[47,47])=false:=by rw [beq_eq_false_iff_ne];exact fun h=>c2 (by rw [h];decide)
  have q1:(s.data.toList.take 2==[60,60])=false:=by rw [beq_eq_false_iff_ne];exact fun h=>c2 (by rw [h];decide)
  have q2:(s.data.toList.take 2==[62,62])=false:=by rw [beq_eq_false_iff_ne];exact fun h=>c2 (by rw [h];decide)
  have q3:(s.data.toList.take 2==[61,61])=false:=by rw [beq_eq_false_iff_ne];exact fun h=>c2 (by rw [h];decide)
  have q4:(s.data.toList.take 2==[126,61])=false:=by rw [beq_eq_false_iff_ne];exact fun h=>c2 (by rw [h];decide)
  have q5:(s.data.toList.take 2==[60,61])=false:=by rw [beq_eq_false_iff_ne];exact fun h=>c2 (by rw [h];decide)
  have q6:(s.data.toList.take 2==[62,61])=false:=by rw [beq_eq_false_iff_ne];exact fun h=>c2 (by rw [h];decide)
  have q7:(s.data.toList.take 2==[58,58])=false:=by rw [beq_eq_false_iff_ne];exact fun h=>c2 (by rw [h];decide)
  have q8:(s.data.toList.take 2==[46,46])=false:=by rw [beq_eq_false_iff_ne];exact fun h=>c2 (by rw [h];decide)
  by_cases h0:0<s.size
  rotate_left
  · have he:N=0:=by
      have hz:s.data.toList=[]:=List.length_eq_zero_iff.1 (by omega);rw [HN.out,hz];rfl
    subst he;clear HN c3 c2 hlen
    go_enter Tryz.func61,Tryz.ntmps61
    go_wp2_with fail
    go_ret;exact ⟨rfl,rfl⟩
  have hd:s.data.toList.take 1=[s[0]]:=by have:=drop_at s 0 h0;rw [List.drop_zero] at this;rw [this];rfl
  have hcb:(s[0].toNat:Int)≤255:=by have:=(s[0]).toNat_lt;omega
  have hu:∀ n:Nat,n<256→(s[0]=UInt8.ofNat n↔(s[0].toNat:Int)=n):=fun n hn=>by
    rw [←UInt8.toNat_inj,UInt8.toNat_ofNat_of_lt' (by exact hn)];omega
  by_cases c1:s.data.toList.take 1 ∈ sy1
  · have he:N=1:=by rw [HN.out];unfold symN;rw [if_neg c3,if_neg c2,if_pos c1]
    subst he;rw [hd] at c1
    have c1:(s[0].toNat:Int)=43∨(s[0].toNat:Int)=45∨(s[0].toNat:Int)=42∨(s[0].toNat:Int)=47∨(s[0].toNat:Int)=37∨(s[0].toNat:Int)=94∨(s[0].toNat:Int)=35∨(s[0].toNat:Int)=38∨(s[0].toNat:Int)=124∨(s[0].toNat:Int)=126∨(s[0].toNat:Int)=60∨(s[0].toNat:Int)=62∨(s[0].toNat:Int)=61∨(s[0].toNat:Int)=40∨(s[0].toNat:Int)=41∨(s[0].toNat:Int)=123∨(s[0].toNat:Int)=125∨(s[0].toNat:Int)=91∨(s[0].toNat:Int)=93∨(s[0].toNat:Int)=59∨(s[0].toNat:Int)=58∨(s[0].toNat:Int)=44∨(s[0].toNat:Int)=46:=by
      simp only [sy1,List.mem_cons,List.not_mem_nil,or_false,List.cons.injEq,and_true] at c1;rcases c1 with h|h|h|h|h|h|h|h|h|h|h|h|h|h|h|h|h|h|h|h|h|h|h <;> rw [h] <;> decide
    clear HN c3 c2 hlen hd hu;rcases c1 with t1|t1|t1|t1|t1|t1|t1|t1|t1|t1|t1|t1|t1|t1|t1|t1|t1|t1|t1|t1|t1|t1|t1
    all_goals
      go_enter Tryz.func61,Tryz.ntmps61
      go_wp2_with fail
      all_goals
        go_ret;exact ⟨rfl,rfl⟩
  · have he:N=0:=by rw [HN.out];unfold symN;rw [if_neg c3,if_neg c2,if_neg c1]
    subst he;rw [hd] at c1;have r0:((s[0].toNat:Int)==43)=false:=by rw [beq_eq_false_iff_ne];exact fun h=>c1 (by rw [(hu 43 (by decide)).2 h];decide)
    have r1:((s[0].toNat:Int)==45)=false:=by rw [beq_eq_false_iff_ne];exact fun h=>c1 (by rw [(hu 45 (by decide)).2 h];decide)
    have r2:((s[0].toNat:Int)==42)=false:=by rw [beq_eq_false_iff_ne];exact fun h=>c1 (by rw [(hu 42 (by decide)).2 h];decide)
    have r3:((s[0].toNat:Int)==47)=false:=by rw [beq_eq_false_iff_ne];exact fun h=>c1 (by rw [(hu 47 (by decide)).2 h];decide)
    have r4:((s[0].toNat:Int)==37)=false:=by rw [beq_eq_false_iff_ne];exact fun h=>c1 (by rw [(hu 37 (by decide)).2 h];decide)
    have r5:((s[0].toNat:Int)==94)=false:=by rw [beq_eq_false_iff_ne];exact fun h=>c1 (by rw [(hu 94 (by decide)).2 h];decide)
    have r6:((s[0].toNat:Int)==35)=false:=by rw [beq_eq_false_iff_ne];exact fun h=>c1 (by rw [(hu 35 (by decide)).2 h];decide)
    have r7:((s[0].toNat:Int)==38)=false:=by rw [beq_eq_false_iff_ne];exact fun h=>c1 (by rw [(hu 38 (by decide)).2 h];decide)
    have r8:((s[0].toNat:Int)==124)=false:=by rw [beq_eq_false_iff_ne];exact fun h=>c1 (by rw [(hu 124 (by decide)).2 h];decide)
    have r9:((s[0].toNat:Int)==126)=false:=by rw [beq_eq_false_iff_ne];exact fun h=>c1 (by rw [(hu 126 (by decide)).2 h];decide)
    have r10:((s[0].toNat:Int)==60)=false:=by rw [beq_eq_false_iff_ne];exact fun h=>c1 (by rw [(hu 60 (by decide)).2 h];decide)
    have r11:((s[0].toNat:Int)==62)=false:=by rw [beq_eq_false_iff_ne];exact fun h=>c1 (by rw [(hu 62 (by decide)).2 h];decide)
    have r12:((s[0].toNat:Int)==61)=false:=by rw [beq_eq_false_iff_ne];exact fun h=>c1 (by rw [(hu 61 (by decide)).2 h];decide)
    have r13:((s[0].toNat:Int)==40)=false:=by rw [beq_eq_false_iff_ne];exact fun h=>c1 (by rw [(hu 40 (by decide)).2 h];decide)
    have r14:((s[0].toNat:Int)==41)=false:=by rw [beq_eq_false_iff_ne];exact fun h=>c1 (by rw [(hu 41 (by decide)).2 h];decide)
    have r15:((s[0].toNat:Int)==123)=false:=by rw [beq_eq_false_iff_ne];exact fun h=>c1 (by rw [(hu 123 (by decide)).2 h];decide)
    have r16:((s[0].toNat:Int)==125)=false:=by rw [beq_eq_false_iff_ne];exact fun h=>c1 (by rw [(hu 125 (by decide)).2 h];decide)
    have r17:((s[0].toNat:Int)==91)=false:=by rw [beq_eq_false_iff_ne];exact fun h=>c1 (by rw [(hu 91 (by decide)).2 h];decide)
    have r18:((s[0].toNat:Int)==93)=false:=by rw [beq_eq_false_iff_ne];exact fun h=>c1 (by rw [(hu 93 (by decide)).2 h];decide)
    have r19:((s[0].toNat:Int)==59)=false:=by rw [beq_eq_false_iff_ne];exact fun h=>c1 (by rw [(hu 59 (by decide)).2 h];decide)
    have r20:((s[0].toNat:Int)==58)=false:=by rw [beq_eq_false_iff_ne];exact fun h=>c1 (by rw [(hu 58 (by decide)).2 h];decide)
    have r21:((s[0].toNat:Int)==44)=false:=by rw [beq_eq_false_iff_ne];exact fun h=>c1 (by rw [(hu 44 (by decide)).2 h];decide)
    have r22:((s[0].toNat:Int)==46)=false:=by rw [beq_eq_false_iff_ne];exact fun h=>c1 (by rw [(hu 46 (by decide)).2 h];decide)
    clear HN c3 c2 c1 hlen hd hu
    go_enter Tryz.func61,Tryz.ntmps61
    go_wp2_with fail
    all_goals
      go_ret;exact ⟨rfl,rfl⟩
end Go.Proofs.YtdekaghipjpgpaaGreatDoor
