/- The printer's questions: level, prefix, operator, named. -/
import Derived.Test.YtdmdhopfgnlnoaaGreatDoorP1
import Derived.Test.YtdmdhopfgnlnoaaGreatDoorCH
namespace Go.Proofs.YtdmdhopfgnlnoaaGreatDoor
open Go.RowKit
set_option linter.unusedVariables false
set_option linter.unusedSimpArgs false
set_option maxHeartbeats 4000000
set_option maxRecDepth 100000
theorem yP6a {P:Prop} (h:P:=by
  subst e;clear HP
  go_enter Tryz.func76,Tryz.ntmps76
  go_wp2_with fail
  go_ret;exact ⟨rfl,bw⟩):P:=h
theorem qR (x:Ex) (d:EA) (w:World) :
    Calls Tryz.prog 76 #[(eV x d)] w fun e w'=>e=.returned (.bool (Qf x))∧Below w.heap.size w w':=by
  delta eV
  obtain ⟨pb,hpb⟩:∃ b,b=Qf x:=⟨_,rfl⟩
  rw [←hpb];have HP:=hI hpb;clear hpb;cases h7:(x.kind==7)
  · cases h8:(x.kind==8)
    · cases h9:(x.kind==9)
      · cases h10:(x.kind==10)
        · cases h19:(x.kind==19)
          · have e:pb=false:=by rw [HP.out];unfold Qf;rw [h7,h8,h9,h10,h19];rfl
            exact yP6a
          · have e:pb=true:=by rw [HP.out];unfold Qf;rw [h7,h8,h9,h10,h19];rfl
            exact yP6a
        · have e:pb=true:=by rw [HP.out];unfold Qf;rw [h7,h8,h9,h10];rfl
          exact yP6a
      · have e:pb=true:=by rw [HP.out];unfold Qf;rw [h7,h8,h9];rfl
        exact yP6a
    · have e:pb=true:=by rw [HP.out];unfold Qf;rw [h7,h8];rfl
      exact yP6a
  · have e:pb=true:=by rw [HP.out];unfold Qf;rw [h7];rfl
    exact yP6a
theorem yP6b {P:Prop} (h:P:=by
  subst e;clear HL h
  go_enter Tryz.func46,Tryz.ntmps46
  go_wp2_with fail
  go_ret;exact ⟨rfl,bw⟩):P:=h
theorem zC {B p m:Nat} {T:Bs} (x:Ex) (d:EA) (w:World) (ho:QO x.op) (h:zw B p m T w) :
    Calls Tryz.prog 46 #[.pointer (some ⟨p,0,none⟩),(eV x d)] w fun e w'=>e=.returned (.int .i64 (Qb x))∧Below w.heap.size w w':=by
  delta eV
  obtain ⟨lv,hlv⟩:∃ b,b=Qb x:=⟨_,rfl⟩
  rw [←hlv];have HL:=hI hlv;clear hlv;cases h18:(x.kind==18)
  · cases h17:(x.kind==17)
    · cases h16:(x.kind==16)
      · cases h15:(x.kind==15)
        · have e:lv=13:=by
            rw [HL.out];unfold Qb;simp only [beq_eq_false_iff_ne] at h18 h17 h16 h15;rw [if_neg h18,if_neg h17,if_neg h16,if_neg h15]
          exact yP6b
        · have e:lv=11:=by
            rw [HL.out];unfold Qb;simp only [beq_eq_false_iff_ne,beq_iff_eq] at h18 h17 h16 h15;rw [if_neg h18,if_neg h17,if_neg h16,if_pos h15]
          exact yP6b
      · have e:lv=yn x.op:=by
          rw [HL.out];unfold Qb;simp only [beq_eq_false_iff_ne,beq_iff_eq] at h18 h17 h16;rw [if_neg h18,if_neg h17,if_pos h16]
        subst e;clear HL;obtain ⟨q,v,hc⟩:=h.cells;have hplt:=h.lt.2;have c2:w.cell? ⟨p,2,none⟩=some (.map (some m)):=by rw [Za hc];rfl
        have hlook:∀ n,(Instr.lookup 58 (.map (some m)) (.int .i64 x.op) false).run Tryz.prog ((w.alloc (.cells #[.int .i64 x.kind,.int .i64 x.op,.int .i64 x.line,.int .i64 x.p,.int .i64 x.q,.string x.str,.slice d.a x.args.length d.c,.slice d.fa x.funcs.length d.fc] 37)).drewN n)=.ok (.int .i64 (yn x.op)) ((w.alloc (.cells #[.int .i64 x.kind,.int .i64 x.op,.int .i64 x.line,.int .i64 x.p,.int .i64 x.q,.string x.str,.slice d.a x.args.length d.c,.slice d.fa x.funcs.length d.fc] 37)).drewN n):=fun n=>(h.mp.below bw).look x.op ho;clear h hc
        go_enter Tryz.func46,Tryz.ntmps46
        go_wp2_with fail
        go_quiet (fail)
        go_wp2_with fail
        go_ret;exact ⟨rfl,bw⟩
    · have e:lv=2:=by
        rw [HL.out];unfold Qb;simp only [beq_eq_false_iff_ne,beq_iff_eq] at h18 h17;rw [if_neg h18,if_pos h17]
      exact yP6b
  · have e:lv=1:=by
      rw [HL.out];unfold Qb;simp only [beq_iff_eq] at h18;rw [if_pos h18]
    exact yP6b
theorem vq (o:Int) (w:World) (h1:1≤o) (h2:o≤23) :
    Calls Tryz.prog 44 #[.int .i64 o] w fun e w'=>e=.returned (.string ⟨(qj o).toArray⟩)∧Below w.heap.size w w':=by
  have hs:o=1∨o=2∨o=3∨o=4∨o=5∨o=6∨o=7∨o=8∨o=9∨o=10∨o=11∨o=12∨o=13∨o=14∨o=15∨o=16∨o=17∨o=18∨o=19∨o=20∨o=21∨o=22∨o=23:=by omega
  clear h1 h2;rcases hs with rfl|rfl|rfl|rfl|rfl|rfl|rfl|rfl|rfl|rfl|rfl|rfl|rfl|rfl|rfl|rfl|rfl|rfl|rfl|rfl|rfl|rfl|rfl
  all_goals
    go_enter Tryz.func44,Tryz.ntmps44
    go_wp2_with fail
    go_ret;exact ⟨rfl,bw⟩
theorem named_any (x:Ex) (d:EA) (w:World) (hs:x.str.size≤MX) :
    Calls Tryz.prog 78 #[(eV x d)] w fun e w'=>e=.returned (.bool (zt x))∧Below w.heap.size w w':=by
  delta eV
  obtain ⟨nb,hnb⟩:∃ b,b=zt x:=⟨_,rfl⟩
  obtain ⟨nm,hnm⟩:∃ b,b=ZG x.str:=⟨_,rfl⟩
  have HN:=hI (show ∀ w',Calls Tryz.prog 87 #[.string x.str] w' fun e w''=>e=.returned (.bool nm)∧Below w'.heap.size w' w'' from fun w'=>by rw [hnm];exact QX x.str w' hs);rw [←hnb];have HB:=hI (hnb.trans (by unfold zt;rw [←hnm]));clear hnb hnm;cases h5:(x.kind==5)
  · have e:nb=false:=by rw [HB.out,h5];rfl
    subst e;clear HB
    go_enter Tryz.func78,Tryz.ntmps78
    go_wp2_with fail
    go_ret;exact ⟨rfl,bw⟩
  · have e:nb=nm:=by rw [HB.out,h5];rfl
    subst e;clear HB
    go_enter Tryz.func78,Tryz.ntmps78
    go_wp2_with (go_at_call 87;(with_reducible refine (HN.out _).mono ?_);rintro e w2 ⟨rfl,hb2⟩)
    go_ret;exact ⟨rfl,bw⟩
end Go.Proofs.YtdmdhopfgnlnoaaGreatDoor
