/- Beneath how many binders a kid stands. -/
import Derived.Test.YtdpigpopcbjkmaaDoorAfC
import Derived.Test.YtdpigpopcbjkmaaDoorUn
import Derived.Test.YtdpigpopcbjkmaaDoorFc
set_option linter.unusedSimpArgs false
set_option linter.unusedVariables false
namespace Go.Proofs.YtdpigpopcbjkmaaDoor.Abs
open Go Go.RowKit Go.Proofs.YtdpigpopcbjkmaaDoor

/-! Binders -/
def bindsN (k p : Int) : Int :=
  if k = 3 ∨ k = 5 ∨ k = 6 ∨ k = 7 ∨ k = 8 ∨ k = 9 ∨ k = 13 ∨ k = 14 ∨ k = 16 ∨ k = 17 then (if p = 1 then 1 else 0)
  else if k = 4 then (if p = 1 ∨ p = 2 then 1 else 0)
  else if k = 22 then (if p = 2 then 2 else 0) else 0
theorem binds_le (k p : Int) : 0 ≤ bindsN k p ∧ bindsN k p ≤ 2 := by
  unfold bindsN
  repeat' split
  all_goals omega

set_option maxRecDepth 10000 in
set_option maxHeartbeats 1000000 in
theorem con_binds (k p : Int) : Con 36 [.int .i64 k, .int .i64 p] (.int .i64 (bindsN k p)) := by
  refine contract_of_vc mixed Tryd.func36 tr36 ?_
  by_cases h : k = 3 ∨ k = 5 ∨ k = 6 ∨ k = 7 ∨ k = 8 ∨ k = 9 ∨ k = 13 ∨ k = 14 ∨ k = 16 ∨ k = 17
  · have e : bindsN k p = if p = 1 then 1 else 0 := by unfold bindsN; rw [if_pos h]
    rw [e]
    rcases h with rfl | rfl | rfl | rfl | rfl | rfl | rfl | rfl | rfl | rfl <;>
      (cases hp : (p == 1) <;> simp only [beq_iff_eq, beq_eq_false_iff_ne, ne_eq] at hp <;> simp only [go_sem, reduceIte, reduceCtorEq, Nat.reduceAdd, Nat.reduceSub, Nat.reduceMul, Nat.reduceLT, Nat.reduceLeDiff, Nat.reduceEqDiff, Nat.reduceBEq, Nat.reduceGT, Int.reduceEq, Int.reduceNe, Int.reduceLT, Int.reduceLE, Int.reduceToNat, Int.reduceNeg, Int.reduceBEq, Int.reduceAdd, Int.reduceSub, Int.reduceGT, Int.reduceGE, Int.reduceBNe, hp, beq_no])
  · by_cases h4 : k = 4
    · subst h4
      have e : bindsN 4 p = if p = 1 ∨ p = 2 then 1 else 0 := by unfold bindsN; rw [if_neg (by decide), if_pos rfl]
      rw [e]
      by_cases h1 : p = 1
      · subst h1; simp only [go_sem, reduceIte, reduceCtorEq, Nat.reduceAdd, Nat.reduceSub, Nat.reduceMul, Nat.reduceLT, Nat.reduceLeDiff, Nat.reduceEqDiff, Nat.reduceBEq, Nat.reduceGT, Int.reduceEq, Int.reduceNe, Int.reduceLT, Int.reduceLE, Int.reduceToNat, Int.reduceNeg, Int.reduceBEq, Int.reduceAdd, Int.reduceSub, Int.reduceGT, Int.reduceGE, Int.reduceBNe]
      · by_cases h2 : p = 2
        · subst h2; simp only [go_sem, reduceIte, reduceCtorEq, Nat.reduceAdd, Nat.reduceSub, Nat.reduceMul, Nat.reduceLT, Nat.reduceLeDiff, Nat.reduceEqDiff, Nat.reduceBEq, Nat.reduceGT, Int.reduceEq, Int.reduceNe, Int.reduceLT, Int.reduceLE, Int.reduceToNat, Int.reduceNeg, Int.reduceBEq, Int.reduceAdd, Int.reduceSub, Int.reduceGT, Int.reduceGE, Int.reduceBNe]
        · rw [if_neg (by omega)]
          simp only [go_sem, reduceIte, reduceCtorEq, Nat.reduceAdd, Nat.reduceSub, Nat.reduceMul, Nat.reduceLT, Nat.reduceLeDiff, Nat.reduceEqDiff, Nat.reduceBEq, Nat.reduceGT, Int.reduceEq, Int.reduceNe, Int.reduceLT, Int.reduceLE, Int.reduceToNat, Int.reduceNeg, Int.reduceBEq, Int.reduceAdd, Int.reduceSub, Int.reduceGT, Int.reduceGE, Int.reduceBNe, beq_no h1, beq_no h2]
    · by_cases h22 : k = 22
      · subst h22
        have e : bindsN 22 p = if p = 2 then 2 else 0 := by unfold bindsN; rw [if_neg (by decide), if_neg (by decide), if_pos rfl]
        rw [e]
        by_cases h2 : p = 2
        · subst h2; simp only [go_sem, reduceIte, reduceCtorEq, Nat.reduceAdd, Nat.reduceSub, Nat.reduceMul, Nat.reduceLT, Nat.reduceLeDiff, Nat.reduceEqDiff, Nat.reduceBEq, Nat.reduceGT, Int.reduceEq, Int.reduceNe, Int.reduceLT, Int.reduceLE, Int.reduceToNat, Int.reduceNeg, Int.reduceBEq, Int.reduceAdd, Int.reduceSub, Int.reduceGT, Int.reduceGE, Int.reduceBNe]
        · rw [if_neg h2]
          simp only [go_sem, reduceIte, reduceCtorEq, Nat.reduceAdd, Nat.reduceSub, Nat.reduceMul, Nat.reduceLT, Nat.reduceLeDiff, Nat.reduceEqDiff, Nat.reduceBEq, Nat.reduceGT, Int.reduceEq, Int.reduceNe, Int.reduceLT, Int.reduceLE, Int.reduceToNat, Int.reduceNeg, Int.reduceBEq, Int.reduceAdd, Int.reduceSub, Int.reduceGT, Int.reduceGE, Int.reduceBNe, beq_no h2]
      · have e : bindsN k p = 0 := by unfold bindsN; rw [if_neg h, if_neg h4, if_neg h22]
        rw [e]
        simp only [go_sem, reduceIte, reduceCtorEq, Nat.reduceAdd, Nat.reduceSub, Nat.reduceMul, Nat.reduceLT, Nat.reduceLeDiff, Nat.reduceEqDiff, Nat.reduceBEq, Nat.reduceGT, Int.reduceEq, Int.reduceNe, Int.reduceLT, Int.reduceLE, Int.reduceToNat, Int.reduceNeg, Int.reduceBEq, Int.reduceAdd, Int.reduceSub, Int.reduceGT, Int.reduceGE, Int.reduceBNe, beq_no (show k ≠ 3 by omega), beq_no h4, beq_no (show k ≠ 5 by omega), beq_no (show k ≠ 6 by omega), beq_no (show k ≠ 7 by omega), beq_no (show k ≠ 8 by omega), beq_no (show k ≠ 9 by omega), beq_no (show k ≠ 13 by omega), beq_no (show k ≠ 14 by omega), beq_no (show k ≠ 16 by omega), beq_no (show k ≠ 17 by omega), beq_no h22]


end Go.Proofs.YtdpigpopcbjkmaaDoor.Abs
