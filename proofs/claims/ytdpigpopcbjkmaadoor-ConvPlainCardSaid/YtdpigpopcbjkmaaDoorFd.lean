/- The page's count of kids. -/
import Derived.Test.YtdpigpopcbjkmaaDoorFc
set_option linter.unusedSimpArgs false
set_option linter.unusedVariables false
namespace Go.Proofs.YtdpigpopcbjkmaaDoor.Abs
open Go Go.RowKit Go.Proofs.YtdpigpopcbjkmaaDoor
theorem wl0 : IntKind.i64.wrap 0 = 0 := by decide
theorem wl1 : IntKind.i64.wrap 1 = 1 := by decide
theorem wl2 : IntKind.i64.wrap 2 = 2 := by decide
theorem wl3 : IntKind.i64.wrap 3 = 3 := by decide
theorem wl4 : IntKind.i64.wrap 4 = 4 := by decide
theorem wl5 : IntKind.i64.wrap 5 = 5 := by decide
theorem wl6 : IntKind.i64.wrap 6 = 6 := by decide
theorem wl7 : IntKind.i64.wrap 7 = 7 := by decide
theorem wl8 : IntKind.i64.wrap 8 = 8 := by decide
theorem wl9 : IntKind.i64.wrap 9 = 9 := by decide
theorem wl10 : IntKind.i64.wrap 10 = 10 := by decide
theorem wl11 : IntKind.i64.wrap 11 = 11 := by decide
theorem wl12 : IntKind.i64.wrap 12 = 12 := by decide
theorem wl13 : IntKind.i64.wrap 13 = 13 := by decide
theorem wl14 : IntKind.i64.wrap 14 = 14 := by decide
theorem wl15 : IntKind.i64.wrap 15 = 15 := by decide
theorem wl16 : IntKind.i64.wrap 16 = 16 := by decide
theorem wl17 : IntKind.i64.wrap 17 = 17 := by decide
theorem wl18 : IntKind.i64.wrap 18 = 18 := by decide
theorem wl19 : IntKind.i64.wrap 19 = 19 := by decide
theorem wl20 : IntKind.i64.wrap 20 = 20 := by decide
theorem wl21 : IntKind.i64.wrap 21 = 21 := by decide

set_option maxRecDepth 10000 in
set_option maxHeartbeats 1000000 in
theorem con_rkids23 (n : Int) : Con 30 [.int .i64 23, .int .i64 n] (.int .i64 (kidsN 23 n)) := by
  refine contract_of_vc mixed Tryd.func30 tr30 ?_
  by_cases hs : 1 ≤ n ∧ n ≤ 21
  · have : n = 1 ∨ n = 2 ∨ n = 3 ∨ n = 4 ∨ n = 5 ∨ n = 6 ∨ n = 7 ∨ n = 8 ∨ n = 9 ∨ n = 10 ∨ n = 11 ∨ n = 12 ∨ n = 13 ∨ n = 14 ∨ n = 15 ∨ n = 16 ∨ n = 17 ∨ n = 18 ∨ n = 19 ∨ n = 20 ∨ n = 21 := by omega
    clear hs
    rcases this with rfl | rfl | rfl | rfl | rfl | rfl | rfl | rfl | rfl | rfl | rfl | rfl | rfl | rfl | rfl | rfl | rfl | rfl | rfl | rfl | rfl <;> (as_aux_lemma => (simp only [go_sem, reduceIte, reduceCtorEq, Nat.reduceAdd, Nat.reduceSub, Nat.reduceMul, Nat.reduceLT, Nat.reduceLeDiff, Nat.reduceEqDiff, Nat.reduceBEq, Nat.reduceGT, Int.reduceEq, Int.reduceNe, Int.reduceLT, Int.reduceLE, Int.reduceToNat, Int.reduceNeg, Int.reduceBEq, Int.reduceAdd, Int.reduceSub, Int.reduceGT, Int.reduceGE, Int.reduceBNe, wl0, wl1, wl2, wl3, wl4, wl5, wl6, wl7, wl8, wl9, wl10, wl11, wl12, wl13, wl14, wl15, wl16, wl17, wl18, wl19, wl20, wl21]; rfl))
  · have e : kidsN 23 n = -1 := by unfold kidsN takesN tab; rw [if_pos rfl, if_neg (by simpa using hs)]
    rw [e]
    simp only [go_sem, reduceIte, reduceCtorEq, Nat.reduceAdd, Nat.reduceSub, Nat.reduceMul, Nat.reduceLT, Nat.reduceLeDiff, Nat.reduceEqDiff, Nat.reduceBEq, Nat.reduceGT, Int.reduceEq, Int.reduceNe, Int.reduceLT, Int.reduceLE, Int.reduceToNat, Int.reduceNeg, Int.reduceBEq, Int.reduceAdd, Int.reduceSub, Int.reduceGT, Int.reduceGE, Int.reduceBNe]
    by_cases h1 : 1 ≤ n
    · have h2 : ¬ n ≤ 21 := by omega
      simp only [go_sem, reduceIte, reduceCtorEq, Nat.reduceAdd, Nat.reduceSub, Nat.reduceMul, Nat.reduceLT, Nat.reduceLeDiff, Nat.reduceEqDiff, Nat.reduceBEq, Nat.reduceGT, Int.reduceEq, Int.reduceNe, Int.reduceLT, Int.reduceLE, Int.reduceToNat, Int.reduceNeg, Int.reduceBEq, Int.reduceAdd, Int.reduceSub, Int.reduceGT, Int.reduceGE, Int.reduceBNe, h1, h2]
    · simp only [go_sem, reduceIte, reduceCtorEq, Nat.reduceAdd, Nat.reduceSub, Nat.reduceMul, Nat.reduceLT, Nat.reduceLeDiff, Nat.reduceEqDiff, Nat.reduceBEq, Nat.reduceGT, Int.reduceEq, Int.reduceNe, Int.reduceLT, Int.reduceLE, Int.reduceToNat, Int.reduceNeg, Int.reduceBEq, Int.reduceAdd, Int.reduceSub, Int.reduceGT, Int.reduceGE, Int.reduceBNe, h1]

set_option maxRecDepth 10000 in
theorem con_rkids (k n : Int) : Con 30 [.int .i64 k, .int .i64 n] (.int .i64 (kidsN k n)) := by
  by_cases h : 1 ≤ k ∧ k ≤ 22
  · have : k = 1 ∨ k = 2 ∨ k = 3 ∨ k = 4 ∨ k = 5 ∨ k = 6 ∨ k = 7 ∨ k = 8 ∨ k = 9 ∨ k = 10 ∨ k = 11 ∨ k = 12 ∨ k = 13 ∨ k = 14 ∨ k = 15 ∨ k = 16 ∨ k = 17 ∨ k = 18 ∨ k = 19 ∨ k = 20 ∨ k = 21 ∨ k = 22 := by omega
    clear h
    refine contract_of_vc mixed Tryd.func30 tr30 ?_
    rcases this with rfl | rfl | rfl | rfl | rfl | rfl | rfl | rfl | rfl | rfl | rfl | rfl | rfl | rfl | rfl | rfl | rfl | rfl | rfl | rfl | rfl | rfl <;> (as_aux_lemma => (simp only [go_sem, reduceIte, reduceCtorEq, Nat.reduceAdd, Nat.reduceSub, Nat.reduceMul, Nat.reduceLT, Nat.reduceLeDiff, Nat.reduceEqDiff, Nat.reduceBEq, Nat.reduceGT, Int.reduceEq, Int.reduceNe, Int.reduceLT, Int.reduceLE, Int.reduceToNat, Int.reduceNeg, Int.reduceBEq, Int.reduceAdd, Int.reduceSub, Int.reduceGT, Int.reduceGE, Int.reduceBNe]; rfl))
  · by_cases h23 : k = 23
    · subst h23
      exact con_rkids23 n
    · have e : kidsN k n = -1 := by unfold kidsN tab; rw [if_neg h23, if_neg (by simpa using h)]
      rw [e]
      refine contract_of_vc mixed Tryd.func30 tr30 ?_
      simp only [go_sem, reduceIte, reduceCtorEq, Nat.reduceAdd, Nat.reduceSub, Nat.reduceMul, Nat.reduceLT, Nat.reduceLeDiff, Nat.reduceEqDiff, Nat.reduceBEq, Nat.reduceGT, Int.reduceEq, Int.reduceNe, Int.reduceLT, Int.reduceLE, Int.reduceToNat, Int.reduceNeg, Int.reduceBEq, Int.reduceAdd, Int.reduceSub, Int.reduceGT, Int.reduceGE, Int.reduceBNe, beq_no h23, beq_no (show k ≠ 1 by omega), beq_no (show k ≠ 2 by omega), beq_no (show k ≠ 3 by omega), beq_no (show k ≠ 4 by omega), beq_no (show k ≠ 5 by omega), beq_no (show k ≠ 6 by omega), beq_no (show k ≠ 7 by omega), beq_no (show k ≠ 8 by omega), beq_no (show k ≠ 9 by omega), beq_no (show k ≠ 10 by omega), beq_no (show k ≠ 11 by omega), beq_no (show k ≠ 12 by omega), beq_no (show k ≠ 13 by omega), beq_no (show k ≠ 14 by omega), beq_no (show k ≠ 15 by omega), beq_no (show k ≠ 16 by omega), beq_no (show k ≠ 17 by omega), beq_no (show k ≠ 18 by omega), beq_no (show k ≠ 19 by omega), beq_no (show k ≠ 20 by omega), beq_no (show k ≠ 21 by omega), beq_no (show k ≠ 22 by omega)]
end Go.Proofs.YtdpigpopcbjkmaaDoor.Abs
