/- Which terms are plain: the counts of kids, by the program and by the page. -/
import Derived.Test.YtdpigpopcbjkmaaDoorFb
set_option linter.unusedSimpArgs false
set_option linter.unusedVariables false
namespace Go.Proofs.YtdpigpopcbjkmaaDoor.Abs
open Go Go.RowKit Go.Proofs.YtdpigpopcbjkmaaDoor

def tab (l : List Int) (k : Int) : Int := if 1 ≤ k ∧ k ≤ l.length then l.getD (k - 1).toNat (-1) else -1

def takesN (n : Int) : Int := tab [5, 5, 4, 6, 4, 4, 5, 4, 5, 4, 4, 6, 6, 6, 9, 12, 12, 9, 9, 9, 6] n
def kidsN (k n : Int) : Int := if k = 23 then takesN n else tab [0, 0, 2, 3, 4, 2, 4, 3, 3, 3, 2, 4, 2, 2, 2, 2, 4, 1, 1, 3, 2, 6] k

theorem beq_no {k c : Int} (h : k ≠ c) : (k == c) = false := by simpa using h

set_option maxRecDepth 10000 in
theorem con_takes (n : Int) : Con 65 [.int .i64 n] (.int .i64 (takesN n)) := by
  refine contract_of_vc mixed Tryd.func65 tr65 ?_
  by_cases h : 1 ≤ n ∧ n ≤ 21
  · have : n = 1 ∨ n = 2 ∨ n = 3 ∨ n = 4 ∨ n = 5 ∨ n = 6 ∨ n = 7 ∨ n = 8 ∨ n = 9 ∨ n = 10 ∨ n = 11 ∨ n = 12 ∨ n = 13 ∨ n = 14 ∨ n = 15 ∨ n = 16 ∨ n = 17 ∨ n = 18 ∨ n = 19 ∨ n = 20 ∨ n = 21 := by omega
    clear h
    rcases this with rfl | rfl | rfl | rfl | rfl | rfl | rfl | rfl | rfl | rfl | rfl | rfl | rfl | rfl | rfl | rfl | rfl | rfl | rfl | rfl | rfl <;> (as_aux_lemma => (simp only [go_sem, reduceIte, reduceCtorEq, Nat.reduceAdd, Nat.reduceSub, Nat.reduceMul, Nat.reduceLT, Nat.reduceLeDiff, Nat.reduceEqDiff, Nat.reduceBEq, Nat.reduceGT, Int.reduceEq, Int.reduceNe, Int.reduceLT, Int.reduceLE, Int.reduceToNat, Int.reduceNeg, Int.reduceBEq, Int.reduceAdd, Int.reduceSub, Int.reduceGT, Int.reduceGE, Int.reduceBNe]; rfl))
  · have e : takesN n = -1 := by unfold takesN tab; rw [if_neg (by simpa using h)]
    rw [e]
    simp only [go_sem, reduceIte, reduceCtorEq, Nat.reduceAdd, Nat.reduceSub, Nat.reduceMul, Nat.reduceLT, Nat.reduceLeDiff, Nat.reduceEqDiff, Nat.reduceBEq, Nat.reduceGT, Int.reduceEq, Int.reduceNe, Int.reduceLT, Int.reduceLE, Int.reduceToNat, Int.reduceNeg, Int.reduceBEq, Int.reduceAdd, Int.reduceSub, Int.reduceGT, Int.reduceGE, Int.reduceBNe, beq_no (show n ≠ 1 by omega), beq_no (show n ≠ 2 by omega), beq_no (show n ≠ 3 by omega), beq_no (show n ≠ 4 by omega), beq_no (show n ≠ 5 by omega), beq_no (show n ≠ 6 by omega), beq_no (show n ≠ 7 by omega), beq_no (show n ≠ 8 by omega), beq_no (show n ≠ 9 by omega), beq_no (show n ≠ 10 by omega), beq_no (show n ≠ 11 by omega), beq_no (show n ≠ 12 by omega), beq_no (show n ≠ 13 by omega), beq_no (show n ≠ 14 by omega), beq_no (show n ≠ 15 by omega), beq_no (show n ≠ 16 by omega), beq_no (show n ≠ 17 by omega), beq_no (show n ≠ 18 by omega), beq_no (show n ≠ 19 by omega), beq_no (show n ≠ 20 by omega), beq_no (show n ≠ 21 by omega)]

set_option maxRecDepth 10000 in
theorem con_kids (k n : Int) : Con 48 [.int .i64 k, .int .i64 n] (.int .i64 (kidsN k n)) := by
  refine contract_of_vc mixed Tryd.func48 tr48 ?_
  by_cases h : 1 ≤ k ∧ k ≤ 22
  · have : k = 1 ∨ k = 2 ∨ k = 3 ∨ k = 4 ∨ k = 5 ∨ k = 6 ∨ k = 7 ∨ k = 8 ∨ k = 9 ∨ k = 10 ∨ k = 11 ∨ k = 12 ∨ k = 13 ∨ k = 14 ∨ k = 15 ∨ k = 16 ∨ k = 17 ∨ k = 18 ∨ k = 19 ∨ k = 20 ∨ k = 21 ∨ k = 22 := by omega
    clear h
    rcases this with rfl | rfl | rfl | rfl | rfl | rfl | rfl | rfl | rfl | rfl | rfl | rfl | rfl | rfl | rfl | rfl | rfl | rfl | rfl | rfl | rfl | rfl <;> (as_aux_lemma => (simp only [go_sem, reduceIte, reduceCtorEq, Nat.reduceAdd, Nat.reduceSub, Nat.reduceMul, Nat.reduceLT, Nat.reduceLeDiff, Nat.reduceEqDiff, Nat.reduceBEq, Nat.reduceGT, Int.reduceEq, Int.reduceNe, Int.reduceLT, Int.reduceLE, Int.reduceToNat, Int.reduceNeg, Int.reduceBEq, Int.reduceAdd, Int.reduceSub, Int.reduceGT, Int.reduceGE, Int.reduceBNe]; rfl))
  · by_cases h23 : k = 23
    · subst h23
      simp only [go_sem, reduceIte, reduceCtorEq, Nat.reduceAdd, Nat.reduceSub, Nat.reduceMul, Nat.reduceLT, Nat.reduceLeDiff, Nat.reduceEqDiff, Nat.reduceBEq, Nat.reduceGT, Int.reduceEq, Int.reduceNe, Int.reduceLT, Int.reduceLE, Int.reduceToNat, Int.reduceNeg, Int.reduceBEq, Int.reduceAdd, Int.reduceSub, Int.reduceGT, Int.reduceGE, Int.reduceBNe]
      refine callK_of (con_takes n) ?_
      simp only [go_sem, reduceIte, reduceCtorEq, Nat.reduceAdd, Nat.reduceSub, Nat.reduceMul, Nat.reduceLT, Nat.reduceLeDiff, Nat.reduceEqDiff, Nat.reduceBEq, Nat.reduceGT, Int.reduceEq, Int.reduceNe, Int.reduceLT, Int.reduceLE, Int.reduceToNat, Int.reduceNeg, Int.reduceBEq, Int.reduceAdd, Int.reduceSub, Int.reduceGT, Int.reduceGE, Int.reduceBNe]
      rfl
    · have e : kidsN k n = -1 := by unfold kidsN tab; rw [if_neg h23, if_neg (by simpa using h)]
      rw [e]
      simp only [go_sem, reduceIte, reduceCtorEq, Nat.reduceAdd, Nat.reduceSub, Nat.reduceMul, Nat.reduceLT, Nat.reduceLeDiff, Nat.reduceEqDiff, Nat.reduceBEq, Nat.reduceGT, Int.reduceEq, Int.reduceNe, Int.reduceLT, Int.reduceLE, Int.reduceToNat, Int.reduceNeg, Int.reduceBEq, Int.reduceAdd, Int.reduceSub, Int.reduceGT, Int.reduceGE, Int.reduceBNe, beq_no h23, beq_no (show k ≠ 1 by omega), beq_no (show k ≠ 2 by omega), beq_no (show k ≠ 3 by omega), beq_no (show k ≠ 4 by omega), beq_no (show k ≠ 5 by omega), beq_no (show k ≠ 6 by omega), beq_no (show k ≠ 7 by omega), beq_no (show k ≠ 8 by omega), beq_no (show k ≠ 9 by omega), beq_no (show k ≠ 10 by omega), beq_no (show k ≠ 11 by omega), beq_no (show k ≠ 12 by omega), beq_no (show k ≠ 13 by omega), beq_no (show k ≠ 14 by omega), beq_no (show k ≠ 15 by omega), beq_no (show k ≠ 16 by omega), beq_no (show k ≠ 17 by omega), beq_no (show k ≠ 18 by omega), beq_no (show k ≠ 19 by omega), beq_no (show k ≠ 20 by omega), beq_no (show k ≠ 21 by omega), beq_no (show k ≠ 22 by omega)]
end Go.Proofs.YtdpigpopcbjkmaaDoor.Abs
