/- Which terms are plain: the counts of kids, by the program and by the page. -/
import Derived.Test.YtkldipbhenabfaaGreatRFb
set_option linter.unusedSimpArgs false
set_option linter.unusedVariables false
namespace Go.Proofs.YtkldipbhenabfaaGreat.Abs
open Go Go.RowKit Go.Proofs.YtkldipbhenabfaaGreat

def tab (l : List Int) (k : Int) : Int := if 1 ≤ k ∧ k ≤ l.length then l.getD (k - 1).toNat (-1) else -1

def takesN (n : Int) : Int := tab [5, 5, 4, 6, 4, 4, 5, 4, 5, 4, 4, 6, 6, 6, 9, 12, 12, 9, 9, 9, 6] n
def kidsN (k n : Int) : Int := if k = 23 then takesN n else tab [0, 0, 2, 3, 4, 2, 4, 3, 3, 3, 2, 4, 2, 2, 2, 2, 4, 1, 1, 3, 2, 6] k

theorem beq_no {k c : Int} (h : k ≠ c) : (k == c) = false := by simpa using h

set_option maxRecDepth 10000 in
theorem con_takes (n : Int) : Con 142 [.int .i64 n] (.int .i64 (takesN n)) := by
  refine contract_of_vc mixed Tryz.func142 tr142 ?_
  by_cases h : 1 ≤ n ∧ n ≤ 21
  · have : n = 1 ∨ n = 2 ∨ n = 3 ∨ n = 4 ∨ n = 5 ∨ n = 6 ∨ n = 7 ∨ n = 8 ∨ n = 9 ∨ n = 10 ∨ n = 11 ∨ n = 12 ∨ n = 13 ∨ n = 14 ∨ n = 15 ∨ n = 16 ∨ n = 17 ∨ n = 18 ∨ n = 19 ∨ n = 20 ∨ n = 21 := by omega
    clear h
    rcases this with rfl | rfl | rfl | rfl | rfl | rfl | rfl | rfl | rfl | rfl | rfl | rfl | rfl | rfl | rfl | rfl | rfl | rfl | rfl | rfl | rfl <;> (as_aux_lemma => (simp only [go_sem, reduceIte, reduceCtorEq, Nat.reduceAdd, Nat.reduceSub, Nat.reduceMul, Nat.reduceLT, Nat.reduceLeDiff, Nat.reduceEqDiff, Nat.reduceBEq, Nat.reduceGT, Int.reduceEq, Int.reduceNe, Int.reduceLT, Int.reduceLE, Int.reduceToNat, Int.reduceNeg, Int.reduceBEq, Int.reduceAdd, Int.reduceSub, Int.reduceGT, Int.reduceGE, Int.reduceBNe]; rfl))
  · have e : takesN n = -1 := by unfold takesN tab; rw [if_neg (by simpa using h)]
    rw [e]
    simp only [go_sem, reduceIte, reduceCtorEq, Nat.reduceAdd, Nat.reduceSub, Nat.reduceMul, Nat.reduceLT, Nat.reduceLeDiff, Nat.reduceEqDiff, Nat.reduceBEq, Nat.reduceGT, Int.reduceEq, Int.reduceNe, Int.reduceLT, Int.reduceLE, Int.reduceToNat, Int.reduceNeg, Int.reduceBEq, Int.reduceAdd, Int.reduceSub, Int.reduceGT, Int.reduceGE, Int.reduceBNe, beq_no (show n ≠ 1 by omega), beq_no (show n ≠ 2 by omega), beq_no (show n ≠ 3 by omega), beq_no (show n ≠ 4 by omega), beq_no (show n ≠ 5 by omega), beq_no (show n ≠ 6 by omega), beq_no (show n ≠ 7 by omega), beq_no (show n ≠ 8 by omega), beq_no (show n ≠ 9 by omega), beq_no (show n ≠ 10 by omega), beq_no (show n ≠ 11 by omega), beq_no (show n ≠ 12 by omega), beq_no (show n ≠ 13 by omega), beq_no (show n ≠ 14 by omega), beq_no (show n ≠ 15 by omega), beq_no (show n ≠ 16 by omega), beq_no (show n ≠ 17 by omega), beq_no (show n ≠ 18 by omega), beq_no (show n ≠ 19 by omega), beq_no (show n ≠ 20 by omega), beq_no (show n ≠ 21 by omega)]

set_option maxRecDepth 10000 in
theorem con_kids (k n : Int) : Con 121 [.int .i64 k, .int .i64 n] (.int .i64 (kidsN k n)) := by
  refine contract_of_vc mixed Tryz.func121 tr121 ?_
  by_cases h : 1 ≤ k ∧ k ≤ 22
  · have : k = 1 ∨ k = 2 ∨ k = 3 ∨ k = 4 ∨ k = 5 ∨ k = 6 ∨ k = 7 ∨ k = 8 ∨ k = 9 ∨ k = 10 ∨ k = 11 ∨ k = 12 ∨ k = 13 ∨ k = 14 ∨ k = 15 ∨ k = 16 ∨ k = 17 ∨ k = 18 ∨ k = 19 ∨ k = 20 ∨ k = 21 ∨ k = 22 := by omega
    clear h
    rcases this with rfl | rfl | rfl | rfl | rfl | rfl | rfl | rfl | rfl | rfl | rfl | rfl | rfl | rfl | rfl | rfl | rfl | rfl | rfl | rfl | rfl | rfl <;> (as_aux_lemma => (simp only [go_sem, reduceIte, reduceCtorEq, Nat.reduceAdd, Nat.reduceSub, Nat.reduceMul, Nat.reduceLT, Nat.reduceLeDiff, Nat.reduceEqDiff, Nat.reduceBEq, Nat.reduceGT, Int.reduceEq, Int.reduceNe, Int.reduceLT, Int.reduceLE, Int.reduceToNat, Int.reduceNeg, Int.reduceBEq, Int.reduceAdd, Int.reduceSub, Int.reduceGT, Int.reduceGE, Int.reduceBNe]; rfl))
  · by_cases h23 : k = 23
    · subst h23
      simp only [go_sem, reduceIte, reduceCtorEq, Nat.reduceAdd, Nat.reduceSub, Nat.reduceMul, Nat.reduceLT, Nat.reduceLeDiff, Nat.reduceEqDiff, Nat.reduceBEq, Nat.reduceGT, Int.reduceEq, Int.reduceNe, Int.reduceLT, Int.reduceLE, Int.reduceToNat, Int.reduceNeg, Int.reduceBEq, Int.reduceAdd, Int.reduceSub, Int.reduceGT, Int.reduceGE, Int.reduceBNe]
      refine callK_of (con_takes n) ?_
      simp only [go_sem, reduceIte, reduceCtorEq, Nat.reduceAdd, Nat.reduceSub, Nat.reduceMul, Nat.reduceLT, Nat.reduceLeDiff, Nat.reduceEqDiff, Nat.reduceBEq, Nat.reduceGT, Int.reduceEq, Int.reduceNe, Int.reduceLT, Int.reduceLE, Int.reduceToNat, Int.reduceNeg, Int.reduceBEq, Int.reduceAdd, Int.reduceSub, Int.reduceGT, Int.reduceGE, Int.reduceBNe]
      rfl
    · have e : kidsN k n = -1 := by unfold kidsN tab; rw [if_neg h23, if_neg (by simpa using h)]
      rw [e]
      simp only [go_sem, reduceIte, reduceCtorEq, Nat.reduceAdd, Nat.reduceSub, Nat.reduceMul, Nat.reduceLT, Nat.reduceLeDiff, Nat.reduceEqDiff, Nat.reduceBEq, Nat.reduceGT, Int.reduceEq, Int.reduceNe, Int.reduceLT, Int.reduceLE, Int.reduceToNat, Int.reduceNeg, Int.reduceBEq, Int.reduceAdd, Int.reduceSub, Int.reduceGT, Int.reduceGE, Int.reduceBNe, beq_no h23, beq_no (show k ≠ 1 by omega), beq_no (show k ≠ 2 by omega), beq_no (show k ≠ 3 by omega), beq_no (show k ≠ 4 by omega), beq_no (show k ≠ 5 by omega), beq_no (show k ≠ 6 by omega), beq_no (show k ≠ 7 by omega), beq_no (show k ≠ 8 by omega), beq_no (show k ≠ 9 by omega), beq_no (show k ≠ 10 by omega), beq_no (show k ≠ 11 by omega), beq_no (show k ≠ 12 by omega), beq_no (show k ≠ 13 by omega), beq_no (show k ≠ 14 by omega), beq_no (show k ≠ 15 by omega), beq_no (show k ≠ 16 by omega), beq_no (show k ≠ 17 by omega), beq_no (show k ≠ 18 by omega), beq_no (show k ≠ 19 by omega), beq_no (show k ≠ 20 by omega), beq_no (show k ≠ 21 by omega), beq_no (show k ≠ 22 by omega)]
end Go.Proofs.YtkldipbhenabfaaGreat.Abs

set_option linter.unusedSimpArgs false
set_option linter.unusedVariables false
namespace Go.Proofs.YtkldipbhenabfaaGreat.Abs
open Go Go.RowKit Go.Proofs.YtkldipbhenabfaaGreat
theorem wl0 : IntKind.i64.wrap 0 = 0 := by decide
theorem wl1 : IntKind.i64.wrap 1 = 1 := by decide
theorem wl2 : IntKind.i64.wrap 2 = 2 := by decide
theorem wl3 : IntKind.i64.wrap 3 = 3 := by decide
theorem wl4 : IntKind.i64.wrap 4 = 4 := by decide
theorem wl5 : IntKind.i64.wrap 5 = 5 := by decide
theorem wl6 : IntKind.i64.wrap 6 = 6 := by decide
theorem wl7 : IntKind.i64.wrap 7 = 7 := by decide
theorem wl8 : IntKind.i64.wrap 8 = 8 := by decide
theorem wl9 : IntKind.i64.wrap 9 = 9 := by decide
theorem wl10 : IntKind.i64.wrap 10 = 10 := by decide
theorem wl11 : IntKind.i64.wrap 11 = 11 := by decide
theorem wl12 : IntKind.i64.wrap 12 = 12 := by decide
theorem wl13 : IntKind.i64.wrap 13 = 13 := by decide
theorem wl14 : IntKind.i64.wrap 14 = 14 := by decide
theorem wl15 : IntKind.i64.wrap 15 = 15 := by decide
theorem wl16 : IntKind.i64.wrap 16 = 16 := by decide
theorem wl17 : IntKind.i64.wrap 17 = 17 := by decide
theorem wl18 : IntKind.i64.wrap 18 = 18 := by decide
theorem wl19 : IntKind.i64.wrap 19 = 19 := by decide
theorem wl20 : IntKind.i64.wrap 20 = 20 := by decide
theorem wl21 : IntKind.i64.wrap 21 = 21 := by decide

set_option maxRecDepth 10000 in
set_option maxHeartbeats 1000000 in
theorem con_rkids23 (n : Int) : Con 97 [.int .i64 23, .int .i64 n] (.int .i64 (kidsN 23 n)) := by
  refine contract_of_vc mixed Tryz.func97 tr97 ?_
  by_cases hs : 1 ≤ n ∧ n ≤ 21
  · have : n = 1 ∨ n = 2 ∨ n = 3 ∨ n = 4 ∨ n = 5 ∨ n = 6 ∨ n = 7 ∨ n = 8 ∨ n = 9 ∨ n = 10 ∨ n = 11 ∨ n = 12 ∨ n = 13 ∨ n = 14 ∨ n = 15 ∨ n = 16 ∨ n = 17 ∨ n = 18 ∨ n = 19 ∨ n = 20 ∨ n = 21 := by omega
    clear hs
    rcases this with rfl | rfl | rfl | rfl | rfl | rfl | rfl | rfl | rfl | rfl | rfl | rfl | rfl | rfl | rfl | rfl | rfl | rfl | rfl | rfl | rfl <;> (as_aux_lemma => (simp only [go_sem, reduceIte, reduceCtorEq, Nat.reduceAdd, Nat.reduceSub, Nat.reduceMul, Nat.reduceLT, Nat.reduceLeDiff, Nat.reduceEqDiff, Nat.reduceBEq, Nat.reduceGT, Int.reduceEq, Int.reduceNe, Int.reduceLT, Int.reduceLE, Int.reduceToNat, Int.reduceNeg, Int.reduceBEq, Int.reduceAdd, Int.reduceSub, Int.reduceGT, Int.reduceGE, Int.reduceBNe, wl0, wl1, wl2, wl3, wl4, wl5, wl6, wl7, wl8, wl9, wl10, wl11, wl12, wl13, wl14, wl15, wl16, wl17, wl18, wl19, wl20, wl21]; rfl))
  · have e : kidsN 23 n = -1 := by unfold kidsN takesN tab; rw [if_pos rfl, if_neg (by simpa using hs)]
    rw [e]
    simp only [go_sem, reduceIte, reduceCtorEq, Nat.reduceAdd, Nat.reduceSub, Nat.reduceMul, Nat.reduceLT, Nat.reduceLeDiff, Nat.reduceEqDiff, Nat.reduceBEq, Nat.reduceGT, Int.reduceEq, Int.reduceNe, Int.reduceLT, Int.reduceLE, Int.reduceToNat, Int.reduceNeg, Int.reduceBEq, Int.reduceAdd, Int.reduceSub, Int.reduceGT, Int.reduceGE, Int.reduceBNe]
    by_cases h1 : 1 ≤ n
    · have h2 : ¬ n ≤ 21 := by omega
      simp only [go_sem, reduceIte, reduceCtorEq, Nat.reduceAdd, Nat.reduceSub, Nat.reduceMul, Nat.reduceLT, Nat.reduceLeDiff, Nat.reduceEqDiff, Nat.reduceBEq, Nat.reduceGT, Int.reduceEq, Int.reduceNe, Int.reduceLT, Int.reduceLE, Int.reduceToNat, Int.reduceNeg, Int.reduceBEq, Int.reduceAdd, Int.reduceSub, Int.reduceGT, Int.reduceGE, Int.reduceBNe, h1, h2]
    · simp only [go_sem, reduceIte, reduceCtorEq, Nat.reduceAdd, Nat.reduceSub, Nat.reduceMul, Nat.reduceLT, Nat.reduceLeDiff, Nat.reduceEqDiff, Nat.reduceBEq, Nat.reduceGT, Int.reduceEq, Int.reduceNe, Int.reduceLT, Int.reduceLE, Int.reduceToNat, Int.reduceNeg, Int.reduceBEq, Int.reduceAdd, Int.reduceSub, Int.reduceGT, Int.reduceGE, Int.reduceBNe, h1]

set_option maxRecDepth 10000 in
theorem con_rkids (k n : Int) : Con 97 [.int .i64 k, .int .i64 n] (.int .i64 (kidsN k n)) := by
  by_cases h : 1 ≤ k ∧ k ≤ 22
  · have : k = 1 ∨ k = 2 ∨ k = 3 ∨ k = 4 ∨ k = 5 ∨ k = 6 ∨ k = 7 ∨ k = 8 ∨ k = 9 ∨ k = 10 ∨ k = 11 ∨ k = 12 ∨ k = 13 ∨ k = 14 ∨ k = 15 ∨ k = 16 ∨ k = 17 ∨ k = 18 ∨ k = 19 ∨ k = 20 ∨ k = 21 ∨ k = 22 := by omega
    clear h
    refine contract_of_vc mixed Tryz.func97 tr97 ?_
    rcases this with rfl | rfl | rfl | rfl | rfl | rfl | rfl | rfl | rfl | rfl | rfl | rfl | rfl | rfl | rfl | rfl | rfl | rfl | rfl | rfl | rfl | rfl <;> (as_aux_lemma => (simp only [go_sem, reduceIte, reduceCtorEq, Nat.reduceAdd, Nat.reduceSub, Nat.reduceMul, Nat.reduceLT, Nat.reduceLeDiff, Nat.reduceEqDiff, Nat.reduceBEq, Nat.reduceGT, Int.reduceEq, Int.reduceNe, Int.reduceLT, Int.reduceLE, Int.reduceToNat, Int.reduceNeg, Int.reduceBEq, Int.reduceAdd, Int.reduceSub, Int.reduceGT, Int.reduceGE, Int.reduceBNe]; rfl))
  · by_cases h23 : k = 23
    · subst h23
      exact con_rkids23 n
    · have e : kidsN k n = -1 := by unfold kidsN tab; rw [if_neg h23, if_neg (by simpa using h)]
      rw [e]
      refine contract_of_vc mixed Tryz.func97 tr97 ?_
      simp only [go_sem, reduceIte, reduceCtorEq, Nat.reduceAdd, Nat.reduceSub, Nat.reduceMul, Nat.reduceLT, Nat.reduceLeDiff, Nat.reduceEqDiff, Nat.reduceBEq, Nat.reduceGT, Int.reduceEq, Int.reduceNe, Int.reduceLT, Int.reduceLE, Int.reduceToNat, Int.reduceNeg, Int.reduceBEq, Int.reduceAdd, Int.reduceSub, Int.reduceGT, Int.reduceGE, Int.reduceBNe, beq_no h23, beq_no (show k ≠ 1 by omega), beq_no (show k ≠ 2 by omega), beq_no (show k ≠ 3 by omega), beq_no (show k ≠ 4 by omega), beq_no (show k ≠ 5 by omega), beq_no (show k ≠ 6 by omega), beq_no (show k ≠ 7 by omega), beq_no (show k ≠ 8 by omega), beq_no (show k ≠ 9 by omega), beq_no (show k ≠ 10 by omega), beq_no (show k ≠ 11 by omega), beq_no (show k ≠ 12 by omega), beq_no (show k ≠ 13 by omega), beq_no (show k ≠ 14 by omega), beq_no (show k ≠ 15 by omega), beq_no (show k ≠ 16 by omega), beq_no (show k ≠ 17 by omega), beq_no (show k ≠ 18 by omega), beq_no (show k ≠ 19 by omega), beq_no (show k ≠ 20 by omega), beq_no (show k ≠ 21 by omega), beq_no (show k ≠ 22 by omega)]
end Go.Proofs.YtkldipbhenabfaaGreat.Abs

set_option linter.unusedSimpArgs false
set_option linter.unusedVariables false
namespace Go.Proofs.YtkldipbhenabfaaGreat.Abs
open Go Go.RowKit Go.Proofs.YtkldipbhenabfaaGreat

def lev (i : Int) : Bool := decide (0 ≤ i) && decide (i ≤ 1000)

theorem con_tlevel (i : Int) : Con 143 [.int .i64 i] (.bool (lev i)) := by
  refine contract_of_vc mixed Tryz.func143 tr143 ?_
  simp only [go_sem, reduceIte, reduceCtorEq, Nat.reduceAdd, Nat.reduceSub, Nat.reduceMul, Nat.reduceLT, Nat.reduceLeDiff, Nat.reduceEqDiff, Nat.reduceBEq, Nat.reduceGT, Int.reduceEq, Int.reduceNe, Int.reduceLT, Int.reduceLE, Int.reduceToNat, Int.reduceNeg, Int.reduceBEq, Int.reduceAdd, Int.reduceSub, Int.reduceGT, Int.reduceGE, Int.reduceBNe, lev]
  refine ⟨fun h => ?_, fun h => ?_⟩ <;> simp only [h, go_sem, reduceIte, reduceCtorEq, Nat.reduceAdd, Nat.reduceSub, Nat.reduceMul, Nat.reduceLT, Nat.reduceLeDiff, Nat.reduceEqDiff, Nat.reduceBEq, Nat.reduceGT, Int.reduceEq, Int.reduceNe, Int.reduceLT, Int.reduceLE, Int.reduceToNat, Int.reduceNeg, Int.reduceBEq, Int.reduceAdd, Int.reduceSub, Int.reduceGT, Int.reduceGE, Int.reduceBNe]

theorem con_rlevel (i : Int) : Con 123 [.int .i64 i] (.bool (lev i)) := by
  refine contract_of_vc mixed Tryz.func123 tr123 ?_
  simp only [go_sem, reduceIte, reduceCtorEq, Nat.reduceAdd, Nat.reduceSub, Nat.reduceMul, Nat.reduceLT, Nat.reduceLeDiff, Nat.reduceEqDiff, Nat.reduceBEq, Nat.reduceGT, Int.reduceEq, Int.reduceNe, Int.reduceLT, Int.reduceLE, Int.reduceToNat, Int.reduceNeg, Int.reduceBEq, Int.reduceAdd, Int.reduceSub, Int.reduceGT, Int.reduceGE, Int.reduceBNe, lev]
  refine ⟨fun h => ?_, fun h => ?_⟩ <;> simp only [h, go_sem, reduceIte, reduceCtorEq, Nat.reduceAdd, Nat.reduceSub, Nat.reduceMul, Nat.reduceLT, Nat.reduceLeDiff, Nat.reduceEqDiff, Nat.reduceBEq, Nat.reduceGT, Int.reduceEq, Int.reduceNe, Int.reduceLT, Int.reduceLE, Int.reduceToNat, Int.reduceNeg, Int.reduceBEq, Int.reduceAdd, Int.reduceSub, Int.reduceGT, Int.reduceGE, Int.reduceBNe]

def numsB (k i j n : Int) : Bool :=
  if k = 1 ∨ k = 10 ∨ k = 11 ∨ k = 12 then lev i && ((j == 0) && (n == 0))
  else if k = 2 then decide (0 ≤ i) && (decide (i ≤ 2147483647) && ((j == 0) && (n == 0)))
  else if 3 ≤ k ∧ k ≤ 9 then lev i && (lev j && (n == 0))
  else if k = 23 then lev i && lev j
  else (i == 0) && ((j == 0) && (n == 0))

set_option maxRecDepth 10000 in
theorem con_nums1 (k i j n : Int) (rows : List (List SV)) (h : k = 1 ∨ k = 10 ∨ k = 11 ∨ k = 12) : Con 122 [.agg true [.int .i64 k, .int .i64 i, .int .i64 j, .int .i64 n, .dsl 5 rows]] (.bool (lev i && ((j == 0) && (n == 0)))) := by
  refine contract_of_vc mixed Tryz.func122 tr122 ?_
  cases hL : lev i <;> cases hJ : (j == 0) <;> cases hN : (n == 0) <;> rcases h with rfl | rfl | rfl | rfl <;>
    (simp only [go_sem, reduceIte, reduceCtorEq, Nat.reduceAdd, Nat.reduceSub, Nat.reduceMul, Nat.reduceLT, Nat.reduceLeDiff, Nat.reduceEqDiff, Nat.reduceBEq, Nat.reduceGT, Int.reduceEq, Int.reduceNe, Int.reduceLT, Int.reduceLE, Int.reduceToNat, Int.reduceNeg, Int.reduceBEq, Int.reduceAdd, Int.reduceSub, Int.reduceGT, Int.reduceGE, Int.reduceBNe]; refine callK_of (con_tlevel i) ?_; simp only [go_sem, reduceIte, reduceCtorEq, Nat.reduceAdd, Nat.reduceSub, Nat.reduceMul, Nat.reduceLT, Nat.reduceLeDiff, Nat.reduceEqDiff, Nat.reduceBEq, Nat.reduceGT, Int.reduceEq, Int.reduceNe, Int.reduceLT, Int.reduceLE, Int.reduceToNat, Int.reduceNeg, Int.reduceBEq, Int.reduceAdd, Int.reduceSub, Int.reduceGT, Int.reduceGE, Int.reduceBNe, hL, hJ, hN])

set_option maxRecDepth 10000 in
theorem con_nums2 (i j n : Int) (rows : List (List SV)) : Con 122 [.agg true [.int .i64 2, .int .i64 i, .int .i64 j, .int .i64 n, .dsl 5 rows]] (.bool (decide (0 ≤ i) && (decide (i ≤ 2147483647) && ((j == 0) && (n == 0))))) := by
  refine contract_of_vc mixed Tryz.func122 tr122 ?_
  by_cases h1 : 0 ≤ i <;> by_cases h2 : i ≤ 2147483647 <;> cases hJ : (j == 0) <;> cases hN : (n == 0) <;> simp only [go_sem, reduceIte, reduceCtorEq, Nat.reduceAdd, Nat.reduceSub, Nat.reduceMul, Nat.reduceLT, Nat.reduceLeDiff, Nat.reduceEqDiff, Nat.reduceBEq, Nat.reduceGT, Int.reduceEq, Int.reduceNe, Int.reduceLT, Int.reduceLE, Int.reduceToNat, Int.reduceNeg, Int.reduceBEq, Int.reduceAdd, Int.reduceSub, Int.reduceGT, Int.reduceGE, Int.reduceBNe, hJ, hN, h1, h2]

set_option maxRecDepth 10000 in
set_option maxHeartbeats 2000000 in
theorem con_nums3 (k i j n : Int) (rows : List (List SV)) (h : k = 3 ∨ k = 4 ∨ k = 5 ∨ k = 6 ∨ k = 7 ∨ k = 8 ∨ k = 9) : Con 122 [.agg true [.int .i64 k, .int .i64 i, .int .i64 j, .int .i64 n, .dsl 5 rows]] (.bool (lev i && (lev j && (n == 0)))) := by
  refine contract_of_vc mixed Tryz.func122 tr122 ?_
  cases hL : lev i
  · rcases h with rfl | rfl | rfl | rfl | rfl | rfl | rfl <;> (as_aux_lemma => (simp only [go_sem, reduceIte, reduceCtorEq, Nat.reduceAdd, Nat.reduceSub, Nat.reduceMul, Nat.reduceLT, Nat.reduceLeDiff, Nat.reduceEqDiff, Nat.reduceBEq, Nat.reduceGT, Int.reduceEq, Int.reduceNe, Int.reduceLT, Int.reduceLE, Int.reduceToNat, Int.reduceNeg, Int.reduceBEq, Int.reduceAdd, Int.reduceSub, Int.reduceGT, Int.reduceGE, Int.reduceBNe]; refine callK_of (con_tlevel i) ?_; simp only [go_sem, reduceIte, reduceCtorEq, Nat.reduceAdd, Nat.reduceSub, Nat.reduceMul, Nat.reduceLT, Nat.reduceLeDiff, Nat.reduceEqDiff, Nat.reduceBEq, Nat.reduceGT, Int.reduceEq, Int.reduceNe, Int.reduceLT, Int.reduceLE, Int.reduceToNat, Int.reduceNeg, Int.reduceBEq, Int.reduceAdd, Int.reduceSub, Int.reduceGT, Int.reduceGE, Int.reduceBNe, hL]))
  · cases hJ : lev j <;> cases hN : (n == 0) <;> rcases h with rfl | rfl | rfl | rfl | rfl | rfl | rfl <;>
      (as_aux_lemma => (simp only [go_sem, reduceIte, reduceCtorEq, Nat.reduceAdd, Nat.reduceSub, Nat.reduceMul, Nat.reduceLT, Nat.reduceLeDiff, Nat.reduceEqDiff, Nat.reduceBEq, Nat.reduceGT, Int.reduceEq, Int.reduceNe, Int.reduceLT, Int.reduceLE, Int.reduceToNat, Int.reduceNeg, Int.reduceBEq, Int.reduceAdd, Int.reduceSub, Int.reduceGT, Int.reduceGE, Int.reduceBNe]; refine callK_of (con_tlevel i) ?_; simp only [go_sem, reduceIte, reduceCtorEq, Nat.reduceAdd, Nat.reduceSub, Nat.reduceMul, Nat.reduceLT, Nat.reduceLeDiff, Nat.reduceEqDiff, Nat.reduceBEq, Nat.reduceGT, Int.reduceEq, Int.reduceNe, Int.reduceLT, Int.reduceLE, Int.reduceToNat, Int.reduceNeg, Int.reduceBEq, Int.reduceAdd, Int.reduceSub, Int.reduceGT, Int.reduceGE, Int.reduceBNe, hL]; refine callK_of (con_tlevel j) ?_; simp only [go_sem, reduceIte, reduceCtorEq, Nat.reduceAdd, Nat.reduceSub, Nat.reduceMul, Nat.reduceLT, Nat.reduceLeDiff, Nat.reduceEqDiff, Nat.reduceBEq, Nat.reduceGT, Int.reduceEq, Int.reduceNe, Int.reduceLT, Int.reduceLE, Int.reduceToNat, Int.reduceNeg, Int.reduceBEq, Int.reduceAdd, Int.reduceSub, Int.reduceGT, Int.reduceGE, Int.reduceBNe, hL, hJ, hN]))

set_option maxRecDepth 10000 in
theorem con_nums23 (i j n : Int) (rows : List (List SV)) : Con 122 [.agg true [.int .i64 23, .int .i64 i, .int .i64 j, .int .i64 n, .dsl 5 rows]] (.bool (lev i && lev j)) := by
  refine contract_of_vc mixed Tryz.func122 tr122 ?_
  simp only [go_sem, reduceIte, reduceCtorEq, Nat.reduceAdd, Nat.reduceSub, Nat.reduceMul, Nat.reduceLT, Nat.reduceLeDiff, Nat.reduceEqDiff, Nat.reduceBEq, Nat.reduceGT, Int.reduceEq, Int.reduceNe, Int.reduceLT, Int.reduceLE, Int.reduceToNat, Int.reduceNeg, Int.reduceBEq, Int.reduceAdd, Int.reduceSub, Int.reduceGT, Int.reduceGE, Int.reduceBNe]
  refine callK_of (con_tlevel i) ?_
  cases hL : lev i
  · simp only [go_sem, reduceIte, reduceCtorEq, Nat.reduceAdd, Nat.reduceSub, Nat.reduceMul, Nat.reduceLT, Nat.reduceLeDiff, Nat.reduceEqDiff, Nat.reduceBEq, Nat.reduceGT, Int.reduceEq, Int.reduceNe, Int.reduceLT, Int.reduceLE, Int.reduceToNat, Int.reduceNeg, Int.reduceBEq, Int.reduceAdd, Int.reduceSub, Int.reduceGT, Int.reduceGE, Int.reduceBNe]
  · simp only [go_sem, reduceIte, reduceCtorEq, Nat.reduceAdd, Nat.reduceSub, Nat.reduceMul, Nat.reduceLT, Nat.reduceLeDiff, Nat.reduceEqDiff, Nat.reduceBEq, Nat.reduceGT, Int.reduceEq, Int.reduceNe, Int.reduceLT, Int.reduceLE, Int.reduceToNat, Int.reduceNeg, Int.reduceBEq, Int.reduceAdd, Int.reduceSub, Int.reduceGT, Int.reduceGE, Int.reduceBNe]
    refine callK_of (con_tlevel j) ?_
    simp only [go_sem, reduceIte, reduceCtorEq, Nat.reduceAdd, Nat.reduceSub, Nat.reduceMul, Nat.reduceLT, Nat.reduceLeDiff, Nat.reduceEqDiff, Nat.reduceBEq, Nat.reduceGT, Int.reduceEq, Int.reduceNe, Int.reduceLT, Int.reduceLE, Int.reduceToNat, Int.reduceNeg, Int.reduceBEq, Int.reduceAdd, Int.reduceSub, Int.reduceGT, Int.reduceGE, Int.reduceBNe]

set_option maxRecDepth 10000 in
theorem con_nums0 (k i j n : Int) (rows : List (List SV)) (h : k < 1 ∨ (12 < k ∧ k ≠ 23)) : Con 122 [.agg true [.int .i64 k, .int .i64 i, .int .i64 j, .int .i64 n, .dsl 5 rows]] (.bool ((i == 0) && ((j == 0) && (n == 0)))) := by
  refine contract_of_vc mixed Tryz.func122 tr122 ?_
  cases hI : (i == 0) <;> cases hJ : (j == 0) <;> cases hN : (n == 0) <;> simp only [go_sem, reduceIte, reduceCtorEq, Nat.reduceAdd, Nat.reduceSub, Nat.reduceMul, Nat.reduceLT, Nat.reduceLeDiff, Nat.reduceEqDiff, Nat.reduceBEq, Nat.reduceGT, Int.reduceEq, Int.reduceNe, Int.reduceLT, Int.reduceLE, Int.reduceToNat, Int.reduceNeg, Int.reduceBEq, Int.reduceAdd, Int.reduceSub, Int.reduceGT, Int.reduceGE, Int.reduceBNe, hI, hJ, hN, beq_no (show k ≠ 1 by omega), beq_no (show k ≠ 2 by omega), beq_no (show k ≠ 3 by omega), beq_no (show k ≠ 4 by omega), beq_no (show k ≠ 5 by omega), beq_no (show k ≠ 6 by omega), beq_no (show k ≠ 7 by omega), beq_no (show k ≠ 8 by omega), beq_no (show k ≠ 9 by omega), beq_no (show k ≠ 10 by omega), beq_no (show k ≠ 11 by omega), beq_no (show k ≠ 12 by omega), beq_no (show k ≠ 23 by omega)]
end Go.Proofs.YtkldipbhenabfaaGreat.Abs

set_option linter.unusedSimpArgs false
set_option linter.unusedVariables false
namespace Go.Proofs.YtkldipbhenabfaaGreat.Abs
open Go Go.RowKit Go.Proofs.YtkldipbhenabfaaGreat

theorem con_numbers (k i j n : Int) (rows : List (List SV)) : Con 122 [.agg true [.int .i64 k, .int .i64 i, .int .i64 j, .int .i64 n, .dsl 5 rows]] (.bool (numsB k i j n)) := by
  unfold numsB
  by_cases h1 : k = 1 ∨ k = 10 ∨ k = 11 ∨ k = 12
  · rw [if_pos h1]; exact con_nums1 k i j n rows h1
  · rw [if_neg h1]
    by_cases h2 : k = 2
    · subst h2; rw [if_pos rfl]; exact con_nums2 i j n rows
    · rw [if_neg h2]
      by_cases h3 : 3 ≤ k ∧ k ≤ 9
      · rw [if_pos h3]; exact con_nums3 k i j n rows (by omega)
      · rw [if_neg h3]
        by_cases h4 : k = 23
        · subst h4; rw [if_pos rfl]; exact con_nums23 i j n rows
        · rw [if_neg h4]; exact con_nums0 k i j n rows (by omega)
end Go.Proofs.YtkldipbhenabfaaGreat.Abs

set_option linter.unusedSimpArgs false
set_option linter.unusedVariables false
namespace Go.Proofs.YtkldipbhenabfaaGreat.Abs
open Go Go.RowKit Go.Proofs.YtkldipbhenabfaaGreat

def sortN (k : Int) : Int := if k = 1 ∨ k = 2 then 0 else if k ≤ 12 then 1 else 2

theorem con_tsort (k : Int) : Con 120 [.int .i64 k] (.int .i64 (sortN k)) := by
  refine contract_of_vc mixed Tryz.func120 tr120 ?_
  by_cases h1 : k = 1
  · subst h1; simp only [go_sem, reduceIte, reduceCtorEq, Nat.reduceAdd, Nat.reduceSub, Nat.reduceMul, Nat.reduceLT, Nat.reduceLeDiff, Nat.reduceEqDiff, Nat.reduceBEq, Nat.reduceGT, Int.reduceEq, Int.reduceNe, Int.reduceLT, Int.reduceLE, Int.reduceToNat, Int.reduceNeg, Int.reduceBEq, Int.reduceAdd, Int.reduceSub, Int.reduceGT, Int.reduceGE, Int.reduceBNe]; rfl
  · by_cases h2 : k = 2
    · subst h2; simp only [go_sem, reduceIte, reduceCtorEq, Nat.reduceAdd, Nat.reduceSub, Nat.reduceMul, Nat.reduceLT, Nat.reduceLeDiff, Nat.reduceEqDiff, Nat.reduceBEq, Nat.reduceGT, Int.reduceEq, Int.reduceNe, Int.reduceLT, Int.reduceLE, Int.reduceToNat, Int.reduceNeg, Int.reduceBEq, Int.reduceAdd, Int.reduceSub, Int.reduceGT, Int.reduceGE, Int.reduceBNe]; rfl
    · have e : sortN k = if k ≤ 12 then 1 else 2 := by unfold sortN; rw [if_neg (by omega)]
      rw [e]
      by_cases h3 : k ≤ 12
      · simp only [go_sem, reduceIte, reduceCtorEq, Nat.reduceAdd, Nat.reduceSub, Nat.reduceMul, Nat.reduceLT, Nat.reduceLeDiff, Nat.reduceEqDiff, Nat.reduceBEq, Nat.reduceGT, Int.reduceEq, Int.reduceNe, Int.reduceLT, Int.reduceLE, Int.reduceToNat, Int.reduceNeg, Int.reduceBEq, Int.reduceAdd, Int.reduceSub, Int.reduceGT, Int.reduceGE, Int.reduceBNe, beq_no h1, beq_no h2, h3]
      · simp only [go_sem, reduceIte, reduceCtorEq, Nat.reduceAdd, Nat.reduceSub, Nat.reduceMul, Nat.reduceLT, Nat.reduceLeDiff, Nat.reduceEqDiff, Nat.reduceBEq, Nat.reduceGT, Int.reduceEq, Int.reduceNe, Int.reduceLT, Int.reduceLE, Int.reduceToNat, Int.reduceNeg, Int.reduceBEq, Int.reduceAdd, Int.reduceSub, Int.reduceGT, Int.reduceGE, Int.reduceBNe, beq_no h1, beq_no h2, h3]

def plainN (k i j n : Int) (len : Nat) : Bool := (sortN k != 1) && (((len : Int) == kidsN k n) && numsB k i j n)

end Go.Proofs.YtkldipbhenabfaaGreat.Abs

