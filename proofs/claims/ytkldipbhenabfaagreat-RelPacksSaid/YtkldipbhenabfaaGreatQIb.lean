/- Putting a term for the variable 0, as a function on terms; the program's walk comes to it; strip of a plain term. -/
import Derived.Test.YtkldipbhenabfaaGreatQIa
set_option linter.unusedSimpArgs false
set_option linter.unusedVariables false
set_option linter.unusedSimpArgs false
set_option linter.unusedVariables false
namespace Go.Proofs.YtkldipbhenabfaaGreat.Abs
open Go Go.RowKit Go.Proofs.YtkldipbhenabfaaGreat

mutual
/-- u for the variable d, d more binders around it; none: a variable would be too great. -/
def putT (u : Tm) : Int → Tm → Option Tm
  | d, .mk kk i j n l =>
    if kk = 2 ∧ d ≤ i then (if i = d then liftT d 0 u else some (vr (i - 1)))
    else (putL u d kk 0 l).map (Tm.mk kk i j n)
def putL (u : Tm) : Int → Int → Nat → List Tm → Option (List Tm)
  | _, _, _, [] => some []
  | d, kk, p, t :: l => match putT u (d + bindsN kk p) t with
    | none => none
    | some v => match putL u d kk (p + 1) l with
      | none => none
      | some r => some (v :: r)
end
theorem plain_kind {t : Tm} (h : plainT t = true) : t.k = 1 ∨ t.k = 2 ∨ 13 ≤ t.k := by
  cases t with
  | mk k i j n l =>
  show k = 1 ∨ k = 2 ∨ 13 ≤ k
  have h' : rightT (.mk k i j n l) 2 = true := h
  rw [rightT_mk, Bool.and_eq_true] at h'
  have h1 := h'.1
  unfold rightN at h1
  rw [Bool.and_eq_true] at h1
  have h2 := h1.1
  unfold sortN at h2
  by_cases a : k = 1 ∨ k = 2
  · omega
  · rw [if_neg a] at h2
    by_cases b : k ≤ 12
    · rw [if_pos b] at h2
      exact absurd h2 (by decide)
    · omega

set_option maxRecDepth 10000 in
set_option maxHeartbeats 2000000 in
theorem con_strip1 (t : Tm) (ht : TOk t) (hp : plainT t = true) : Con 89 [.agg true (tv t)] (.agg true (tv t)) := by
  have hk := plain_kind hp
  have hc := con_copy t ht
  cases t with
  | mk k i j n l =>
  change k = 1 ∨ k = 2 ∨ 13 ≤ k at hk
  have q3 : (k == 3) = false := by simp; omega
  have q4 : (k == 4) = false := by simp; omega
  have q5 : (k == 5) = false := by simp; omega
  have q6 : (k == 6) = false := by simp; omega
  have q7 : (k == 7) = false := by simp; omega
  have q8 : (k == 8) = false := by simp; omega
  have q9 : (k == 9) = false := by simp; omega
  have q10 : (k == 10) = false := by simp; omega
  have q11 : (k == 11) = false := by simp; omega
  have q12 : (k == 12) = false := by simp; omega
  refine contract_of_vc mixed Tryz.func89 tr89 ?_
  rw [tv_mk] at hc ⊢
  simp only [go_sem, reduceIte, reduceCtorEq, Nat.reduceAdd, Nat.reduceSub, Nat.reduceMul, Nat.reduceLT, Nat.reduceLeDiff, Nat.reduceEqDiff, Nat.reduceBEq, Nat.reduceGT, Int.reduceEq, Int.reduceNe, Int.reduceLT, Int.reduceLE, Int.reduceToNat, Int.reduceNeg, Int.reduceBEq, Int.reduceAdd, Int.reduceSub, Int.reduceGT, Int.reduceGE, Int.reduceBNe, q3, q4, q5, q6, q7, q8, q9, q10, q11, q12]
  refine callK_of hc ?_
  simp only [go_sem, reduceIte, reduceCtorEq, Nat.reduceAdd, Nat.reduceSub, Nat.reduceMul, Nat.reduceLT, Nat.reduceLeDiff, Nat.reduceEqDiff, Nat.reduceBEq, Nat.reduceGT, Int.reduceEq, Int.reduceNe, Int.reduceLT, Int.reduceLE, Int.reduceToNat, Int.reduceNeg, Int.reduceBEq, Int.reduceAdd, Int.reduceSub, Int.reduceGT, Int.reduceGE, Int.reduceBNe]
theorem con_strip (t : Tm) (ht : TOk t) (hp : plainT t = true) : Con 49 [.agg true (tv t)] (.agg true (tv t)) := by
  have h1 := con_rightq t ht
  rw [right_weak hp] at h1
  have h2 := con_strip1 t ht hp
  have hz := tv_len t
  refine contract_of_vc mixed Tryz.func49 tr49 ?_
  simp only [go_sem, reduceIte, reduceCtorEq, Nat.reduceAdd, Nat.reduceSub, Nat.reduceMul, Nat.reduceLT, Nat.reduceLeDiff, Nat.reduceEqDiff, Nat.reduceBEq, Nat.reduceGT, Int.reduceEq, Int.reduceNe, Int.reduceLT, Int.reduceLE, Int.reduceToNat, Int.reduceNeg, Int.reduceBEq, Int.reduceAdd, Int.reduceSub, Int.reduceGT, Int.reduceGE, Int.reduceBNe, hz]
  refine callK_of h1 ?_
  simp only [go_sem, reduceIte, reduceCtorEq, Nat.reduceAdd, Nat.reduceSub, Nat.reduceMul, Nat.reduceLT, Nat.reduceLeDiff, Nat.reduceEqDiff, Nat.reduceBEq, Nat.reduceGT, Int.reduceEq, Int.reduceNe, Int.reduceLT, Int.reduceLE, Int.reduceToNat, Int.reduceNeg, Int.reduceBEq, Int.reduceAdd, Int.reduceSub, Int.reduceGT, Int.reduceGE, Int.reduceBNe, hz]
  refine callK_of h2 ?_
  simp only [go_sem, reduceIte, reduceCtorEq, Nat.reduceAdd, Nat.reduceSub, Nat.reduceMul, Nat.reduceLT, Nat.reduceLeDiff, Nat.reduceEqDiff, Nat.reduceBEq, Nat.reduceGT, Int.reduceEq, Int.reduceNe, Int.reduceLT, Int.reduceLE, Int.reduceToNat, Int.reduceNeg, Int.reduceBEq, Int.reduceAdd, Int.reduceSub, Int.reduceGT, Int.reduceGE, Int.reduceBNe, hz]
theorem con_open (t : Tm) (hp : plainT t = true) : Con 144 [.agg true (tv t)] (.bool true) := by
  have hk := plain_kind hp
  cases t with
  | mk k i j n l =>
  change k = 1 ∨ k = 2 ∨ 13 ≤ k at hk
  refine contract_of_vc mixed Tryz.func144 tr144 ?_
  rw [tv_mk]
  rcases hk with rfl | rfl | hk
  · simp only [go_sem, reduceIte, reduceCtorEq, Nat.reduceAdd, Nat.reduceSub, Nat.reduceMul, Nat.reduceLT, Nat.reduceLeDiff, Nat.reduceEqDiff, Nat.reduceBEq, Nat.reduceGT, Int.reduceEq, Int.reduceNe, Int.reduceLT, Int.reduceLE, Int.reduceToNat, Int.reduceNeg, Int.reduceBEq, Int.reduceAdd, Int.reduceSub, Int.reduceGT, Int.reduceGE, Int.reduceBNe]
  · simp only [go_sem, reduceIte, reduceCtorEq, Nat.reduceAdd, Nat.reduceSub, Nat.reduceMul, Nat.reduceLT, Nat.reduceLeDiff, Nat.reduceEqDiff, Nat.reduceBEq, Nat.reduceGT, Int.reduceEq, Int.reduceNe, Int.reduceLT, Int.reduceLE, Int.reduceToNat, Int.reduceNeg, Int.reduceBEq, Int.reduceAdd, Int.reduceSub, Int.reduceGT, Int.reduceGE, Int.reduceBNe]
  · have q1 : (k == 1) = false := by simp; omega
    have q2 : (k == 2) = false := by simp; omega
    simp only [go_sem, reduceIte, reduceCtorEq, Nat.reduceAdd, Nat.reduceSub, Nat.reduceMul, Nat.reduceLT, Nat.reduceLeDiff, Nat.reduceEqDiff, Nat.reduceBEq, Nat.reduceGT, Int.reduceEq, Int.reduceNe, Int.reduceLT, Int.reduceLE, Int.reduceToNat, Int.reduceNeg, Int.reduceBEq, Int.reduceAdd, Int.reduceSub, Int.reduceGT, Int.reduceGE, Int.reduceBNe, q1, q2, hk]
end Go.Proofs.YtkldipbhenabfaaGreat.Abs

