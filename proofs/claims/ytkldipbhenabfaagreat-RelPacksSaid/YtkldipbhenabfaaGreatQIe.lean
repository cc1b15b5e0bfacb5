/- Put of plain terms: the program and the page come to the same term. -/
import Derived.Test.YtkldipbhenabfaaGreatQIb
import Derived.Test.YtkldipbhenabfaaGreatQId
set_option linter.unusedSimpArgs false
set_option linter.unusedVariables false
namespace Go.Proofs.YtkldipbhenabfaaGreat.Abs
open Go Go.RowKit Go.Proofs.YtkldipbhenabfaaGreat

theorem var_kids {i j n w : Int} {l : List Tm} (h : rightT (.mk 2 i j n l) w = true) : l = [] := by
  rw [rightT_mk, Bool.and_eq_true] at h
  have h1 := h.1
  unfold rightN at h1
  rw [Bool.and_eq_true, Bool.and_eq_true] at h1
  have h2 := h1.2.1
  have hk : kidsN 2 n = 0 := by unfold kidsN; rfl
  rw [hk] at h2
  simp only [Bool.not_eq_true', bne_eq_false_iff_eq] at h2
  cases l with
  | nil => rfl
  | cons x l => simp at h2; omega

/-- u for the variable 0, or the empty term. -/
def putF (u t : Tm) : Tm := (putT u 0 t).getD zT
theorem con_rmay (t u : Tm) (ht : TOk t) (hu : TOk u) (hpt : plainT t = true) (hpu : plainT u = true) : Con 107 [.agg true (tv t), .agg true (tv u)] (.bool true) := by
  have h1 := con_rrightP u hu hpu
  have h2 := con_rplain t ht
  rw [hpt] at h2
  have hz := tv_len t
  have hzu := tv_len u
  have h0 := tv_0 (t := t)
  refine contract_of_vc mixed Tryz.func107 tr107 ?_
  cases hk1 : (t.k == 1) <;> cases hk2 : (t.k == 2)
  all_goals
    simp only [go_sem, reduceIte, reduceCtorEq, Nat.reduceAdd, Nat.reduceSub, Nat.reduceMul, Nat.reduceLT, Nat.reduceLeDiff, Nat.reduceEqDiff, Nat.reduceBEq, Nat.reduceGT, Int.reduceEq, Int.reduceNe, Int.reduceLT, Int.reduceLE, Int.reduceToNat, Int.reduceNeg, Int.reduceBEq, Int.reduceAdd, Int.reduceSub, Int.reduceGT, Int.reduceGE, Int.reduceBNe, hz, hzu, h0]
    refine callK_of h1 ?_
    simp only [go_sem, reduceIte, reduceCtorEq, Nat.reduceAdd, Nat.reduceSub, Nat.reduceMul, Nat.reduceLT, Nat.reduceLeDiff, Nat.reduceEqDiff, Nat.reduceBEq, Nat.reduceGT, Int.reduceEq, Int.reduceNe, Int.reduceLT, Int.reduceLE, Int.reduceToNat, Int.reduceNeg, Int.reduceBEq, Int.reduceAdd, Int.reduceSub, Int.reduceGT, Int.reduceGE, Int.reduceBNe, hz, hzu, h0, hk1, hk2]
    try (refine callK_of h2 ?_; simp only [go_sem, reduceIte, reduceCtorEq, Nat.reduceAdd, Nat.reduceSub, Nat.reduceMul, Nat.reduceLT, Nat.reduceLeDiff, Nat.reduceEqDiff, Nat.reduceBEq, Nat.reduceGT, Int.reduceEq, Int.reduceNe, Int.reduceLT, Int.reduceLE, Int.reduceToNat, Int.reduceNeg, Int.reduceBEq, Int.reduceAdd, Int.reduceSub, Int.reduceGT, Int.reduceGE, Int.reduceBNe, hz, hzu, h0, hk1, hk2])
end Go.Proofs.YtkldipbhenabfaaGreat.Abs

