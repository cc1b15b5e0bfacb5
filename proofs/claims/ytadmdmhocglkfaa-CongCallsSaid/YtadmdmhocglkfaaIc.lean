/- Put of plain terms, by the program. -/
import Derived.Test.YtadmdmhocglkfaaIb
set_option linter.unusedSimpArgs false
set_option linter.unusedVariables false
namespace Go.Proofs.Ytadmdmhocglkfaa.Abs
open Go Go.RowKit Go.Proofs.Ytadmdmhocglkfaa

set_option maxRecDepth 10000 in
set_option maxHeartbeats 4000000 in
theorem con_put1 (t u : Tm) (ht : TOk t) (hu : TOk u) (hpt : plainT t = true) (hpu : plainT u = true) (ht2 : (2 : Int) * hgtT t ≤ 1000000000000) (hu2 : (2 : Int) * hgtT u ≤ 1000000000000) :
    Con 136 [.agg true (tv t), .dsl 5 [tv u], .bool true] (resR ((putT u 0 t).map tv)) := by
  have c1 := con_rightq u hu
  rw [right_weak hpu] at c1
  have c2 := con_open t hpt
  have c3 := con_strip u hu hpu
  have c4 := fun b => con_walk u hu 2 hpu hu2 t ht 2 0 b hpt (by omega) (by omega)
  have hz := tv_len t
  have hz2 := tv_len u
  have h0 := tv_0 (t := t)
  have h0u := tv_0 (t := u)
  refine contract_of_vc mixed Try.func136 tr136 ?_
  simp only [go_sem, reduceIte, reduceCtorEq, Nat.reduceAdd, Nat.reduceSub, Nat.reduceMul, Nat.reduceLT, Nat.reduceLeDiff, Nat.reduceEqDiff, Nat.reduceBEq, Nat.reduceGT, Int.reduceEq, Int.reduceNe, Int.reduceLT, Int.reduceLE, Int.reduceToNat, Int.reduceNeg, Int.reduceBEq, Int.reduceAdd, Int.reduceSub, Int.reduceGT, Int.reduceGE, Int.reduceBNe, hz]
  intros
  refine vc_for (fun x => if x = 0 then ⟨(.junk :: .dsl 5 [tv u] :: .bool true :: .ref 0 0 0 0 :: .junk :: .junk :: .ref 1 0 0 0 :: .junk :: .ref 2 0 0 0 :: .junk :: .junk :: .junk :: .junk :: .junk :: .junk :: .dsl 5 [tv u] :: .int .i64 1 :: .int .i64 0 :: .junk :: .junk :: .junk :: .junk :: .junk :: .junk :: .junk :: .junk :: .junk :: .junk :: .junk :: .junk :: .junk :: .junk :: .junk :: .junk :: .junk :: .junk :: .junk :: .junk :: .junk :: .junk :: .junk :: .junk :: .junk :: .junk :: .junk :: .junk :: .junk :: .junk :: .junk :: .junk :: .junk :: .junk :: .junk :: .junk :: .junk :: .junk :: []),
      [⟨true, 5, [tv t], 0, 0, true⟩, ⟨true, 5, [[.int .i64 0, .int .i64 0, .int .i64 0, .int .i64 0, .nils]], 0, 0, true⟩, ⟨true, 3, [[.dsl 5 [tv u], .nils, .bool true]], 0, 0, true⟩]⟩
    else ⟨(.junk :: .dsl 5 [tv u] :: .bool true :: .ref 0 0 0 0 :: .junk :: .junk :: .ref 1 0 0 0 :: .junk :: .ref 2 0 0 0 :: .junk :: .junk :: .junk :: .junk :: .junk :: .junk :: .dsl 5 [tv u] :: .int .i64 1 :: .int .i64 1 :: .junk :: .junk :: .junk :: .junk :: .junk :: .junk :: .junk :: .junk :: .junk :: .junk :: .junk :: .junk :: .junk :: .junk :: .junk :: .junk :: .junk :: .junk :: .junk :: .junk :: .junk :: .junk :: .junk :: .junk :: .junk :: .junk :: .junk :: .junk :: .junk :: .junk :: .junk :: .junk :: .junk :: .junk :: .junk :: .junk :: .junk :: .junk :: []),
      [⟨true, 5, [tv t], 0, 0, true⟩, ⟨true, 5, [[.int .i64 0, .int .i64 0, .int .i64 0, .int .i64 0, .nils]], 0, 0, true⟩, ⟨true, 3, [[.dsl 5 [tv u], .osl 5 0 0 1, .bool true]], 0, 0, false⟩, ⟨true, 5, [tv u], 0, 0, true⟩, ⟨false, 5, [[.int .i64 0, .int .i64 0, .int .i64 0, .int .i64 0, .nils]], 0, 0, true⟩, ⟨false, 5, [tv u], 0, 0, true⟩]⟩) 1 (fun x hx => ?_) ?_
  · rcases (show x = 0 ∨ x = 1 by omega) with rfl | rfl
    · simp only [go_sem, reduceIte, reduceCtorEq, Nat.reduceAdd, Nat.reduceSub, Nat.reduceMul, Nat.reduceLT, Nat.reduceLeDiff, Nat.reduceEqDiff, Nat.reduceBEq, Nat.reduceGT, Int.reduceEq, Int.reduceNe, Int.reduceLT, Int.reduceLE, Int.reduceToNat, Int.reduceNeg, Int.reduceBEq, Int.reduceAdd, Int.reduceSub, Int.reduceGT, Int.reduceGE, Int.reduceBNe, if_true, hz, hz2]
      intros
      refine callK_of c1 ?_
      simp only [go_sem, reduceIte, reduceCtorEq, Nat.reduceAdd, Nat.reduceSub, Nat.reduceMul, Nat.reduceLT, Nat.reduceLeDiff, Nat.reduceEqDiff, Nat.reduceBEq, Nat.reduceGT, Int.reduceEq, Int.reduceNe, Int.reduceLT, Int.reduceLE, Int.reduceToNat, Int.reduceNeg, Int.reduceBEq, Int.reduceAdd, Int.reduceSub, Int.reduceGT, Int.reduceGE, Int.reduceBNe, if_true, hz, hz2, h0, h0u]
      refine callK_of c2 ?_
      simp only [go_sem, reduceIte, reduceCtorEq, Nat.reduceAdd, Nat.reduceSub, Nat.reduceMul, Nat.reduceLT, Nat.reduceLeDiff, Nat.reduceEqDiff, Nat.reduceBEq, Nat.reduceGT, Int.reduceEq, Int.reduceNe, Int.reduceLT, Int.reduceLE, Int.reduceToNat, Int.reduceNeg, Int.reduceBEq, Int.reduceAdd, Int.reduceSub, Int.reduceGT, Int.reduceGE, Int.reduceBNe, if_true, hz, hz2, h0, h0u]
      refine callK_of c3 ?_
      simp only [go_sem, reduceIte, reduceCtorEq, Nat.reduceAdd, Nat.reduceSub, Nat.reduceMul, Nat.reduceLT, Nat.reduceLeDiff, Nat.reduceEqDiff, Nat.reduceBEq, Nat.reduceGT, Int.reduceEq, Int.reduceNe, Int.reduceLT, Int.reduceLE, Int.reduceToNat, Int.reduceNeg, Int.reduceBEq, Int.reduceAdd, Int.reduceSub, Int.reduceGT, Int.reduceGE, Int.reduceBNe, if_true, hz, hz2, h0, h0u]
      exact wk_trunc 6 (by simp [slotsLe]; decide) (by simp) (by simp [below]) (by simp [below])
    · rw [if_neg (by omega)]
      simp only [go_sem, reduceIte, reduceCtorEq, Nat.reduceAdd, Nat.reduceSub, Nat.reduceMul, Nat.reduceLT, Nat.reduceLeDiff, Nat.reduceEqDiff, Nat.reduceBEq, Nat.reduceGT, Int.reduceEq, Int.reduceNe, Int.reduceLT, Int.reduceLE, Int.reduceToNat, Int.reduceNeg, Int.reduceBEq, Int.reduceAdd, Int.reduceSub, Int.reduceGT, Int.reduceGE, Int.reduceBNe, hz, hz2, h0]
      refine callK_of (c4 _) ?_
      cases hp : putT u 0 t with
      | none =>
        have hzz := tv_len zT
        simp only [go_sem, reduceIte, reduceCtorEq, Nat.reduceAdd, Nat.reduceSub, Nat.reduceMul, Nat.reduceLT, Nat.reduceLeDiff, Nat.reduceEqDiff, Nat.reduceBEq, Nat.reduceGT, Int.reduceEq, Int.reduceNe, Int.reduceLT, Int.reduceLE, Int.reduceToNat, Int.reduceNeg, Int.reduceBEq, Int.reduceAdd, Int.reduceSub, Int.reduceGT, Int.reduceGE, Int.reduceBNe, resR, Option.map_none, hzz]
        try trace_state
      | some v =>
        have hzz := tv_len v
        simp only [go_sem, reduceIte, reduceCtorEq, Nat.reduceAdd, Nat.reduceSub, Nat.reduceMul, Nat.reduceLT, Nat.reduceLeDiff, Nat.reduceEqDiff, Nat.reduceBEq, Nat.reduceGT, Int.reduceEq, Int.reduceNe, Int.reduceLT, Int.reduceLE, Int.reduceToNat, Int.reduceNeg, Int.reduceBEq, Int.reduceAdd, Int.reduceSub, Int.reduceGT, Int.reduceGE, Int.reduceBNe, resR, Option.map_some, hzz]
        try trace_state
  · rw [if_pos rfl]
    exact wk_slots (by simp [slotsLe])
end Go.Proofs.Ytadmdmhocglkfaa.Abs
