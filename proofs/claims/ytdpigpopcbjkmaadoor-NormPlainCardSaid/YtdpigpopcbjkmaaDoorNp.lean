/- NormPlain, on terms as data. -/
import Derived.Test.YtdpigpopcbjkmaaDoorRp
import Derived.Test.YtdpigpopcbjkmaaDoorFb
set_option linter.unusedSimpArgs false
set_option linter.unusedVariables false
namespace Go.Proofs.YtdpigpopcbjkmaaDoor.Abs
open Go Go.RowKit Go.Proofs.YtdpigpopcbjkmaaDoor

theorem con_greatD (t : Tm) (ht : TOk t) (m : Int) : ∃ z, Con 5 [.agg true (tv t), .int .i64 m] (.bool z) := by
  obtain ⟨z, hz⟩ := con_weigh t ht m 200
  refine ⟨decide (m < z), contract_of_vc mixed Tryd.func5 tr5 ?_⟩
  have h5 := tv_len t
  generalize tv t = r at *
  repeat' first
    | simp (config := { maxSteps := 2000000 }) only [go_sem, reduceIte, reduceCtorEq, Nat.reduceAdd, Nat.reduceSub, Nat.reduceMul, Nat.reduceLT, Nat.reduceLeDiff, Nat.reduceEqDiff, Nat.reduceBEq, Nat.reduceGT, Int.reduceEq, Int.reduceNe, Int.reduceLT, Int.reduceLE, Int.reduceToNat, Int.reduceNeg, Int.reduceBEq, Int.reduceAdd, Int.reduceSub, Int.reduceGT, Int.reduceGE, Int.reduceBNe, h5]
    | refine callK_of (hz) ?_
    | rfl

theorem con_zeroD : Con 9 [.agg true (tv zt)] (.bool true) := by
  refine contract_of_vc mixed Tryd.func9 tr9 ?_
  simp only [zt, tv_mk, List.map_nil]
  simp only [go_sem, reduceIte, reduceCtorEq, Nat.reduceAdd, Nat.reduceSub, Nat.reduceMul, Nat.reduceLT, Nat.reduceLeDiff, Nat.reduceEqDiff, Nat.reduceBEq, Nat.reduceGT, Int.reduceEq, Int.reduceNe, Int.reduceLT, Int.reduceLE, Int.reduceToNat, Int.reduceNeg, Int.reduceBEq, Int.reduceAdd, Int.reduceSub, Int.reduceGT, Int.reduceGE, Int.reduceBNe]

set_option maxRecDepth 10000 in
set_option maxHeartbeats 1000000 in
theorem con_normPlain (t : Tm) (ht : TOk t) (b : Nat) : Con 3 [.agg true (tv t), .float .f64 b] (.bool true) := by
  refine contract_of_vc mixed Tryd.func3 tr3 ?_
  obtain ⟨z, hg⟩ := con_greatD t ht 60
  have hr := con_rplain t ht
  have hN := norm_arg t ht
  have hH := head_arg t ht
  have hz := con_zeroD
  have h5 := tv_len t
  have h6 := tv_len zt
  generalize tv t = r at *
  generalize tv zt = r0 at *
  cases z with
  | true => repeat' first
              | simp (config := { maxSteps := 2000000 }) only [go_sem, reduceIte, reduceCtorEq, Nat.reduceAdd, Nat.reduceSub, Nat.reduceMul, Nat.reduceLT, Nat.reduceLeDiff, Nat.reduceEqDiff, Nat.reduceBEq, Nat.reduceGT, Int.reduceEq, Int.reduceNe, Int.reduceLT, Int.reduceLE, Int.reduceToNat, Int.reduceNeg, Int.reduceBEq, Int.reduceAdd, Int.reduceSub, Int.reduceGT, Int.reduceGE, Int.reduceBNe, h5, h6]
              | refine callK_of (hg) ?_
              | rfl
  | false =>
    cases hp : plainT t with
    | true =>
      rw [hp] at hr
      repeat' first
        | simp (config := { maxSteps := 2000000 }) only [go_sem, reduceIte, reduceCtorEq, Nat.reduceAdd, Nat.reduceSub, Nat.reduceMul, Nat.reduceLT, Nat.reduceLeDiff, Nat.reduceEqDiff, Nat.reduceBEq, Nat.reduceGT, Int.reduceEq, Int.reduceNe, Int.reduceLT, Int.reduceLE, Int.reduceToNat, Int.reduceNeg, Int.reduceBEq, Int.reduceAdd, Int.reduceSub, Int.reduceGT, Int.reduceGE, Int.reduceBNe, h5, h6]
        | refine callK_of (hg) ?_
        | refine callK_of (hr) ?_
        | rfl
    | false =>
      rw [hp] at hr
      have hN' := hN hp b
      have hH' := hH hp b
      repeat' first
        | simp (config := { maxSteps := 2000000 }) only [go_sem, reduceIte, reduceCtorEq, Nat.reduceAdd, Nat.reduceSub, Nat.reduceMul, Nat.reduceLT, Nat.reduceLeDiff, Nat.reduceEqDiff, Nat.reduceBEq, Nat.reduceGT, Int.reduceEq, Int.reduceNe, Int.reduceLT, Int.reduceLE, Int.reduceToNat, Int.reduceNeg, Int.reduceBEq, Int.reduceAdd, Int.reduceSub, Int.reduceGT, Int.reduceGE, Int.reduceBNe, h5, h6]
        | refine callK_of (hg) ?_
        | refine callK_of (hr) ?_
        | refine callK_of (hN') ?_
        | refine callK_of (hH') ?_
        | refine callK_of (hz) ?_
        | refine callK_of (con_wakes18) ?_
        | rfl
end Go.Proofs.YtdpigpopcbjkmaaDoor.Abs
