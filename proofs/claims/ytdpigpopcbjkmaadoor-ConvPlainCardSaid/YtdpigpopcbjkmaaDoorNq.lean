/- ConvPlain, on terms as data. -/
import Derived.Test.YtdpigpopcbjkmaaDoorRl
import Derived.Test.YtdpigpopcbjkmaaDoorFb
set_option linter.unusedSimpArgs false
set_option linter.unusedVariables false
namespace Go.Proofs.YtdpigpopcbjkmaaDoor.Abs
open Go Go.RowKit Go.Proofs.YtdpigpopcbjkmaaDoor

theorem con_greatE (t : Tm) (ht : TOk t) (m : Int) : ∃ z, Con 5 [.agg true (tv t), .int .i64 m] (.bool z) := by
  obtain ⟨z, hz⟩ := con_weigh t ht m 200
  refine ⟨decide (m < z), contract_of_vc mixed Tryd.func5 tr5 ?_⟩
  have h5 := tv_len t
  generalize tv t = r at *
  repeat' first
    | simp (config := { maxSteps := 2000000 }) only [go_sem, reduceIte, reduceCtorEq, Nat.reduceAdd, Nat.reduceSub, Nat.reduceMul, Nat.reduceLT, Nat.reduceLeDiff, Nat.reduceEqDiff, Nat.reduceBEq, Nat.reduceGT, Int.reduceEq, Int.reduceNe, Int.reduceLT, Int.reduceLE, Int.reduceToNat, Int.reduceNeg, Int.reduceBEq, Int.reduceAdd, Int.reduceSub, Int.reduceGT, Int.reduceGE, Int.reduceBNe, h5]
    | refine callK_of (hz) ?_
    | rfl

set_option maxRecDepth 10000 in
set_option maxHeartbeats 1000000 in
theorem con_convPlain (a b : Tm) (ha : TOk a) (hb : TOk b) (f : Nat) : Con 4 [.agg true (tv a), .agg true (tv b), .float .f64 f] (.bool true) := by
  refine contract_of_vc mixed Tryd.func4 tr4 ?_
  obtain ⟨z, hg⟩ := con_greatE a ha 50
  obtain ⟨z2, hg2⟩ := con_greatE b hb 50
  have hr := con_rplain a ha
  have hr2 := con_rplain b hb
  have hN := conv_arg a b ha hb
  have hH := conv_arg b a hb ha
  have h5 := tv_len a
  have h6 := tv_len b
  generalize tv a = r at *
  generalize tv b = r2 at *
  cases z with
  | true => repeat' first
              | simp (config := { maxSteps := 2000000 }) only [go_sem, reduceIte, reduceCtorEq, Nat.reduceAdd, Nat.reduceSub, Nat.reduceMul, Nat.reduceLT, Nat.reduceLeDiff, Nat.reduceEqDiff, Nat.reduceBEq, Nat.reduceGT, Int.reduceEq, Int.reduceNe, Int.reduceLT, Int.reduceLE, Int.reduceToNat, Int.reduceNeg, Int.reduceBEq, Int.reduceAdd, Int.reduceSub, Int.reduceGT, Int.reduceGE, Int.reduceBNe, h5, h6]
              | refine callK_of (hg) ?_
              | refine callK_of (hg2) ?_
              | rfl
  | false =>
    cases z2 with
    | true => repeat' first
                | simp (config := { maxSteps := 2000000 }) only [go_sem, reduceIte, reduceCtorEq, Nat.reduceAdd, Nat.reduceSub, Nat.reduceMul, Nat.reduceLT, Nat.reduceLeDiff, Nat.reduceEqDiff, Nat.reduceBEq, Nat.reduceGT, Int.reduceEq, Int.reduceNe, Int.reduceLT, Int.reduceLE, Int.reduceToNat, Int.reduceNeg, Int.reduceBEq, Int.reduceAdd, Int.reduceSub, Int.reduceGT, Int.reduceGE, Int.reduceBNe, h5, h6]
                | refine callK_of (hg) ?_
                | refine callK_of (hg2) ?_
                | rfl
    | false =>
      cases hp : plainT a with
      | false =>
        rw [hp] at hr
        have hN' := hN (by rw [hp]; rfl) f
        have hH' := hH (by rw [hp]; simp) f
        repeat' first
          | simp (config := { maxSteps := 2000000 }) only [go_sem, reduceIte, reduceCtorEq, Nat.reduceAdd, Nat.reduceSub, Nat.reduceMul, Nat.reduceLT, Nat.reduceLeDiff, Nat.reduceEqDiff, Nat.reduceBEq, Nat.reduceGT, Int.reduceEq, Int.reduceNe, Int.reduceLT, Int.reduceLE, Int.reduceToNat, Int.reduceNeg, Int.reduceBEq, Int.reduceAdd, Int.reduceSub, Int.reduceGT, Int.reduceGE, Int.reduceBNe, h5, h6]
          | refine callK_of (hg) ?_
          | refine callK_of (hg2) ?_
          | refine callK_of (hr) ?_
          | refine callK_of (hr2) ?_
          | refine callK_of (hN') ?_
          | refine callK_of (hH') ?_
          | refine callK_of (con_wakes19) ?_
          | rfl
      | true =>
        rw [hp] at hr
        cases hq : plainT b with
        | true =>
          rw [hq] at hr2
          repeat' first
            | simp (config := { maxSteps := 2000000 }) only [go_sem, reduceIte, reduceCtorEq, Nat.reduceAdd, Nat.reduceSub, Nat.reduceMul, Nat.reduceLT, Nat.reduceLeDiff, Nat.reduceEqDiff, Nat.reduceBEq, Nat.reduceGT, Int.reduceEq, Int.reduceNe, Int.reduceLT, Int.reduceLE, Int.reduceToNat, Int.reduceNeg, Int.reduceBEq, Int.reduceAdd, Int.reduceSub, Int.reduceGT, Int.reduceGE, Int.reduceBNe, h5, h6]
            | refine callK_of (hg) ?_
            | refine callK_of (hg2) ?_
            | refine callK_of (hr) ?_
            | refine callK_of (hr2) ?_
            | rfl
        | false =>
          rw [hq] at hr2
          have hN' := hN (by rw [hq]; simp) f
          have hH' := hH (by rw [hq]; rfl) f
          repeat' first
            | simp (config := { maxSteps := 2000000 }) only [go_sem, reduceIte, reduceCtorEq, Nat.reduceAdd, Nat.reduceSub, Nat.reduceMul, Nat.reduceLT, Nat.reduceLeDiff, Nat.reduceEqDiff, Nat.reduceBEq, Nat.reduceGT, Int.reduceEq, Int.reduceNe, Int.reduceLT, Int.reduceLE, Int.reduceToNat, Int.reduceNeg, Int.reduceBEq, Int.reduceAdd, Int.reduceSub, Int.reduceGT, Int.reduceGE, Int.reduceBNe, h5, h6]
            | refine callK_of (hg) ?_
            | refine callK_of (hg2) ?_
            | refine callK_of (hr) ?_
            | refine callK_of (hr2) ?_
            | refine callK_of (hN') ?_
            | refine callK_of (hH') ?_
            | refine callK_of (con_wakes19) ?_
            | rfl
end Go.Proofs.YtdpigpopcbjkmaaDoor.Abs
