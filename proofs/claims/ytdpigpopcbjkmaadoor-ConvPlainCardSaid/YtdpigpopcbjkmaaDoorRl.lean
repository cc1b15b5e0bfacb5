/- The statements on conv: how they wake; what is not plain, on terms as data. -/
import Derived.Test.YtdpigpopcbjkmaaDoorRk
import Derived.Test.YtdpigpopcbjkmaaDoorFb
set_option linter.unusedSimpArgs false
set_option linter.unusedVariables false
namespace Go.Proofs.YtdpigpopcbjkmaaDoor.Abs
open Go Go.RowKit Go.Proofs.YtdpigpopcbjkmaaDoor

theorem con_v19 (i : Int) : Con 29 [.int .i64 i] (.agg true (tv (vT i))) := by
  refine (contract_of_vc (r := .agg true [.int .i64 2, .int .i64 i, .int .i64 0, .int .i64 0, .nils]) mixed Tryd.func29 tr29 ?_).weaken (le_leaf _ _ _ _)
  simp only [go_sem, reduceIte, reduceCtorEq, Nat.reduceAdd, Nat.reduceSub, Nat.reduceMul, Nat.reduceLT, Nat.reduceLeDiff, Nat.reduceEqDiff, Nat.reduceBEq, Nat.reduceGT, Int.reduceEq, Int.reduceNe, Int.reduceLT, Int.reduceLE, Int.reduceToNat, Int.reduceNeg, Int.reduceBEq, Int.reduceAdd, Int.reduceSub, Int.reduceGT, Int.reduceGE, Int.reduceBNe]

theorem con_n19 (k : Int) (rows : List (List SV)) (h : rows ≠ []) (h5 : ∀ r ∈ rows, r.length = 5) (hb : rows.length * 56 ≤ 140737488355328) : Con 28 [.int .i64 k, .dsl 5 rows] (.agg true [.int .i64 k, .int .i64 0, .int .i64 0, .int .i64 0, .dsl 5 rows]) := by
  refine contract_of_vc mixed Tryd.func28 tr28 ?_
  have h0 : rows.length ≠ 0 := by simpa using h
  have h2 : rows.length ≤ 140737488355328 := by omega
  simp only [go_sem, reduceIte, reduceCtorEq, Nat.reduceAdd, Nat.reduceSub, Nat.reduceMul, Nat.reduceLT, Nat.reduceLeDiff, Nat.reduceEqDiff, Nat.reduceBEq, Nat.reduceGT, Int.reduceEq, Int.reduceNe, Int.reduceLT, Int.reduceLE, Int.reduceToNat, Int.reduceNeg, Int.reduceBEq, Int.reduceAdd, Int.reduceSub, Int.reduceGT, Int.reduceGE, Int.reduceBNe, h0, hb, h2, Nat.zero_add, List.nil_append, List.drop_zero, List.take_length]

def apL : SV := .agg true [.int .i64 15, .int .i64 0, .int .i64 0, .int .i64 0, .dsl 5 [tv (vT 1), tv (vT 0)]]
def fL : SV := .agg true [.int .i64 14, .int .i64 0, .int .i64 0, .int .i64 0, .dsl 5 [[.int .i64 1, .int .i64 0, .int .i64 0, .int .i64 0, .nils], [.int .i64 15, .int .i64 0, .int .i64 0, .int .i64 0, .dsl 5 [tv (vT 1), tv (vT 0)]]]]
theorem fL_le : LeD fL (.agg true (tv fT)) := by
  unfold fL fT apT
  simp only [tv_mk, List.map_cons, List.map_nil]
  refine .agg' (.cons (.refl _) (.cons (.refl _) (.cons (.refl _) (.cons (.refl _) (.cons (.rows (.cons rfl ?_ (.cons rfl (.refl _) .nil))) .nil)))))
  exact .cons (.refl _) (.cons (.refl _) (.cons (.refl _) (.cons (.refl _) (.cons (.nils 5) .nil))))

set_option maxRecDepth 10000 in
set_option maxHeartbeats 1000000 in
theorem con_wakes19 : Con 12 [] (.bool true) := by
  refine contract_of_vc mixed Tryd.func12 tr12 ?_
  have h1 := (conv_run fT (vT 0) tok_fT (tok_vT fit0) (by kernel_rfl) (by kernel_rfl) cv1_same).argsD (args' := [fL, .agg true (tv (vT 0)), .float .f64 0]) (.cons fL_le (.cons (.refl _) (.cons (.refl _) .nil)))
  have h2 := conv_run (vT 0) (vT 1) (tok_vT fit0) (tok_vT fit1) (by kernel_rfl) (by kernel_rfl) cv2_same
  have v0 := con_v19 0
  have v1 := con_v19 1
  have n1 := con_n19 15 [tv (vT 1), tv (vT 0)] (by simp) (by intro r hr; simp only [List.mem_cons, List.not_mem_nil, or_false] at hr; rcases hr with rfl | rfl <;> exact tv_len _) (by simp)
  have n2 := con_n19 14 [[.int .i64 1, .int .i64 0, .int .i64 0, .int .i64 0, .nils], [.int .i64 15, .int .i64 0, .int .i64 0, .int .i64 0, .dsl 5 [tv (vT 1), tv (vT 0)]]] (by simp) (by intro r hr; simp only [List.mem_cons, List.not_mem_nil, or_false] at hr; rcases hr with rfl | rfl <;> rfl) (by simp)
  have e0 := tv_len (vT 0)
  have e1 := tv_len (vT 1)
  unfold fL at h1
  generalize tv (vT 0) = r0 at *
  generalize tv (vT 1) = r1 at *
  simp only [go_sem, reduceIte, reduceCtorEq, Nat.reduceAdd, Nat.reduceSub, Nat.reduceMul, Nat.reduceLT, Nat.reduceLeDiff, Nat.reduceEqDiff, Nat.reduceBEq, Nat.reduceGT, Int.reduceEq, Int.reduceNe, Int.reduceLT, Int.reduceLE, Int.reduceToNat, Int.reduceNeg, Int.reduceBEq, Int.reduceAdd, Int.reduceSub, Int.reduceGT, Int.reduceGE, Int.reduceBNe, e0, e1]
  refine callK_of v1 ?_
  simp only [go_sem, reduceIte, reduceCtorEq, Nat.reduceAdd, Nat.reduceSub, Nat.reduceMul, Nat.reduceLT, Nat.reduceLeDiff, Nat.reduceEqDiff, Nat.reduceBEq, Nat.reduceGT, Int.reduceEq, Int.reduceNe, Int.reduceLT, Int.reduceLE, Int.reduceToNat, Int.reduceNeg, Int.reduceBEq, Int.reduceAdd, Int.reduceSub, Int.reduceGT, Int.reduceGE, Int.reduceBNe, e0, e1]
  refine callK_of v0 ?_
  simp only [go_sem, reduceIte, reduceCtorEq, Nat.reduceAdd, Nat.reduceSub, Nat.reduceMul, Nat.reduceLT, Nat.reduceLeDiff, Nat.reduceEqDiff, Nat.reduceBEq, Nat.reduceGT, Int.reduceEq, Int.reduceNe, Int.reduceLT, Int.reduceLE, Int.reduceToNat, Int.reduceNeg, Int.reduceBEq, Int.reduceAdd, Int.reduceSub, Int.reduceGT, Int.reduceGE, Int.reduceBNe, e0, e1]
  refine callK_of n1 ?_
  simp only [go_sem, reduceIte, reduceCtorEq, Nat.reduceAdd, Nat.reduceSub, Nat.reduceMul, Nat.reduceLT, Nat.reduceLeDiff, Nat.reduceEqDiff, Nat.reduceBEq, Nat.reduceGT, Int.reduceEq, Int.reduceNe, Int.reduceLT, Int.reduceLE, Int.reduceToNat, Int.reduceNeg, Int.reduceBEq, Int.reduceAdd, Int.reduceSub, Int.reduceGT, Int.reduceGE, Int.reduceBNe, e0, e1]
  refine callK_of n2 ?_
  simp only [go_sem, reduceIte, reduceCtorEq, Nat.reduceAdd, Nat.reduceSub, Nat.reduceMul, Nat.reduceLT, Nat.reduceLeDiff, Nat.reduceEqDiff, Nat.reduceBEq, Nat.reduceGT, Int.reduceEq, Int.reduceNe, Int.reduceLT, Int.reduceLE, Int.reduceToNat, Int.reduceNeg, Int.reduceBEq, Int.reduceAdd, Int.reduceSub, Int.reduceGT, Int.reduceGE, Int.reduceBNe, e0, e1]
  refine callK_of v0 ?_
  simp only [go_sem, reduceIte, reduceCtorEq, Nat.reduceAdd, Nat.reduceSub, Nat.reduceMul, Nat.reduceLT, Nat.reduceLeDiff, Nat.reduceEqDiff, Nat.reduceBEq, Nat.reduceGT, Int.reduceEq, Int.reduceNe, Int.reduceLT, Int.reduceLE, Int.reduceToNat, Int.reduceNeg, Int.reduceBEq, Int.reduceAdd, Int.reduceSub, Int.reduceGT, Int.reduceGE, Int.reduceBNe, e0, e1]
  refine callK_of h1 ?_
  simp only [go_sem, reduceIte, reduceCtorEq, Nat.reduceAdd, Nat.reduceSub, Nat.reduceMul, Nat.reduceLT, Nat.reduceLeDiff, Nat.reduceEqDiff, Nat.reduceBEq, Nat.reduceGT, Int.reduceEq, Int.reduceNe, Int.reduceLT, Int.reduceLE, Int.reduceToNat, Int.reduceNeg, Int.reduceBEq, Int.reduceAdd, Int.reduceSub, Int.reduceGT, Int.reduceGE, Int.reduceBNe, e0, e1]
  refine callK_of v0 ?_
  simp only [go_sem, reduceIte, reduceCtorEq, Nat.reduceAdd, Nat.reduceSub, Nat.reduceMul, Nat.reduceLT, Nat.reduceLeDiff, Nat.reduceEqDiff, Nat.reduceBEq, Nat.reduceGT, Int.reduceEq, Int.reduceNe, Int.reduceLT, Int.reduceLE, Int.reduceToNat, Int.reduceNeg, Int.reduceBEq, Int.reduceAdd, Int.reduceSub, Int.reduceGT, Int.reduceGE, Int.reduceBNe, e0, e1]
  refine callK_of v1 ?_
  simp only [go_sem, reduceIte, reduceCtorEq, Nat.reduceAdd, Nat.reduceSub, Nat.reduceMul, Nat.reduceLT, Nat.reduceLeDiff, Nat.reduceEqDiff, Nat.reduceBEq, Nat.reduceGT, Int.reduceEq, Int.reduceNe, Int.reduceLT, Int.reduceLE, Int.reduceToNat, Int.reduceNeg, Int.reduceBEq, Int.reduceAdd, Int.reduceSub, Int.reduceGT, Int.reduceGE, Int.reduceBNe, e0, e1]
  refine callK_of h2 ?_
  simp only [go_sem, reduceIte, reduceCtorEq, Nat.reduceAdd, Nat.reduceSub, Nat.reduceMul, Nat.reduceLT, Nat.reduceLeDiff, Nat.reduceEqDiff, Nat.reduceBEq, Nat.reduceGT, Int.reduceEq, Int.reduceNe, Int.reduceLT, Int.reduceLE, Int.reduceToNat, Int.reduceNeg, Int.reduceBEq, Int.reduceAdd, Int.reduceSub, Int.reduceGT, Int.reduceGE, Int.reduceBNe, e0, e1]
end Go.Proofs.YtdpigpopcbjkmaaDoor.Abs
