/- Marked terms as plain ones, by the program and by the page. -/
import Derived.Test.YtkldipbhenabfaaGreatRJe
import Derived.Test.YtkldipbhenabfaaGreatRUn
set_option linter.unusedSimpArgs false
set_option linter.unusedVariables false
namespace Go.Proofs.YtkldipbhenabfaaGreat.Abs
open Go Go.RowKit Go.Proofs.YtkldipbhenabfaaGreat

set_option maxRecDepth 20000 in
set_option maxHeartbeats 8000000 in
theorem con_mstrip (t : Tm) : TOk t → markT t = true → Con 89 [.agg true (tv t)] (.agg true (tv (stripT t))) := by
  induction t using Tm.ind with
  | h k i j n l ih =>
    intro hok hm
    obtain ⟨f1, f2, f3, f4, hb, hl⟩ := tok_of hok
    have hkids : ∀ t ∈ l, markT t = true → Con 89 [.agg true (tv t)] (.agg true (tv (stripT t))) := fun t ht hm => ih t ht (hl t ht) hm
    have hcp := con_copy _ hok
    have hs := shp_of hm
    cases hs with
    | sort i h =>
      rw [stripT_id (by omega)]
      refine contract_of_vc mixed Tryz.func89 tr89 ?_
      rw [tv_mk] at *
      repeat' first
        | simp (config := { maxSteps := 2000000 }) only [go_sem, reduceIte, reduceCtorEq, Nat.reduceAdd, Nat.reduceSub, Nat.reduceMul, Nat.reduceLT, Nat.reduceLeDiff, Nat.reduceEqDiff, Nat.reduceBEq, Nat.reduceGT, Int.reduceEq, Int.reduceNe, Int.reduceLT, Int.reduceLE, Int.reduceToNat, Int.reduceNeg, Int.reduceBEq, Int.reduceAdd, Int.reduceSub, Int.reduceGT, Int.reduceGE, Int.reduceBNe, Int.reduceMul]
        | refine callK_of (hcp) ?_
        | refine vcI_step ?_
        | refine vc_unroll 6 ?_
        | rfl
    | var i h =>
      rw [stripT_id (by omega)]
      refine contract_of_vc mixed Tryz.func89 tr89 ?_
      rw [tv_mk] at *
      repeat' first
        | simp (config := { maxSteps := 2000000 }) only [go_sem, reduceIte, reduceCtorEq, Nat.reduceAdd, Nat.reduceSub, Nat.reduceMul, Nat.reduceLT, Nat.reduceLeDiff, Nat.reduceEqDiff, Nat.reduceBEq, Nat.reduceGT, Int.reduceEq, Int.reduceNe, Int.reduceLT, Int.reduceLE, Int.reduceToNat, Int.reduceNeg, Int.reduceBEq, Int.reduceAdd, Int.reduceSub, Int.reduceGT, Int.reduceGE, Int.reduceBNe, Int.reduceMul]
        | refine callK_of (hcp) ?_
        | refine vcI_step ?_
        | refine vc_unroll 6 ?_
        | rfl
    | tr i a b p x h ma mb mp mx =>
      rw [stripT_tr]
      have c1 := hkids a (by simp) ma
      have c2 := hkids b (by simp) mb
      have c3 := con_copy p (hl p (by simp))
      have c4 := hkids x (by simp) mx
      have c5 := con_ofT 23 i 0 5 [stripT a, stripT b, p, stripT x] (by simp) (by simp)
      refine contract_of_vc mixed Tryz.func89 tr89 ?_
      rw [tv_mk]
      clear hkids hcp ih
      repeat' first
        | simp (config := { maxSteps := 2000000 }) only [go_sem, reduceIte, reduceCtorEq, Nat.reduceAdd, Nat.reduceSub, Nat.reduceMul, Nat.reduceLT, Nat.reduceLeDiff, Nat.reduceEqDiff, Nat.reduceBEq, Nat.reduceGT, Int.reduceEq, Int.reduceNe, Int.reduceLT, Int.reduceLE, Int.reduceToNat, Int.reduceNeg, Int.reduceBEq, Int.reduceAdd, Int.reduceSub, Int.reduceGT, Int.reduceGE, Int.reduceBNe, Int.reduceMul]
        | refine callK_of (c1) ?_
        | refine callK_of (c2) ?_
        | refine callK_of (c3) ?_
        | refine callK_of (c4) ?_
        | refine callK_of (c5) ?_
        | refine vcI_step ?_
        | refine vc_unroll 6 ?_
        | rfl
    | lam i j a b x h h' ma mb mx =>
      rw [stripT_lam]
      have c1 := hkids a (by simp) ma
      have c4 := hkids x (by simp) mx
      have c5 := con_ofT 14 0 0 0 [stripT a, stripT x] (by simp) (by simp)
      refine contract_of_vc mixed Tryz.func89 tr89 ?_
      rw [tv_mk]
      clear hkids hcp ih
      repeat' first
        | simp (config := { maxSteps := 2000000 }) only [go_sem, reduceIte, reduceCtorEq, Nat.reduceAdd, Nat.reduceSub, Nat.reduceMul, Nat.reduceLT, Nat.reduceLeDiff, Nat.reduceEqDiff, Nat.reduceBEq, Nat.reduceGT, Int.reduceEq, Int.reduceNe, Int.reduceLT, Int.reduceLE, Int.reduceToNat, Int.reduceNeg, Int.reduceBEq, Int.reduceAdd, Int.reduceSub, Int.reduceGT, Int.reduceGE, Int.reduceBNe, Int.reduceMul]
        | refine callK_of (c1) ?_
        | refine callK_of (c4) ?_
        | refine callK_of (c5) ?_
        | refine vcI_step ?_
        | refine vc_unroll 6 ?_
        | rfl
    | two k i j a b hk h h' _ ma mb =>
      have c1 := hkids a (by simp) ma
      have c2 := hkids b (by simp) mb
      have e : stripT (.mk k i j 0 [a, b]) = .mk (k + 10) 0 0 0 [stripT a, stripT b] := by
        rw [stripT_gen (by omega) (by omega) (by omega)]
        rcases hk with rfl | rfl | rfl <;> rfl
      rw [e]
      refine contract_of_vc mixed Tryz.func89 tr89 ?_
      rw [tv_mk, tv_mk]
      clear hkids hcp ih e
      rcases hk with rfl | rfl | rfl
      all_goals
        repeat' first
          | simp (config := { maxSteps := 2000000 }) only [go_sem, reduceIte, reduceCtorEq, Nat.reduceAdd, Nat.reduceSub, Nat.reduceMul, Nat.reduceLT, Nat.reduceLeDiff, Nat.reduceEqDiff, Nat.reduceBEq, Nat.reduceGT, Int.reduceEq, Int.reduceNe, Int.reduceLT, Int.reduceLE, Int.reduceToNat, Int.reduceNeg, Int.reduceBEq, Int.reduceAdd, Int.reduceSub, Int.reduceGT, Int.reduceGE, Int.reduceBNe, Int.reduceMul]
          | refine callK_of (c1) ?_
          | refine callK_of (c2) ?_
          | refine vcI_step ?_
          | refine vc_unroll 6 ?_
          | rfl
    | three k i j a b c hk h h' _ ma mb mc =>
      have c1 := hkids a (by simp) ma
      have c2 := hkids b (by simp) mb
      have c3 := hkids c (by simp) mc
      clear hkids hcp ih
      rcases hk with rfl | rfl | rfl
      · rw [show stripT (.mk 8 i j 0 [a, b, c]) = .mk 18 0 0 0 [stripT c] by rw [stripT_gen (by omega) (by omega) (by omega)]; rfl]
        refine contract_of_vc mixed Tryz.func89 tr89 ?_
        rw [tv_mk, tv_mk]
        repeat' first
          | simp (config := { maxSteps := 2000000 }) only [go_sem, reduceIte, reduceCtorEq, Nat.reduceAdd, Nat.reduceSub, Nat.reduceMul, Nat.reduceLT, Nat.reduceLeDiff, Nat.reduceEqDiff, Nat.reduceBEq, Nat.reduceGT, Int.reduceEq, Int.reduceNe, Int.reduceLT, Int.reduceLE, Int.reduceToNat, Int.reduceNeg, Int.reduceBEq, Int.reduceAdd, Int.reduceSub, Int.reduceGT, Int.reduceGE, Int.reduceBNe, Int.reduceMul]
          | refine callK_of (c3) ?_
          | refine vcI_step ?_
          | refine vc_unroll 6 ?_
          | rfl
      · rw [show stripT (.mk 9 i j 0 [a, b, c]) = .mk 19 0 0 0 [stripT c] by rw [stripT_gen (by omega) (by omega) (by omega)]; rfl]
        refine contract_of_vc mixed Tryz.func89 tr89 ?_
        rw [tv_mk, tv_mk]
        repeat' first
          | simp (config := { maxSteps := 2000000 }) only [go_sem, reduceIte, reduceCtorEq, Nat.reduceAdd, Nat.reduceSub, Nat.reduceMul, Nat.reduceLT, Nat.reduceLeDiff, Nat.reduceEqDiff, Nat.reduceBEq, Nat.reduceGT, Int.reduceEq, Int.reduceNe, Int.reduceLT, Int.reduceLE, Int.reduceToNat, Int.reduceNeg, Int.reduceBEq, Int.reduceAdd, Int.reduceSub, Int.reduceGT, Int.reduceGE, Int.reduceBNe, Int.reduceMul]
          | refine callK_of (c3) ?_
          | refine vcI_step ?_
          | refine vc_unroll 6 ?_
          | rfl
      · rw [show stripT (.mk 10 i j 0 [a, b, c]) = .mk 20 0 0 0 [stripT a, stripT b, stripT c] by rw [stripT_gen (by omega) (by omega) (by omega)]; rfl]
        refine contract_of_vc mixed Tryz.func89 tr89 ?_
        rw [tv_mk, tv_mk]
        repeat' first
          | simp (config := { maxSteps := 2000000 }) only [go_sem, reduceIte, reduceCtorEq, Nat.reduceAdd, Nat.reduceSub, Nat.reduceMul, Nat.reduceLT, Nat.reduceLeDiff, Nat.reduceEqDiff, Nat.reduceBEq, Nat.reduceGT, Int.reduceEq, Int.reduceNe, Int.reduceLT, Int.reduceLE, Int.reduceToNat, Int.reduceNeg, Int.reduceBEq, Int.reduceAdd, Int.reduceSub, Int.reduceGT, Int.reduceGE, Int.reduceBNe, Int.reduceMul]
          | refine callK_of (c1) ?_
          | refine callK_of (c2) ?_
          | refine callK_of (c3) ?_
          | refine vcI_step ?_
          | refine vc_unroll 6 ?_
          | rfl
    | four k i j a b c d hk h h' ma mb mc md =>
      have c1 := hkids a (by simp) ma
      have c2 := hkids b (by simp) mb
      have c3 := hkids c (by simp) mc
      have c4 := hkids d (by simp) md
      clear hkids hcp ih
      rcases hk with rfl | rfl
      · rw [show stripT (.mk 5 i j 0 [a, b, c, d]) = .mk 15 0 0 0 [stripT c, stripT d] by rw [stripT_gen (by omega) (by omega) (by omega)]; rfl]
        refine contract_of_vc mixed Tryz.func89 tr89 ?_
        rw [tv_mk, tv_mk]
        repeat' first
          | simp (config := { maxSteps := 2000000 }) only [go_sem, reduceIte, reduceCtorEq, Nat.reduceAdd, Nat.reduceSub, Nat.reduceMul, Nat.reduceLT, Nat.reduceLeDiff, Nat.reduceEqDiff, Nat.reduceBEq, Nat.reduceGT, Int.reduceEq, Int.reduceNe, Int.reduceLT, Int.reduceLE, Int.reduceToNat, Int.reduceNeg, Int.reduceBEq, Int.reduceAdd, Int.reduceSub, Int.reduceGT, Int.reduceGE, Int.reduceBNe, Int.reduceMul]
          | refine callK_of (c3) ?_
          | refine callK_of (c4) ?_
          | refine vcI_step ?_
          | refine vc_unroll 6 ?_
          | rfl
      · rw [show stripT (.mk 7 i j 0 [a, b, c, d]) = .mk 17 0 0 0 [stripT a, stripT b, stripT c, stripT d] by rw [stripT_gen (by omega) (by omega) (by omega)]; rfl]
        refine contract_of_vc mixed Tryz.func89 tr89 ?_
        rw [tv_mk, tv_mk]
        repeat' first
          | simp (config := { maxSteps := 2000000 }) only [go_sem, reduceIte, reduceCtorEq, Nat.reduceAdd, Nat.reduceSub, Nat.reduceMul, Nat.reduceLT, Nat.reduceLeDiff, Nat.reduceEqDiff, Nat.reduceBEq, Nat.reduceGT, Int.reduceEq, Int.reduceNe, Int.reduceLT, Int.reduceLE, Int.reduceToNat, Int.reduceNeg, Int.reduceBEq, Int.reduceAdd, Int.reduceSub, Int.reduceGT, Int.reduceGE, Int.reduceBNe, Int.reduceMul]
          | refine callK_of (c1) ?_
          | refine callK_of (c2) ?_
          | refine callK_of (c3) ?_
          | refine callK_of (c4) ?_
          | refine vcI_step ?_
          | refine vc_unroll 6 ?_
          | rfl
end Go.Proofs.YtkldipbhenabfaaGreat.Abs

