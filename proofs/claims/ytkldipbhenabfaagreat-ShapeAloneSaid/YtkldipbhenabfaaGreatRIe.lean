/- Put of plain terms, by the program. -/
import Derived.Test.YtkldipbhenabfaaGreatRIb
set_option linter.unusedSimpArgs false
set_option linter.unusedVariables false
namespace Go.Proofs.YtkldipbhenabfaaGreat.Abs
open Go Go.RowKit Go.Proofs.YtkldipbhenabfaaGreat

set_option maxRecDepth 10000 in
set_option maxHeartbeats 4000000 in
theorem con_put1 (t u : Tm) (ht : TOk t) (hu : TOk u) (hpt : plainT t = true) (hpu : plainT u = true) (ht2 : (2 : Int) * hgtT t ≤ 1000000000000) (hu2 : (2 : Int) * hgtT u ≤ 1000000000000) :
    Con 124 [.agg true (tv t), .dsl 5 [tv u], .bool true] (resR ((putT u 0 t).map tv)) := by
  have c1 := con_rightq u hu
  rw [right_weak hpu] at c1
  have c2 := con_open t hpt
  have c3 := con_strip u hu hpu
  have c4 := fun b => con_walk u hu 2 hpu hu2 t ht 2 0 b hpt (by omega) (by omega)
  have hz := tv_len t
  have hz2 := tv_len u
  have h0 := tv_0 (t := t)
  have h0u := tv_0 (t := u)
  refine contract_of_vc mixed Tryz.func124 tr124 ?_
  simp only [go_sem, reduceIte, reduceCtorEq, Nat.reduceAdd, Nat.reduceSub, Nat.reduceMul, Nat.reduceLT, Nat.reduceLeDiff, Nat.reduceEqDiff, Nat.reduceBEq, Nat.reduceGT, Int.reduceEq, Int.reduceNe, Int.reduceLT, Int.reduceLE, Int.reduceToNat, Int.reduceNeg, Int.reduceBEq, Int.reduceAdd, Int.reduceSub, Int.reduceGT, Int.reduceGE, Int.reduceBNe, hz]
  intros
  refine vc_for (fun x => if x = 0 then ⟨(.junk :: .dsl 5 [tv u] :: .bool true :: .ref 0 0 0 0 :: .junk :: .junk :: .ref 1 0 0 0 :: .junk :: .ref 2 0 0 0 :: .junk :: .junk :: .junk :: .junk :: .junk :: .junk :: .dsl 5 [tv u] :: .int .i64 1 :: .int .i64 0 :: .junk :: .junk :: .junk :: .junk :: .junk :: .junk :: .junk :: .junk :: .junk :: .junk :: .junk :: .junk :: .junk :: .junk :: .junk :: .junk :: .junk :: .junk :: .junk :: .junk :: .junk :: .junk :: .junk :: .junk :: .junk :: .junk :: .junk :: .junk :: .junk :: .junk :: .junk :: .junk :: .junk :: .junk :: .junk :: .junk :: .junk :: .junk :: []),
      [⟨true, 5, [tv t], 0, 0, true⟩, ⟨true, 5, [[.int .i64 0, .int .i64 0, .int .i64 0, .int .i64 0, .nils]], 0, 0, true⟩, ⟨true, 3, [[.dsl 5 [tv u], .nils, .bool true]], 0, 0, true⟩]⟩
    else ⟨(.junk :: .dsl 5 [tv u] :: .bool true :: .ref 0 0 0 0 :: .junk :: .junk :: .ref 1 0 0 0 :: .junk :: .ref 2 0 0 0 :: .junk :: .junk :: .junk :: .junk :: .junk :: .junk :: .dsl 5 [tv u] :: .int .i64 1 :: .int .i64 1 :: .junk :: .junk :: .junk :: .junk :: .junk :: .junk :: .junk :: .junk :: .junk :: .junk :: .junk :: .junk :: .junk :: .junk :: .junk :: .junk :: .junk :: .junk :: .junk :: .junk :: .junk :: .junk :: .junk :: .junk :: .junk :: .junk :: .junk :: .junk :: .junk :: .junk :: .junk :: .junk :: .junk :: .junk :: .junk :: .junk :: .junk :: .junk :: []),
      [⟨true, 5, [tv t], 0, 0, true⟩, ⟨true, 5, [[.int .i64 0, .int .i64 0, .int .i64 0, .int .i64 0, .nils]], 0, 0, true⟩, ⟨true, 3, [[.dsl 5 [tv u], .osl 5 0 0 1, .bool true]], 0, 0, false⟩, ⟨true, 5, [tv u], 0, 0, true⟩, ⟨false, 5, [[.int .i64 0, .int .i64 0, .int .i64 0, .int .i64 0, .nils]], 0, 0, true⟩, ⟨false, 5, [tv u], 0, 0, true⟩]⟩) 1 (fun x hx => ?_) ?_
  · rcases (show x = 0 ∨ x = 1 by omega) with rfl | rfl
    · simp only [go_sem, reduceIte, reduceCtorEq, Nat.reduceAdd, Nat.reduceSub, Nat.reduceMul, Nat.reduceLT, Nat.reduceLeDiff, Nat.reduceEqDiff, Nat.reduceBEq, Nat.reduceGT, Int.reduceEq, Int.reduceNe, Int.reduceLT, Int.reduceLE, Int.reduceToNat, Int.reduceNeg, Int.reduceBEq, Int.reduceAdd, Int.reduceSub, Int.reduceGT, Int.reduceGE, Int.reduceBNe, if_true, hz, hz2]
      intros
      refine callK_of c1 ?_
      simp only [go_sem, reduceIte, reduceCtorEq, Nat.reduceAdd, Nat.reduceSub, Nat.reduceMul, Nat.reduceLT, Nat.reduceLeDiff, Nat.reduceEqDiff, Nat.reduceBEq, Nat.reduceGT, Int.reduceEq, Int.reduceNe, Int.reduceLT, Int.reduceLE, Int.reduceToNat, Int.reduceNeg, Int.reduceBEq, Int.reduceAdd, Int.reduceSub, Int.reduceGT, Int.reduceGE, Int.reduceBNe, if_true, hz, hz2, h0, h0u]
      refine callK_of c2 ?_
      simp only [go_sem, reduceIte, reduceCtorEq, Nat.reduceAdd, Nat.reduceSub, Nat.reduceMul, Nat.reduceLT, Nat.reduceLeDiff, Nat.reduceEqDiff, Nat.reduceBEq, Nat.reduceGT, Int.reduceEq, Int.reduceNe, Int.reduceLT, Int.reduceLE, Int.reduceToNat, Int.reduceNeg, Int.reduceBEq, Int.reduceAdd, Int.reduceSub, Int.reduceGT, Int.reduceGE, Int.reduceBNe, if_true, hz, hz2, h0, h0u]
      refine callK_of c3 ?_
      simp only [go_sem, reduceIte, reduceCtorEq, Nat.reduceAdd, Nat.reduceSub, Nat.reduceMul, Nat.reduceLT, Nat.reduceLeDiff, Nat.reduceEqDiff, Nat.reduceBEq, Nat.reduceGT, Int.reduceEq, Int.reduceNe, Int.reduceLT, Int.reduceLE, Int.reduceToNat, Int.reduceNeg, Int.reduceBEq, Int.reduceAdd, Int.reduceSub, Int.reduceGT, Int.reduceGE, Int.reduceBNe, if_true, hz, hz2, h0, h0u]
      exact wk_trunc 6 (by simp [slotsLe]; decide) (by simp) (by simp [below]) (by simp [below])
    · rw [if_neg (by omega)]
      simp only [go_sem, reduceIte, reduceCtorEq, Nat.reduceAdd, Nat.reduceSub, Nat.reduceMul, Nat.reduceLT, Nat.reduceLeDiff, Nat.reduceEqDiff, Nat.reduceBEq, Nat.reduceGT, Int.reduceEq, Int.reduceNe, Int.reduceLT, Int.reduceLE, Int.reduceToNat, Int.reduceNeg, Int.reduceBEq, Int.reduceAdd, Int.reduceSub, Int.reduceGT, Int.reduceGE, Int.reduceBNe, hz, hz2, h0]
      refine callK_of (c4 _) ?_
      cases hp : putT u 0 t with
      | none =>
        have hzz := tv_len zT
        simp only [go_sem, reduceIte, reduceCtorEq, Nat.reduceAdd, Nat.reduceSub, Nat.reduceMul, Nat.reduceLT, Nat.reduceLeDiff, Nat.reduceEqDiff, Nat.reduceBEq, Nat.reduceGT, Int.reduceEq, Int.reduceNe, Int.reduceLT, Int.reduceLE, Int.reduceToNat, Int.reduceNeg, Int.reduceBEq, Int.reduceAdd, Int.reduceSub, Int.reduceGT, Int.reduceGE, Int.reduceBNe, resR, Option.map_none, hzz]
        try trace_state
      | some v =>
        have hzz := tv_len v
        simp only [go_sem, reduceIte, reduceCtorEq, Nat.reduceAdd, Nat.reduceSub, Nat.reduceMul, Nat.reduceLT, Nat.reduceLeDiff, Nat.reduceEqDiff, Nat.reduceBEq, Nat.reduceGT, Int.reduceEq, Int.reduceNe, Int.reduceLT, Int.reduceLE, Int.reduceToNat, Int.reduceNeg, Int.reduceBEq, Int.reduceAdd, Int.reduceSub, Int.reduceGT, Int.reduceGE, Int.reduceBNe, resR, Option.map_some, hzz]
        try trace_state
  · rw [if_pos rfl]
    exact wk_slots (by simp [slotsLe])
end Go.Proofs.YtkldipbhenabfaaGreat.Abs

set_option linter.unusedSimpArgs false
set_option linter.unusedVariables false
namespace Go.Proofs.YtkldipbhenabfaaGreat.Abs
open Go Go.RowKit Go.Proofs.YtkldipbhenabfaaGreat

end Go.Proofs.YtkldipbhenabfaaGreat.Abs

set_option linter.unusedSimpArgs false
set_option linter.unusedVariables false
namespace Go.Proofs.YtkldipbhenabfaaGreat.Abs
open Go Go.RowKit Go.Proofs.YtkldipbhenabfaaGreat

theorem var_kids {i j n w : Int} {l : List Tm} (h : rightT (.mk 2 i j n l) w = true) : l = [] := by
  rw [rightT_mk, Bool.and_eq_true] at h
  have h1 := h.1
  unfold rightN at h1
  rw [Bool.and_eq_true, Bool.and_eq_true] at h1
  have h2 := h1.2.1
  have hk : kidsN 2 n = 0 := by unfold kidsN; rfl
  rw [hk] at h2
  simp only [Bool.not_eq_true', bne_eq_false_iff_eq] at h2
  cases l with
  | nil => rfl
  | cons x l => simp at h2; omega

theorem put_ok (u : Tm) (hu : TOk u) (wu : Int) (hru : rightT u wu = true) (t : Tm) : TOk t → ∀ (w d : Int) v, rightT t w = true → 0 ≤ d → putT u d t = some v → TOk v := by
  induction t using Tm.ind with
  | h kk i j n l ih =>
    intro hok w d v hr hd hv
    cases hok with
    | mk _ _ _ _ _ f1 f2 f3 f4 hb hl =>
    by_cases h : kk = 2 ∧ d ≤ i
    · have hi := right_var hr h.1
      rw [putT_var h] at hv
      split at hv
      · exact lift_ok d hd u hu wu 0 v hru hv
      · cases hv
        exact tok_vr (by unfold fit; omega)
    · rw [putT_node h] at hv
      cases hA : allS (fun p t => putT u (d + bindsN kk p) t) 0 l with
      | none => rw [hA] at hv; cases hv
      | some us =>
        rw [hA] at hv
        cases hv
        refine .mk _ _ _ _ _ f1 f2 f3 f4 (by rw [allS_len hA]; exact hb) (allS_all hA (fun q x hx v hv => ?_))
        obtain ⟨w', hw⟩ := right_kid hr hx
        have hbl := binds_le kk q
        exact ih x hx (hl x hx) w' _ v hw (by omega) hv

def putF (u t : Tm) : Tm := (putT u 0 t).getD zT
theorem tok_putF {u t : Tm} (hu : TOk u) (ht : TOk t) (hpu : plainT u = true) (hpt : plainT t = true) : TOk (putF u t) := by
  unfold putF
  cases h : putT u 0 t with
  | none => exact tok_zT
  | some v => exact put_ok u hu 2 hpu t ht 2 0 v hpt (by omega) h
theorem con_sPut (t u : Tm) (ht : TOk t) (hu : TOk u) (hpt : plainT t = true) (hpu : plainT u = true) (ht2 : hgtT t ≤ 2000) (hu2 : hgtT u ≤ 2000) :
    Con 158 [.agg true (tv t), .agg true (tv u)] (.agg true (tv (putF u t))) := by
  have h1 := con_rightq t ht
  rw [right_weak hpt] at h1
  have h2 := con_put1 t u ht hu hpt hpu (by omega) (by omega)
  have hz := tv_len t
  have hzu := tv_len u
  unfold putF
  cases hp : putT u 0 t with
  | none =>
    rw [hp] at h2
    refine (contract_of_vc (r := .agg true [.int .i64 0, .int .i64 0, .int .i64 0, .int .i64 0, .nils]) mixed Tryz.func158 tr158 ?_).weaken le_zT
    have hzz := tv_len zT
    simp only [go_sem, reduceIte, reduceCtorEq, Nat.reduceAdd, Nat.reduceSub, Nat.reduceMul, Nat.reduceLT, Nat.reduceLeDiff, Nat.reduceEqDiff, Nat.reduceBEq, Nat.reduceGT, Int.reduceEq, Int.reduceNe, Int.reduceLT, Int.reduceLE, Int.reduceToNat, Int.reduceNeg, Int.reduceBEq, Int.reduceAdd, Int.reduceSub, Int.reduceGT, Int.reduceGE, Int.reduceBNe, hz, hzu]
    refine callK_of h1 ?_
    simp only [go_sem, reduceIte, reduceCtorEq, Nat.reduceAdd, Nat.reduceSub, Nat.reduceMul, Nat.reduceLT, Nat.reduceLeDiff, Nat.reduceEqDiff, Nat.reduceBEq, Nat.reduceGT, Int.reduceEq, Int.reduceNe, Int.reduceLT, Int.reduceLE, Int.reduceToNat, Int.reduceNeg, Int.reduceBEq, Int.reduceAdd, Int.reduceSub, Int.reduceGT, Int.reduceGE, Int.reduceBNe, hz, hzu]
    refine callK_of h2 ?_
    simp only [go_sem, reduceIte, reduceCtorEq, Nat.reduceAdd, Nat.reduceSub, Nat.reduceMul, Nat.reduceLT, Nat.reduceLeDiff, Nat.reduceEqDiff, Nat.reduceBEq, Nat.reduceGT, Int.reduceEq, Int.reduceNe, Int.reduceLT, Int.reduceLE, Int.reduceToNat, Int.reduceNeg, Int.reduceBEq, Int.reduceAdd, Int.reduceSub, Int.reduceGT, Int.reduceGE, Int.reduceBNe, resR, Option.map_none, hzz]
  | some v =>
    rw [hp] at h2
    have hzz := tv_len v
    refine contract_of_vc mixed Tryz.func158 tr158 ?_
    simp only [go_sem, reduceIte, reduceCtorEq, Nat.reduceAdd, Nat.reduceSub, Nat.reduceMul, Nat.reduceLT, Nat.reduceLeDiff, Nat.reduceEqDiff, Nat.reduceBEq, Nat.reduceGT, Int.reduceEq, Int.reduceNe, Int.reduceLT, Int.reduceLE, Int.reduceToNat, Int.reduceNeg, Int.reduceBEq, Int.reduceAdd, Int.reduceSub, Int.reduceGT, Int.reduceGE, Int.reduceBNe, hz, hzu]
    refine callK_of h1 ?_
    simp only [go_sem, reduceIte, reduceCtorEq, Nat.reduceAdd, Nat.reduceSub, Nat.reduceMul, Nat.reduceLT, Nat.reduceLeDiff, Nat.reduceEqDiff, Nat.reduceBEq, Nat.reduceGT, Int.reduceEq, Int.reduceNe, Int.reduceLT, Int.reduceLE, Int.reduceToNat, Int.reduceNeg, Int.reduceBEq, Int.reduceAdd, Int.reduceSub, Int.reduceGT, Int.reduceGE, Int.reduceBNe, hz, hzu]
    refine callK_of h2 ?_
    simp only [go_sem, reduceIte, reduceCtorEq, Nat.reduceAdd, Nat.reduceSub, Nat.reduceMul, Nat.reduceLT, Nat.reduceLeDiff, Nat.reduceEqDiff, Nat.reduceBEq, Nat.reduceGT, Int.reduceEq, Int.reduceNe, Int.reduceLT, Int.reduceLE, Int.reduceToNat, Int.reduceNeg, Int.reduceBEq, Int.reduceAdd, Int.reduceSub, Int.reduceGT, Int.reduceGE, Int.reduceBNe, resR, Option.map_some, hzz, Option.getD_some]
end Go.Proofs.YtkldipbhenabfaaGreat.Abs

