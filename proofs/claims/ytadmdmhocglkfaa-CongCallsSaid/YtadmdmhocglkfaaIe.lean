/- Put of plain terms: the program and the page come to the same term. -/
import Derived.Test.YtadmdmhocglkfaaIc
import Derived.Test.YtadmdmhocglkfaaId
set_option linter.unusedSimpArgs false
set_option linter.unusedVariables false
namespace Go.Proofs.Ytadmdmhocglkfaa.Abs
open Go Go.RowKit Go.Proofs.Ytadmdmhocglkfaa

theorem var_kids {i j n w : Int} {l : List Tm} (h : rightT (.mk 2 i j n l) w = true) : l = [] := by
  rw [rightT_mk, Bool.and_eq_true] at h
  have h1 := h.1
  unfold rightN at h1
  rw [Bool.and_eq_true, Bool.and_eq_true] at h1
  have h2 := h1.2.1
  have hk : kidsN 2 n = 0 := by unfold kidsN; rfl
  rw [hk] at h2
  simp only [Bool.not_eq_true', bne_eq_false_iff_eq] at h2
  cases l with
  | nil => rfl
  | cons x l => simp at h2; omega

set_option maxRecDepth 10000 in
set_option maxHeartbeats 1000000 in
theorem con_rput_var (u : Tm) (hu : TOk u) (hp : plainT u = true) (hh : (2 : Int) * hgtT u ≤ 1000000000000) (i j n d w : Int) (b : Bool) (l : List Tm) (hr : rightT (.mk 2 i j n l) w = true) (hi : 0 ≤ i ∧ i ≤ 2147483647) (hd : 0 ≤ d) :
    Con 138 [.agg true (tv (.mk 2 i j n l)), .agg true (tv u), .int .i64 d, .bool b] (resR ((putT u d (.mk 2 i j n l)).map tv)) := by
  have hl := var_kids hr
  subst hl
  have hzu := tv_len u
  by_cases h1 : i = d
  · subst h1
    have hc := con_raised u hu hp i hd b hh
    rw [putT_var ⟨rfl, Int.le_refl _⟩, if_pos rfl]
    refine contract_of_vc mixed Try.func138 tr138 ?_
    rw [tv_mk]
    simp only [go_sem, reduceIte, reduceCtorEq, Nat.reduceAdd, Nat.reduceSub, Nat.reduceMul, Nat.reduceLT, Nat.reduceLeDiff, Nat.reduceEqDiff, Nat.reduceBEq, Nat.reduceGT, Int.reduceEq, Int.reduceNe, Int.reduceLT, Int.reduceLE, Int.reduceToNat, Int.reduceNeg, Int.reduceBEq, Int.reduceAdd, Int.reduceSub, Int.reduceGT, Int.reduceGE, Int.reduceBNe, hzu]
    refine callK_of hc ?_
    cases liftT i 0 u with
    | none =>
      have hz := tv_len zT
      simp only [go_sem, reduceIte, reduceCtorEq, Nat.reduceAdd, Nat.reduceSub, Nat.reduceMul, Nat.reduceLT, Nat.reduceLeDiff, Nat.reduceEqDiff, Nat.reduceBEq, Nat.reduceGT, Int.reduceEq, Int.reduceNe, Int.reduceLT, Int.reduceLE, Int.reduceToNat, Int.reduceNeg, Int.reduceBEq, Int.reduceAdd, Int.reduceSub, Int.reduceGT, Int.reduceGE, Int.reduceBNe, resR, Option.map_none, hz]
    | some v =>
      have hz := tv_len v
      simp only [go_sem, reduceIte, reduceCtorEq, Nat.reduceAdd, Nat.reduceSub, Nat.reduceMul, Nat.reduceLT, Nat.reduceLeDiff, Nat.reduceEqDiff, Nat.reduceBEq, Nat.reduceGT, Int.reduceEq, Int.reduceNe, Int.reduceLT, Int.reduceLE, Int.reduceToNat, Int.reduceNeg, Int.reduceBEq, Int.reduceAdd, Int.reduceSub, Int.reduceGT, Int.reduceGE, Int.reduceBNe, resR, Option.map_some, hz]
  · have q1 : (i == d) = false := by simp [h1]
    by_cases h2 : d < i
    · rw [putT_var ⟨rfl, by omega⟩, if_neg h1]
      have ew : IntKind.i64.wrap (i - 1) = i - 1 := w64 (by unfold fit; omega)
      have hle := le_leafT 2 (i - 1) 0 0
      rw [Option.map_some, show tv (vr (i - 1)) = [.int .i64 2, .int .i64 (i - 1), .int .i64 0, .int .i64 0, .dsl 5 []] from by simp [vr, tv_mk]]
      refine (contract_of_vc mixed Try.func138 tr138 ?_).weaken hle
      rw [tv_mk]
      simp only [go_sem, reduceIte, reduceCtorEq, Nat.reduceAdd, Nat.reduceSub, Nat.reduceMul, Nat.reduceLT, Nat.reduceLeDiff, Nat.reduceEqDiff, Nat.reduceBEq, Nat.reduceGT, Int.reduceEq, Int.reduceNe, Int.reduceLT, Int.reduceLE, Int.reduceToNat, Int.reduceNeg, Int.reduceBEq, Int.reduceAdd, Int.reduceSub, Int.reduceGT, Int.reduceGE, Int.reduceBNe, hzu, q1, h2, ew]
    · rw [putT_node (fun h => by omega), allS, Option.map_some, Option.map_some]
      have hz := tv_len (.mk 2 i j n [])
      rw [tv_mk] at hz
      refine contract_of_vc mixed Try.func138 tr138 ?_
      rw [tv_mk]
      simp only [go_sem, reduceIte, reduceCtorEq, Nat.reduceAdd, Nat.reduceSub, Nat.reduceMul, Nat.reduceLT, Nat.reduceLeDiff, Nat.reduceEqDiff, Nat.reduceBEq, Nat.reduceGT, Int.reduceEq, Int.reduceNe, Int.reduceLT, Int.reduceLE, Int.reduceToNat, Int.reduceNeg, Int.reduceBEq, Int.reduceAdd, Int.reduceSub, Int.reduceGT, Int.reduceGE, Int.reduceBNe, resR, hzu, q1, h2]

theorem con_rput1 (u : Tm) (hu : TOk u) (hp : plainT u = true) (hh : (2 : Int) * hgtT u ≤ 1000000000000) (t : Tm) : TOk t → ∀ (w d : Int) (b : Bool), rightT t w = true → 0 ≤ d → d + 2 * hgtT t ≤ 1000000000000 →
    Con 138 [.agg true (tv t), .agg true (tv u), .int .i64 d, .bool b] (resR ((putT u d t).map tv)) := by
  induction t using Tm.ind with
  | h kk i j n l ih =>
    intro hok w d b hr hd hb2
    cases hok with
    | mk _ _ _ _ _ f1 f2 f3 f4 hb hl =>
    rw [hgtT_mk] at hb2
    by_cases hv : kk = 2
    · have hi := right_var hr hv
      subst hv
      exact con_rput_var u hu hp hh i j n d w b l hr hi hd
    · have h := con_rput_rows kk i j n d b u (l.map tv) (fun p r => onT (fun t => (putT u (d + bindsN kk (p : Nat)) t).map tv) none r) (by simpa using hb) (rows5 l) hv hd (by omega)
        (fun p r hr u hu => by
          obtain ⟨t, ht, rfl⟩ := List.mem_map.1 hr
          simp only [onT_tv] at hu
          cases he : putT _ (d + bindsN kk (p : Nat)) t with
          | none => rw [he] at hu; cases hu
          | some v => rw [he] at hu; cases hu; exact tv_len v)
        (fun p r hr' b' => by
          obtain ⟨t, ht, rfl⟩ := List.mem_map.1 hr'
          simp only [onT_tv]
          obtain ⟨w', hw⟩ := right_kid hr ht
          have hm := hgt_mem ht
          have hbl := binds_le kk p
          exact ih t ht (hl t ht) w' _ b' hw (by omega) (by omega))
      rw [putT_v (fun h => hv h.1), ← tv_mk] at h
      exact h

/-- What is put is as sound a term as what was. -/
theorem put_ok (u : Tm) (hu : TOk u) (wu : Int) (hru : rightT u wu = true) (t : Tm) : TOk t → ∀ (w d : Int) v, rightT t w = true → 0 ≤ d → putT u d t = some v → TOk v := by
  induction t using Tm.ind with
  | h kk i j n l ih =>
    intro hok w d v hr hd hv
    cases hok with
    | mk _ _ _ _ _ f1 f2 f3 f4 hb hl =>
    by_cases h : kk = 2 ∧ d ≤ i
    · have hi := right_var hr h.1
      rw [putT_var h] at hv
      split at hv
      · exact lift_ok d hd u hu wu 0 v hru hv
      · cases hv
        exact tok_vr (by unfold fit; omega)
    · rw [putT_node h] at hv
      cases hA : allS (fun p t => putT u (d + bindsN kk p) t) 0 l with
      | none => rw [hA] at hv; cases hv
      | some us =>
        rw [hA] at hv
        cases hv
        refine .mk _ _ _ _ _ f1 f2 f3 f4 (by rw [allS_len hA]; exact hb) (allS_all hA (fun q x hx v hv => ?_))
        obtain ⟨w', hw⟩ := right_kid hr hx
        have hbl := binds_le kk q
        exact ih x hx (hl x hx) w' _ v hw (by omega) hv

/-- u for the variable 0, or the empty term. -/
def putF (u t : Tm) : Tm := (putT u 0 t).getD zT
theorem tok_putF {u t : Tm} (hu : TOk u) (ht : TOk t) (hpu : plainT u = true) (hpt : plainT t = true) : TOk (putF u t) := by
  unfold putF
  cases h : putT u 0 t with
  | none => exact tok_zT
  | some v => exact put_ok u hu 2 hpu t ht 2 0 v hpt (by omega) h
theorem con_sPut (t u : Tm) (ht : TOk t) (hu : TOk u) (hpt : plainT t = true) (hpu : plainT u = true) (ht2 : hgtT t ≤ 2000) (hu2 : hgtT u ≤ 2000) :
    Con 122 [.agg true (tv t), .agg true (tv u)] (.agg true (tv (putF u t))) := by
  have h1 := con_rightq t ht
  rw [right_weak hpt] at h1
  have h2 := con_put1 t u ht hu hpt hpu (by omega) (by omega)
  have hz := tv_len t
  have hzu := tv_len u
  unfold putF
  cases hp : putT u 0 t with
  | none =>
    rw [hp] at h2
    refine (contract_of_vc (r := .agg true [.int .i64 0, .int .i64 0, .int .i64 0, .int .i64 0, .nils]) mixed Try.func122 tr122 ?_).weaken le_zT
    have hzz := tv_len zT
    simp only [go_sem, reduceIte, reduceCtorEq, Nat.reduceAdd, Nat.reduceSub, Nat.reduceMul, Nat.reduceLT, Nat.reduceLeDiff, Nat.reduceEqDiff, Nat.reduceBEq, Nat.reduceGT, Int.reduceEq, Int.reduceNe, Int.reduceLT, Int.reduceLE, Int.reduceToNat, Int.reduceNeg, Int.reduceBEq, Int.reduceAdd, Int.reduceSub, Int.reduceGT, Int.reduceGE, Int.reduceBNe, hz, hzu]
    refine callK_of h1 ?_
    simp only [go_sem, reduceIte, reduceCtorEq, Nat.reduceAdd, Nat.reduceSub, Nat.reduceMul, Nat.reduceLT, Nat.reduceLeDiff, Nat.reduceEqDiff, Nat.reduceBEq, Nat.reduceGT, Int.reduceEq, Int.reduceNe, Int.reduceLT, Int.reduceLE, Int.reduceToNat, Int.reduceNeg, Int.reduceBEq, Int.reduceAdd, Int.reduceSub, Int.reduceGT, Int.reduceGE, Int.reduceBNe, hz, hzu]
    refine callK_of h2 ?_
    simp only [go_sem, reduceIte, reduceCtorEq, Nat.reduceAdd, Nat.reduceSub, Nat.reduceMul, Nat.reduceLT, Nat.reduceLeDiff, Nat.reduceEqDiff, Nat.reduceBEq, Nat.reduceGT, Int.reduceEq, Int.reduceNe, Int.reduceLT, Int.reduceLE, Int.reduceToNat, Int.reduceNeg, Int.reduceBEq, Int.reduceAdd, Int.reduceSub, Int.reduceGT, Int.reduceGE, Int.reduceBNe, resR, Option.map_none, hzz]
  | some v =>
    rw [hp] at h2
    have hzz := tv_len v
    refine contract_of_vc mixed Try.func122 tr122 ?_
    simp only [go_sem, reduceIte, reduceCtorEq, Nat.reduceAdd, Nat.reduceSub, Nat.reduceMul, Nat.reduceLT, Nat.reduceLeDiff, Nat.reduceEqDiff, Nat.reduceBEq, Nat.reduceGT, Int.reduceEq, Int.reduceNe, Int.reduceLT, Int.reduceLE, Int.reduceToNat, Int.reduceNeg, Int.reduceBEq, Int.reduceAdd, Int.reduceSub, Int.reduceGT, Int.reduceGE, Int.reduceBNe, hz, hzu]
    refine callK_of h1 ?_
    simp only [go_sem, reduceIte, reduceCtorEq, Nat.reduceAdd, Nat.reduceSub, Nat.reduceMul, Nat.reduceLT, Nat.reduceLeDiff, Nat.reduceEqDiff, Nat.reduceBEq, Nat.reduceGT, Int.reduceEq, Int.reduceNe, Int.reduceLT, Int.reduceLE, Int.reduceToNat, Int.reduceNeg, Int.reduceBEq, Int.reduceAdd, Int.reduceSub, Int.reduceGT, Int.reduceGE, Int.reduceBNe, hz, hzu]
    refine callK_of h2 ?_
    simp only [go_sem, reduceIte, reduceCtorEq, Nat.reduceAdd, Nat.reduceSub, Nat.reduceMul, Nat.reduceLT, Nat.reduceLeDiff, Nat.reduceEqDiff, Nat.reduceBEq, Nat.reduceGT, Int.reduceEq, Int.reduceNe, Int.reduceLT, Int.reduceLE, Int.reduceToNat, Int.reduceNeg, Int.reduceBEq, Int.reduceAdd, Int.reduceSub, Int.reduceGT, Int.reduceGE, Int.reduceBNe, resR, Option.map_some, hzz, Option.getD_some]
theorem con_rmay (t u : Tm) (ht : TOk t) (hu : TOk u) (hpt : plainT t = true) (hpu : plainT u = true) : Con 137 [.agg true (tv t), .agg true (tv u)] (.bool true) := by
  have h1 := con_rrightP u hu hpu
  have h2 := con_rplain t ht
  rw [hpt] at h2
  have hz := tv_len t
  have hzu := tv_len u
  have h0 := tv_0 (t := t)
  refine contract_of_vc mixed Try.func137 tr137 ?_
  cases hk1 : (t.k == 1) <;> cases hk2 : (t.k == 2)
  all_goals
    simp only [go_sem, reduceIte, reduceCtorEq, Nat.reduceAdd, Nat.reduceSub, Nat.reduceMul, Nat.reduceLT, Nat.reduceLeDiff, Nat.reduceEqDiff, Nat.reduceBEq, Nat.reduceGT, Int.reduceEq, Int.reduceNe, Int.reduceLT, Int.reduceLE, Int.reduceToNat, Int.reduceNeg, Int.reduceBEq, Int.reduceAdd, Int.reduceSub, Int.reduceGT, Int.reduceGE, Int.reduceBNe, hz, hzu, h0]
    refine callK_of h1 ?_
    simp only [go_sem, reduceIte, reduceCtorEq, Nat.reduceAdd, Nat.reduceSub, Nat.reduceMul, Nat.reduceLT, Nat.reduceLeDiff, Nat.reduceEqDiff, Nat.reduceBEq, Nat.reduceGT, Int.reduceEq, Int.reduceNe, Int.reduceLT, Int.reduceLE, Int.reduceToNat, Int.reduceNeg, Int.reduceBEq, Int.reduceAdd, Int.reduceSub, Int.reduceGT, Int.reduceGE, Int.reduceBNe, hz, hzu, h0, hk1, hk2]
    try (refine callK_of h2 ?_; simp only [go_sem, reduceIte, reduceCtorEq, Nat.reduceAdd, Nat.reduceSub, Nat.reduceMul, Nat.reduceLT, Nat.reduceLeDiff, Nat.reduceEqDiff, Nat.reduceBEq, Nat.reduceGT, Int.reduceEq, Int.reduceNe, Int.reduceLT, Int.reduceLE, Int.reduceToNat, Int.reduceNeg, Int.reduceBEq, Int.reduceAdd, Int.reduceSub, Int.reduceGT, Int.reduceGE, Int.reduceBNe, hz, hzu, h0, hk1, hk2])
theorem con_rPut (t u : Tm) (ht : TOk t) (hu : TOk u) (hpt : plainT t = true) (hpu : plainT u = true) (ht2 : hgtT t ≤ 2000) (hu2 : hgtT u ≤ 2000) :
    Con 123 [.agg true (tv t), .agg true (tv u)] (.agg true (tv (putF u t))) := by
  have h1 := con_rrightP t ht hpt
  have h3 := con_rmay t u ht hu hpt hpu
  have h2 := con_rput1 u hu hpu (by omega) t ht 2 0 false hpt (by omega) (by omega)
  have hz := tv_len t
  have hzu := tv_len u
  unfold putF
  cases hp : putT u 0 t with
  | none =>
    rw [hp] at h2
    refine (contract_of_vc (r := .agg true [.int .i64 0, .int .i64 0, .int .i64 0, .int .i64 0, .nils]) mixed Try.func123 tr123 ?_).weaken le_zT
    have hzz := tv_len zT
    simp only [go_sem, reduceIte, reduceCtorEq, Nat.reduceAdd, Nat.reduceSub, Nat.reduceMul, Nat.reduceLT, Nat.reduceLeDiff, Nat.reduceEqDiff, Nat.reduceBEq, Nat.reduceGT, Int.reduceEq, Int.reduceNe, Int.reduceLT, Int.reduceLE, Int.reduceToNat, Int.reduceNeg, Int.reduceBEq, Int.reduceAdd, Int.reduceSub, Int.reduceGT, Int.reduceGE, Int.reduceBNe, hz, hzu]
    refine callK_of h1 ?_
    simp only [go_sem, reduceIte, reduceCtorEq, Nat.reduceAdd, Nat.reduceSub, Nat.reduceMul, Nat.reduceLT, Nat.reduceLeDiff, Nat.reduceEqDiff, Nat.reduceBEq, Nat.reduceGT, Int.reduceEq, Int.reduceNe, Int.reduceLT, Int.reduceLE, Int.reduceToNat, Int.reduceNeg, Int.reduceBEq, Int.reduceAdd, Int.reduceSub, Int.reduceGT, Int.reduceGE, Int.reduceBNe, hz, hzu]
    refine callK_of h3 ?_
    simp only [go_sem, reduceIte, reduceCtorEq, Nat.reduceAdd, Nat.reduceSub, Nat.reduceMul, Nat.reduceLT, Nat.reduceLeDiff, Nat.reduceEqDiff, Nat.reduceBEq, Nat.reduceGT, Int.reduceEq, Int.reduceNe, Int.reduceLT, Int.reduceLE, Int.reduceToNat, Int.reduceNeg, Int.reduceBEq, Int.reduceAdd, Int.reduceSub, Int.reduceGT, Int.reduceGE, Int.reduceBNe, hz, hzu]
    refine callK_of h2 ?_
    simp only [go_sem, reduceIte, reduceCtorEq, Nat.reduceAdd, Nat.reduceSub, Nat.reduceMul, Nat.reduceLT, Nat.reduceLeDiff, Nat.reduceEqDiff, Nat.reduceBEq, Nat.reduceGT, Int.reduceEq, Int.reduceNe, Int.reduceLT, Int.reduceLE, Int.reduceToNat, Int.reduceNeg, Int.reduceBEq, Int.reduceAdd, Int.reduceSub, Int.reduceGT, Int.reduceGE, Int.reduceBNe, resR, Option.map_none, hzz]
  | some v =>
    rw [hp] at h2
    have hzz := tv_len v
    refine contract_of_vc mixed Try.func123 tr123 ?_
    simp only [go_sem, reduceIte, reduceCtorEq, Nat.reduceAdd, Nat.reduceSub, Nat.reduceMul, Nat.reduceLT, Nat.reduceLeDiff, Nat.reduceEqDiff, Nat.reduceBEq, Nat.reduceGT, Int.reduceEq, Int.reduceNe, Int.reduceLT, Int.reduceLE, Int.reduceToNat, Int.reduceNeg, Int.reduceBEq, Int.reduceAdd, Int.reduceSub, Int.reduceGT, Int.reduceGE, Int.reduceBNe, hz, hzu]
    refine callK_of h1 ?_
    simp only [go_sem, reduceIte, reduceCtorEq, Nat.reduceAdd, Nat.reduceSub, Nat.reduceMul, Nat.reduceLT, Nat.reduceLeDiff, Nat.reduceEqDiff, Nat.reduceBEq, Nat.reduceGT, Int.reduceEq, Int.reduceNe, Int.reduceLT, Int.reduceLE, Int.reduceToNat, Int.reduceNeg, Int.reduceBEq, Int.reduceAdd, Int.reduceSub, Int.reduceGT, Int.reduceGE, Int.reduceBNe, hz, hzu]
    refine callK_of h3 ?_
    simp only [go_sem, reduceIte, reduceCtorEq, Nat.reduceAdd, Nat.reduceSub, Nat.reduceMul, Nat.reduceLT, Nat.reduceLeDiff, Nat.reduceEqDiff, Nat.reduceBEq, Nat.reduceGT, Int.reduceEq, Int.reduceNe, Int.reduceLT, Int.reduceLE, Int.reduceToNat, Int.reduceNeg, Int.reduceBEq, Int.reduceAdd, Int.reduceSub, Int.reduceGT, Int.reduceGE, Int.reduceBNe, hz, hzu]
    refine callK_of h2 ?_
    simp only [go_sem, reduceIte, reduceCtorEq, Nat.reduceAdd, Nat.reduceSub, Nat.reduceMul, Nat.reduceLT, Nat.reduceLeDiff, Nat.reduceEqDiff, Nat.reduceBEq, Nat.reduceGT, Int.reduceEq, Int.reduceNe, Int.reduceLT, Int.reduceLE, Int.reduceToNat, Int.reduceNeg, Int.reduceBEq, Int.reduceAdd, Int.reduceSub, Int.reduceGT, Int.reduceGE, Int.reduceBNe, resR, Option.map_some, hzz, Option.getD_some]
end Go.Proofs.Ytadmdmhocglkfaa.Abs
