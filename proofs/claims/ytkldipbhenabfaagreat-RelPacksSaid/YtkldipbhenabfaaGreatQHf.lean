/- Lift of a Het, by the program and by the page; the law HetMakes as a contract. -/
import Derived.Test.YtkldipbhenabfaaGreatQHe
set_option linter.unusedSimpArgs false
set_option linter.unusedVariables false
set_option linter.unusedSimpArgs false
set_option linter.unusedVariables false
namespace Go.Proofs.YtkldipbhenabfaaGreat.Abs
open Go Go.RowKit Go.Proofs.YtkldipbhenabfaaGreat

theorem liftF_plain {k : Int} (hk : 0 ≤ k) {t : Tm} (ht : plainT t = true) (h : (liftF k t).k ≠ 0) : plainT (liftF k t) = true := by
  unfold liftF at *
  cases hu : liftT k 0 t with
  | none => rw [hu] at h; exact absurd rfl h
  | some u => exact lift_right k hk t 2 0 u ht hu
theorem liftF_ok {k : Int} (hk : 0 ≤ k) {t : Tm} (ht : plainT t = true) (ho : TOk t) : TOk (liftF k t) := by
  unfold liftF
  cases hu : liftT k 0 t with
  | none => exact tok_zT
  | some u => exact lift_ok k hk t ho 2 0 u ht hu
def liftG (k : Int) (g : HT) : HT := ⟨g.i, liftF k g.a, liftF k g.b, liftF k g.x, liftF k g.y, liftF k g.h⟩
def liftHF (k : Int) (g : HT) : HT := if hrightB g && decide (0 ≤ k) && hrightB (liftG k g) then liftG k g else zH
theorem ok_liftG {k : Int} {g : HT} (hk : 0 ≤ k) (hg : g.ok) (hr : hrightB g = true) : (liftG k g).ok := by
  obtain ⟨hl, pa, pb, px, py, ph⟩ := hright_of hr
  exact ⟨hg.i, liftF_ok hk pa hg.a, liftF_ok hk pb hg.b, liftF_ok hk px hg.x, liftF_ok hk py hg.y, liftF_ok hk ph hg.h⟩
theorem liftG_right {k : Int} {g : HT} (hk : 0 ≤ k) (hr : hrightB g = true) : hrightB (liftG k g) = true ↔ ((liftF k g.a).k ≠ 0 ∧ (liftF k g.b).k ≠ 0 ∧ (liftF k g.x).k ≠ 0 ∧ (liftF k g.y).k ≠ 0 ∧ (liftF k g.h).k ≠ 0) := by
  obtain ⟨hl, pa, pb, px, py, ph⟩ := hright_of hr
  constructor
  · intro h
    obtain ⟨_, qa, qb, qx, qy, qh⟩ := hright_of h
    exact ⟨right_k0 qa, right_k0 qb, right_k0 qx, right_k0 qy, right_k0 qh⟩
  · intro ⟨qa, qb, qx, qy, qh⟩
    have ra := liftF_plain hk pa qa
    have rb := liftF_plain hk pb qb
    have rx := liftF_plain hk px qx
    have ry := liftF_plain hk py qy
    have rh := liftF_plain hk ph qh
    unfold hrightB liftG
    simp [hl, ra, rb, rx, ry, rh]
structure HT.low (g : HT) : Prop where
  a : hgtT g.a ≤ 1000
  b : hgtT g.b ≤ 1000
  x : hgtT g.x ≤ 1000
  y : hgtT g.y ≤ 1000
  h : hgtT g.h ≤ 1000

set_option maxRecDepth 10000 in
set_option maxHeartbeats 4000000 in
theorem con_hLift (k : Int) (g : HT) (hg : g.ok) (hw : g.low) : Con 72 [.agg true g.v, .int .i64 k] (.agg true (liftHF k g).v) := by
  have hc := con_hright g hg
  unfold liftHF
  cases hb : hrightB g
  · refine (contract_of_vc (r := .agg true [.int .i64 0, .int .i64 0, .int .i64 0, .int .i64 0, .int .i64 0, .nils, .int .i64 0, .int .i64 0, .int .i64 0, .int .i64 0, .nils, .int .i64 0, .int .i64 0, .int .i64 0, .int .i64 0, .nils, .int .i64 0, .int .i64 0, .int .i64 0, .int .i64 0, .nils, .int .i64 0, .int .i64 0, .int .i64 0, .int .i64 0, .nils]) mixed Tryz.func72 tr72 ?_).weaken le_zH
    unfold HT.v at *
    repeat' first
      | simp (config := { maxSteps := 2000000 }) only [go_sem, reduceIte, reduceCtorEq, Nat.reduceAdd, Nat.reduceSub, Nat.reduceMul, Nat.reduceLT, Nat.reduceLeDiff, Nat.reduceEqDiff, Nat.reduceBEq, Nat.reduceGT, Int.reduceEq, Int.reduceNe, Int.reduceLT, Int.reduceLE, Int.reduceToNat, Int.reduceNeg, Int.reduceBEq, Int.reduceAdd, Int.reduceSub, Int.reduceGT, Int.reduceGE, Int.reduceBNe, hb]
      | refine callK_of (hc) ?_
      | rfl
  · by_cases hk : k < 0
    · rw [show decide (0 ≤ k) = false by simp; omega]
      refine (contract_of_vc (r := .agg true [.int .i64 0, .int .i64 0, .int .i64 0, .int .i64 0, .int .i64 0, .nils, .int .i64 0, .int .i64 0, .int .i64 0, .int .i64 0, .nils, .int .i64 0, .int .i64 0, .int .i64 0, .int .i64 0, .nils, .int .i64 0, .int .i64 0, .int .i64 0, .int .i64 0, .nils, .int .i64 0, .int .i64 0, .int .i64 0, .int .i64 0, .nils]) mixed Tryz.func72 tr72 ?_).weaken le_zH
      unfold HT.v at *
      repeat' first
        | simp (config := { maxSteps := 2000000 }) only [go_sem, reduceIte, reduceCtorEq, Nat.reduceAdd, Nat.reduceSub, Nat.reduceMul, Nat.reduceLT, Nat.reduceLeDiff, Nat.reduceEqDiff, Nat.reduceBEq, Nat.reduceGT, Int.reduceEq, Int.reduceNe, Int.reduceLT, Int.reduceLE, Int.reduceToNat, Int.reduceNeg, Int.reduceBEq, Int.reduceAdd, Int.reduceSub, Int.reduceGT, Int.reduceGE, Int.reduceBNe, hb, hk]
        | refine callK_of (hc) ?_
        | rfl
    · have hk' : 0 ≤ k := by omega
      rw [show decide (0 ≤ k) = true by simp; omega]
      obtain ⟨hl, pa, pb, px, py, ph⟩ := hright_of hb
      have c1 := con_liftF k hk' g.a hg.a pa hw.a
      have c2 := con_liftF k hk' g.b hg.b pb hw.b
      have c3 := con_liftF k hk' g.x hg.x px hw.x
      have c4 := con_liftF k hk' g.y hg.y py hw.y
      have c5 := con_liftF k hk' g.h hg.h ph hw.h
      have d := con_hright _ (ok_liftG hk' hg hb)
      cases hb2 : hrightB (liftG k g)
      · refine (contract_of_vc (r := .agg true [.int .i64 0, .int .i64 0, .int .i64 0, .int .i64 0, .int .i64 0, .nils, .int .i64 0, .int .i64 0, .int .i64 0, .int .i64 0, .nils, .int .i64 0, .int .i64 0, .int .i64 0, .int .i64 0, .nils, .int .i64 0, .int .i64 0, .int .i64 0, .int .i64 0, .nils, .int .i64 0, .int .i64 0, .int .i64 0, .int .i64 0, .nils]) mixed Tryz.func72 tr72 ?_).weaken le_zH
        simp only [HT.v, liftG] at *
        repeat' first
          | simp (config := { maxSteps := 2000000 }) only [go_sem, reduceIte, reduceCtorEq, Nat.reduceAdd, Nat.reduceSub, Nat.reduceMul, Nat.reduceLT, Nat.reduceLeDiff, Nat.reduceEqDiff, Nat.reduceBEq, Nat.reduceGT, Int.reduceEq, Int.reduceNe, Int.reduceLT, Int.reduceLE, Int.reduceToNat, Int.reduceNeg, Int.reduceBEq, Int.reduceAdd, Int.reduceSub, Int.reduceGT, Int.reduceGE, Int.reduceBNe, hb, hk, hb2]
          | refine callK_of (hc) ?_
          | refine callK_of (c1) ?_
          | refine callK_of (c2) ?_
          | refine callK_of (c3) ?_
          | refine callK_of (c4) ?_
          | refine callK_of (c5) ?_
          | refine callK_of (d) ?_
          | rfl
      · refine contract_of_vc mixed Tryz.func72 tr72 ?_
        simp only [HT.v, liftG, Bool.and_self, if_true] at *
        repeat' first
          | simp (config := { maxSteps := 2000000 }) only [go_sem, reduceIte, reduceCtorEq, Nat.reduceAdd, Nat.reduceSub, Nat.reduceMul, Nat.reduceLT, Nat.reduceLeDiff, Nat.reduceEqDiff, Nat.reduceBEq, Nat.reduceGT, Int.reduceEq, Int.reduceNe, Int.reduceLT, Int.reduceLE, Int.reduceToNat, Int.reduceNeg, Int.reduceBEq, Int.reduceAdd, Int.reduceSub, Int.reduceGT, Int.reduceGE, Int.reduceBNe, hb, hk, hb2]
          | refine callK_of (hc) ?_
          | refine callK_of (c1) ?_
          | refine callK_of (c2) ?_
          | refine callK_of (c3) ?_
          | refine callK_of (c4) ?_
          | refine callK_of (c5) ?_
          | refine callK_of (d) ?_
          | rfl

set_option maxRecDepth 10000 in
set_option maxHeartbeats 4000000 in
theorem con_r23Lift (k : Int) (g : HT) (hg : g.ok) (hw : g.low) : Con 43 [.agg true g.v, .int .i64 k] (.agg true (liftHF k g).v) := by
  have hc := con_r23right g hg
  unfold liftHF
  cases hb : hrightB g
  · refine (contract_of_vc (r := .agg true [.int .i64 0, .int .i64 0, .int .i64 0, .int .i64 0, .int .i64 0, .nils, .int .i64 0, .int .i64 0, .int .i64 0, .int .i64 0, .nils, .int .i64 0, .int .i64 0, .int .i64 0, .int .i64 0, .nils, .int .i64 0, .int .i64 0, .int .i64 0, .int .i64 0, .nils, .int .i64 0, .int .i64 0, .int .i64 0, .int .i64 0, .nils]) mixed Tryz.func43 tr43 ?_).weaken le_zH
    unfold HT.v at *
    repeat' first
      | simp (config := { maxSteps := 2000000 }) only [go_sem, reduceIte, reduceCtorEq, Nat.reduceAdd, Nat.reduceSub, Nat.reduceMul, Nat.reduceLT, Nat.reduceLeDiff, Nat.reduceEqDiff, Nat.reduceBEq, Nat.reduceGT, Int.reduceEq, Int.reduceNe, Int.reduceLT, Int.reduceLE, Int.reduceToNat, Int.reduceNeg, Int.reduceBEq, Int.reduceAdd, Int.reduceSub, Int.reduceGT, Int.reduceGE, Int.reduceBNe, hb]
      | refine callK_of (hc) ?_
      | rfl
  · by_cases hk : k < 0
    · rw [show decide (0 ≤ k) = false by simp; omega]
      refine (contract_of_vc (r := .agg true [.int .i64 0, .int .i64 0, .int .i64 0, .int .i64 0, .int .i64 0, .nils, .int .i64 0, .int .i64 0, .int .i64 0, .int .i64 0, .nils, .int .i64 0, .int .i64 0, .int .i64 0, .int .i64 0, .nils, .int .i64 0, .int .i64 0, .int .i64 0, .int .i64 0, .nils, .int .i64 0, .int .i64 0, .int .i64 0, .int .i64 0, .nils]) mixed Tryz.func43 tr43 ?_).weaken le_zH
      unfold HT.v at *
      repeat' first
        | simp (config := { maxSteps := 2000000 }) only [go_sem, reduceIte, reduceCtorEq, Nat.reduceAdd, Nat.reduceSub, Nat.reduceMul, Nat.reduceLT, Nat.reduceLeDiff, Nat.reduceEqDiff, Nat.reduceBEq, Nat.reduceGT, Int.reduceEq, Int.reduceNe, Int.reduceLT, Int.reduceLE, Int.reduceToNat, Int.reduceNeg, Int.reduceBEq, Int.reduceAdd, Int.reduceSub, Int.reduceGT, Int.reduceGE, Int.reduceBNe, hb, hk]
        | refine callK_of (hc) ?_
        | rfl
    · have hk' : 0 ≤ k := by omega
      rw [show decide (0 ≤ k) = true by simp; omega]
      obtain ⟨hl, pa, pb, px, py, ph⟩ := hright_of hb
      have c1 := con_rliftF k hk' g.a hg.a pa hw.a
      have c2 := con_rliftF k hk' g.b hg.b pb hw.b
      have c3 := con_rliftF k hk' g.x hg.x px hw.x
      have c4 := con_rliftF k hk' g.y hg.y py hw.y
      have c5 := con_rliftF k hk' g.h hg.h ph hw.h
      have core : ∀ r0, ((¬ ((liftF k g.a).k ≠ 0 ∧ (liftF k g.b).k ≠ 0 ∧ (liftF k g.x).k ≠ 0 ∧ (liftF k g.y).k ≠ 0 ∧ (liftF k g.h).k ≠ 0)) → r0 = .agg true [.int .i64 0, .int .i64 0, .int .i64 0, .int .i64 0, .int .i64 0, .nils, .int .i64 0, .int .i64 0, .int .i64 0, .int .i64 0, .nils, .int .i64 0, .int .i64 0, .int .i64 0, .int .i64 0, .nils, .int .i64 0, .int .i64 0, .int .i64 0, .int .i64 0, .nils, .int .i64 0, .int .i64 0, .int .i64 0, .int .i64 0, .nils]) →
          (((liftF k g.a).k ≠ 0 ∧ (liftF k g.b).k ≠ 0 ∧ (liftF k g.x).k ≠ 0 ∧ (liftF k g.y).k ≠ 0 ∧ (liftF k g.h).k ≠ 0) → r0 = .agg true (liftG k g).v) → Con 43 [.agg true g.v, .int .i64 k] r0 := by
        intro r0 hn hs
        simp only [HT.v, liftG] at *
        generalize liftF k g.a = ua at *
        generalize liftF k g.b = ub at *
        generalize liftF k g.x = ux at *
        generalize liftF k g.y = uy at *
        generalize liftF k g.h = uh at *
        refine contract_of_vc mixed Tryz.func43 tr43 ?_
        simp only [go_sem, reduceIte, reduceCtorEq, Nat.reduceAdd, Nat.reduceSub, Nat.reduceMul, Nat.reduceLT, Nat.reduceLeDiff, Nat.reduceEqDiff, Nat.reduceBEq, Nat.reduceGT, Int.reduceEq, Int.reduceNe, Int.reduceLT, Int.reduceLE, Int.reduceToNat, Int.reduceNeg, Int.reduceBEq, Int.reduceAdd, Int.reduceSub, Int.reduceGT, Int.reduceGE, Int.reduceBNe, hb, hk]
        refine callK_of hc ?_
        simp only [go_sem, reduceIte, reduceCtorEq, Nat.reduceAdd, Nat.reduceSub, Nat.reduceMul, Nat.reduceLT, Nat.reduceLeDiff, Nat.reduceEqDiff, Nat.reduceBEq, Nat.reduceGT, Int.reduceEq, Int.reduceNe, Int.reduceLT, Int.reduceLE, Int.reduceToNat, Int.reduceNeg, Int.reduceBEq, Int.reduceAdd, Int.reduceSub, Int.reduceGT, Int.reduceGE, Int.reduceBNe, hb, hk]
        intros
        have hrow : ∀ x : Nat, x < 5 → ∃ t u, [tv g.a, tv g.b, tv g.x, tv g.y, tv g.h][x]?.getD [] = tv t ∧ [tv ua, tv ub, tv ux, tv uy, tv uh][x]?.getD [] = tv u ∧ [ua, ub, ux, uy, uh][x]?.getD zT = u ∧ Con 77 [.agg true (tv t), .int .i64 k, .int .i64 0] (.agg true (tv u)) := by
          intro x hx
          have : x = 0 ∨ x = 1 ∨ x = 2 ∨ x = 3 ∨ x = 4 := by omega
          rcases this with rfl | rfl | rfl | rfl | rfl
          · exact ⟨g.a, ua, rfl, rfl, rfl, c1⟩
          · exact ⟨g.b, ub, rfl, rfl, rfl, c2⟩
          · exact ⟨g.x, ux, rfl, rfl, rfl, c3⟩
          · exact ⟨g.y, uy, rfl, rfl, rfl, c4⟩
          · exact ⟨g.h, uh, rfl, rfl, rfl, c5⟩
        have hbad : ∀ x : Nat, x < 5 → ([ua, ub, ux, uy, uh][x]?.getD zT).k = 0 → ¬(ua.k ≠ 0 ∧ ub.k ≠ 0 ∧ ux.k ≠ 0 ∧ uy.k ≠ 0 ∧ uh.k ≠ 0) := by
          intro x hx h0 ⟨q1, q2, q3, q4, q5⟩
          have : x = 0 ∨ x = 1 ∨ x = 2 ∨ x = 3 ∨ x = 4 := by omega
          rcases this with rfl | rfl | rfl | rfl | rfl
          · exact q1 h0
          · exact q2 h0
          · exact q3 h0
          · exact q4 h0
          · exact q5 h0
        have hys : [tv ua, tv ub, tv ux, tv uy, tv uh].length = 5 := rfl
        have hrs : [tv g.a, tv g.b, tv g.x, tv g.y, tv g.h].length = 5 := rfl
        have hin : [[tv g.a, tv g.b, tv g.x, tv g.y, tv g.h]] = [[tv g.a, tv g.b, tv g.x, tv g.y, tv g.h]] := rfl
        generalize hR : [tv g.a, tv g.b, tv g.x, tv g.y, tv g.h] = rows at hrow hrs
        generalize hY : [tv ua, tv ub, tv ux, tv uy, tv uh] = ys at hrow hys
        generalize hU : [ua, ub, ux, uy, uh] = us at hrow hbad
        refine vc_forp (fun x => ⟨(.junk :: .int .i64 k :: .ref 0 0 0 0 :: .junk :: .ref 1 0 0 0 :: .osl 2 0 0 5 :: .osl 3 x 0 x :: .int .i64 x :: .junk :: .junk :: .junk :: .junk :: .junk :: .junk :: .junk :: .junk :: .junk :: .junk :: .junk :: .junk :: .junk :: .junk :: .junk :: .junk :: .junk :: .junk :: .junk :: .junk :: .junk :: .junk :: .junk :: .junk :: .junk :: .junk :: .junk :: .junk :: .junk :: .junk :: .junk :: .junk :: .junk :: .junk :: .junk :: .junk :: .junk :: .junk :: .junk :: .junk :: .junk :: .junk :: .junk :: .junk :: .junk :: .junk :: .junk :: .junk :: .junk :: .junk :: .junk :: .junk :: .junk :: .junk :: .junk :: .junk :: .junk :: .junk :: []),
            [⟨true, 26, [hv g.i g.a g.b g.x g.y g.h], 0, 0, true⟩, ⟨true, 26, [[.int .i64 0, .int .i64 0, .int .i64 0, .int .i64 0, .int .i64 0, .nils, .int .i64 0, .int .i64 0, .int .i64 0, .int .i64 0, .nils, .int .i64 0, .int .i64 0, .int .i64 0, .int .i64 0, .nils, .int .i64 0, .int .i64 0, .int .i64 0, .int .i64 0, .nils, .int .i64 0, .int .i64 0, .int .i64 0, .int .i64 0, .nils]], 0, 0, true⟩, ⟨false, 5, rows, 0, 0, true⟩, ⟨false, 5, ys.take x, x - 1, x, true⟩]⟩) 5 (fun x => (us[x]?.getD zT).k ≠ 0) (fun x hx hp => ?_) ?_
        · simp only [go_sem, reduceIte, reduceCtorEq, Nat.reduceAdd, Nat.reduceSub, Nat.reduceMul, Nat.reduceLT, Nat.reduceLeDiff, Nat.reduceEqDiff, Nat.reduceBEq, Nat.reduceGT, Int.reduceEq, Int.reduceNe, Int.reduceLT, Int.reduceLE, Int.reduceToNat, Int.reduceNeg, Int.reduceBEq, Int.reduceAdd, Int.reduceSub, Int.reduceGT, Int.reduceGE, Int.reduceBNe]
          intros
          refine ⟨fun h => ?_, fun h => ?_⟩
          · have hlt := of_decide_eq_true h
            have hlt' : x < 5 := by omega
            have e0 : (0 : Int) ≤ (x : Int) := by omega
            obtain ⟨t, u, r1, r2, r3, hcx⟩ := hrow x hlt'
            have bx := hbad x hlt'
            rw [r3] at bx
            have h5t := tv_len t
            have h5u := tv_len u
            have h0u := tv_0 (t := u)
            have e1 : (ys.take x).length = x := by simp; omega
            have e2 : (x + 1) * 56 ≤ 140737488355328 := by omega
            have e3 : x + 1 ≤ 140737488355328 := by omega
            have tn := take_next (l := ys) (d := []) (i := x) (by omega)
            rw [r2] at tn
            simp only [go_sem, reduceIte, reduceCtorEq, Nat.reduceAdd, Nat.reduceSub, Nat.reduceMul, Nat.reduceLT, Nat.reduceLeDiff, Nat.reduceEqDiff, Nat.reduceBEq, Nat.reduceGT, Int.reduceEq, Int.reduceNe, Int.reduceLT, Int.reduceLE, Int.reduceToNat, Int.reduceNeg, Int.reduceBEq, Int.reduceAdd, Int.reduceSub, Int.reduceGT, Int.reduceGE, Int.reduceBNe, hlt, hlt', e0, hrs, r1, h5t]
            refine callK_of hcx ?_
            simp only [r3]
            cases hk0 : (u.k == 0)
            · simp only [go_sem, reduceIte, reduceCtorEq, Nat.reduceAdd, Nat.reduceSub, Nat.reduceMul, Nat.reduceLT, Nat.reduceLeDiff, Nat.reduceEqDiff, Nat.reduceBEq, Nat.reduceGT, Int.reduceEq, Int.reduceNe, Int.reduceLT, Int.reduceLE, Int.reduceToNat, Int.reduceNeg, Int.reduceBEq, Int.reduceAdd, Int.reduceSub, Int.reduceGT, Int.reduceGE, Int.reduceBNe, h5u, h0u, hk0, e1, e2, e3, tn]
              refine ⟨hlt', by simpa using hk0, ?_⟩
              rw [w64 (n := (x : Int) + 1) (by unfold fit; omega)]
              exact wk_trunc 4 (by simp [slotsLe]) (by simp) (by simp [below]) (by simp)
            · simp only [go_sem, reduceIte, reduceCtorEq, Nat.reduceAdd, Nat.reduceSub, Nat.reduceMul, Nat.reduceLT, Nat.reduceLeDiff, Nat.reduceEqDiff, Nat.reduceBEq, Nat.reduceGT, Int.reduceEq, Int.reduceNe, Int.reduceLT, Int.reduceLE, Int.reduceToNat, Int.reduceNeg, Int.reduceBEq, Int.reduceAdd, Int.reduceSub, Int.reduceGT, Int.reduceGE, Int.reduceBNe, h5u, h0u, hk0]
              exact hn (bx (by simpa using hk0))
          · have hge := of_decide_eq_false h
            have hxe : x = 5 := by omega
            subst hxe
            subst hY
            have ht : List.take 5 [tv ua, tv ub, tv ux, tv uy, tv uh] = [tv ua, tv ub, tv ux, tv uy, tv uh] := rfl
            have hq : ua.k ≠ 0 ∧ ub.k ≠ 0 ∧ ux.k ≠ 0 ∧ uy.k ≠ 0 ∧ uh.k ≠ 0 := by
              subst hU
              exact ⟨hp 0 (by omega), hp 1 (by omega), hp 2 (by omega), hp 3 (by omega), hp 4 (by omega)⟩
            rw [hs hq]
            simp only [go_sem, reduceIte, reduceCtorEq, Nat.reduceAdd, Nat.reduceSub, Nat.reduceMul, Nat.reduceLT, Nat.reduceLeDiff, Nat.reduceEqDiff, Nat.reduceBEq, Nat.reduceGT, Int.reduceEq, Int.reduceNe, Int.reduceLT, Int.reduceLE, Int.reduceToNat, Int.reduceNeg, Int.reduceBEq, Int.reduceAdd, Int.reduceSub, Int.reduceGT, Int.reduceGE, Int.reduceBNe, h, ht]
        · exact .trans (.ghost _ 6 5 rfl) (wk_slots (by simp [slotsLe]))
      have hiff := liftG_right hk' hb
      cases hb2 : hrightB (liftG k g)
      · refine (core _ (fun _ => rfl) (fun h => ?_)).weaken le_zH
        rw [hiff.2 h] at hb2
        cases hb2
      · exact core _ (fun h => absurd (hiff.1 hb2) h) (fun _ => rfl)

end Go.Proofs.YtkldipbhenabfaaGreat.Abs

