/- Lift of a Het, by the program and by the page; the law HetMakes as a contract. -/
import Derived.Test.YtkldipbhenabfaaGreatRHe
set_option linter.unusedSimpArgs false
set_option linter.unusedVariables false
set_option linter.unusedSimpArgs false
set_option linter.unusedVariables false
namespace Go.Proofs.YtkldipbhenabfaaGreat.Abs
open Go Go.RowKit Go.Proofs.YtkldipbhenabfaaGreat

theorem liftF_ok {k : Int} (hk : 0 ≤ k) {t : Tm} (ht : plainT t = true) (ho : TOk t) : TOk (liftF k t) := by
  unfold liftF
  cases hu : liftT k 0 t with
  | none => exact tok_zT
  | some u => exact lift_ok k hk t ho 2 0 u ht hu
def liftG (k : Int) (g : HT) : HT := ⟨g.i, liftF k g.a, liftF k g.b, liftF k g.x, liftF k g.y, liftF k g.h⟩
def liftHF (k : Int) (g : HT) : HT := if hrightB g && decide (0 ≤ k) && hrightB (liftG k g) then liftG k g else zH
theorem ok_liftG {k : Int} {g : HT} (hk : 0 ≤ k) (hg : g.ok) (hr : hrightB g = true) : (liftG k g).ok := by
  obtain ⟨hl, pa, pb, px, py, ph⟩ := hright_of hr
  exact ⟨hg.i, liftF_ok hk pa hg.a, liftF_ok hk pb hg.b, liftF_ok hk px hg.x, liftF_ok hk py hg.y, liftF_ok hk ph hg.h⟩
structure HT.low (g : HT) : Prop where
  a : hgtT g.a ≤ 1000
  b : hgtT g.b ≤ 1000
  x : hgtT g.x ≤ 1000
  y : hgtT g.y ≤ 1000
  h : hgtT g.h ≤ 1000

set_option maxRecDepth 10000 in
set_option maxHeartbeats 4000000 in
theorem con_hLift (k : Int) (g : HT) (hg : g.ok) (hw : g.low) : Con 72 [.agg true g.v, .int .i64 k] (.agg true (liftHF k g).v) := by
  have hc := con_hright g hg
  unfold liftHF
  cases hb : hrightB g
  · refine (contract_of_vc (r := .agg true [.int .i64 0, .int .i64 0, .int .i64 0, .int .i64 0, .int .i64 0, .nils, .int .i64 0, .int .i64 0, .int .i64 0, .int .i64 0, .nils, .int .i64 0, .int .i64 0, .int .i64 0, .int .i64 0, .nils, .int .i64 0, .int .i64 0, .int .i64 0, .int .i64 0, .nils, .int .i64 0, .int .i64 0, .int .i64 0, .int .i64 0, .nils]) mixed Tryz.func72 tr72 ?_).weaken le_zH
    unfold HT.v at *
    repeat' first
      | simp (config := { maxSteps := 2000000 }) only [go_sem, reduceIte, reduceCtorEq, Nat.reduceAdd, Nat.reduceSub, Nat.reduceMul, Nat.reduceLT, Nat.reduceLeDiff, Nat.reduceEqDiff, Nat.reduceBEq, Nat.reduceGT, Int.reduceEq, Int.reduceNe, Int.reduceLT, Int.reduceLE, Int.reduceToNat, Int.reduceNeg, Int.reduceBEq, Int.reduceAdd, Int.reduceSub, Int.reduceGT, Int.reduceGE, Int.reduceBNe, hb]
      | refine callK_of (hc) ?_
      | rfl
  · by_cases hk : k < 0
    · rw [show decide (0 ≤ k) = false by simp; omega]
      refine (contract_of_vc (r := .agg true [.int .i64 0, .int .i64 0, .int .i64 0, .int .i64 0, .int .i64 0, .nils, .int .i64 0, .int .i64 0, .int .i64 0, .int .i64 0, .nils, .int .i64 0, .int .i64 0, .int .i64 0, .int .i64 0, .nils, .int .i64 0, .int .i64 0, .int .i64 0, .int .i64 0, .nils, .int .i64 0, .int .i64 0, .int .i64 0, .int .i64 0, .nils]) mixed Tryz.func72 tr72 ?_).weaken le_zH
      unfold HT.v at *
      repeat' first
        | simp (config := { maxSteps := 2000000 }) only [go_sem, reduceIte, reduceCtorEq, Nat.reduceAdd, Nat.reduceSub, Nat.reduceMul, Nat.reduceLT, Nat.reduceLeDiff, Nat.reduceEqDiff, Nat.reduceBEq, Nat.reduceGT, Int.reduceEq, Int.reduceNe, Int.reduceLT, Int.reduceLE, Int.reduceToNat, Int.reduceNeg, Int.reduceBEq, Int.reduceAdd, Int.reduceSub, Int.reduceGT, Int.reduceGE, Int.reduceBNe, hb, hk]
        | refine callK_of (hc) ?_
        | rfl
    · have hk' : 0 ≤ k := by omega
      rw [show decide (0 ≤ k) = true by simp; omega]
      obtain ⟨hl, pa, pb, px, py, ph⟩ := hright_of hb
      have c1 := con_liftF k hk' g.a hg.a pa hw.a
      have c2 := con_liftF k hk' g.b hg.b pb hw.b
      have c3 := con_liftF k hk' g.x hg.x px hw.x
      have c4 := con_liftF k hk' g.y hg.y py hw.y
      have c5 := con_liftF k hk' g.h hg.h ph hw.h
      have d := con_hright _ (ok_liftG hk' hg hb)
      cases hb2 : hrightB (liftG k g)
      · refine (contract_of_vc (r := .agg true [.int .i64 0, .int .i64 0, .int .i64 0, .int .i64 0, .int .i64 0, .nils, .int .i64 0, .int .i64 0, .int .i64 0, .int .i64 0, .nils, .int .i64 0, .int .i64 0, .int .i64 0, .int .i64 0, .nils, .int .i64 0, .int .i64 0, .int .i64 0, .int .i64 0, .nils, .int .i64 0, .int .i64 0, .int .i64 0, .int .i64 0, .nils]) mixed Tryz.func72 tr72 ?_).weaken le_zH
        simp only [HT.v, liftG] at *
        repeat' first
          | simp (config := { maxSteps := 2000000 }) only [go_sem, reduceIte, reduceCtorEq, Nat.reduceAdd, Nat.reduceSub, Nat.reduceMul, Nat.reduceLT, Nat.reduceLeDiff, Nat.reduceEqDiff, Nat.reduceBEq, Nat.reduceGT, Int.reduceEq, Int.reduceNe, Int.reduceLT, Int.reduceLE, Int.reduceToNat, Int.reduceNeg, Int.reduceBEq, Int.reduceAdd, Int.reduceSub, Int.reduceGT, Int.reduceGE, Int.reduceBNe, hb, hk, hb2]
          | refine callK_of (hc) ?_
          | refine callK_of (c1) ?_
          | refine callK_of (c2) ?_
          | refine callK_of (c3) ?_
          | refine callK_of (c4) ?_
          | refine callK_of (c5) ?_
          | refine callK_of (d) ?_
          | rfl
      · refine contract_of_vc mixed Tryz.func72 tr72 ?_
        simp only [HT.v, liftG, Bool.and_self, if_true] at *
        repeat' first
          | simp (config := { maxSteps := 2000000 }) only [go_sem, reduceIte, reduceCtorEq, Nat.reduceAdd, Nat.reduceSub, Nat.reduceMul, Nat.reduceLT, Nat.reduceLeDiff, Nat.reduceEqDiff, Nat.reduceBEq, Nat.reduceGT, Int.reduceEq, Int.reduceNe, Int.reduceLT, Int.reduceLE, Int.reduceToNat, Int.reduceNeg, Int.reduceBEq, Int.reduceAdd, Int.reduceSub, Int.reduceGT, Int.reduceGE, Int.reduceBNe, hb, hk, hb2]
          | refine callK_of (hc) ?_
          | refine callK_of (c1) ?_
          | refine callK_of (c2) ?_
          | refine callK_of (c3) ?_
          | refine callK_of (c4) ?_
          | refine callK_of (c5) ?_
          | refine callK_of (d) ?_
          | rfl

end Go.Proofs.YtkldipbhenabfaaGreat.Abs

