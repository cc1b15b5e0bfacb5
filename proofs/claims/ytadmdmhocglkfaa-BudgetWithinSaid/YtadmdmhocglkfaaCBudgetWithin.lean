/- BudgetWithin holds: for every input the law returns true, and each argument reads as it read; no condition. -/
import Derived.Test.YtadmdmhocglkfaaRows
import Derived.Test.YtadmdmhocglkfaaBudC
import Derived.ProofKit
set_option linter.unusedSimpArgs false
set_option linter.unusedVariables false
namespace Go.Proofs.Ytadmdmhocglkfaa
open Go.ChangeShapes Go.WideShapes Go.ChangeAt Go.RowKit Abs

theorem budgetWithin_law (args : List SV) (hA : TyArgs Try.prog [3, 3, 22, 22] args) : Contract Try.prog 4 args (.bool true) := by
  obtain ⟨x0, r0, rfl, hx0, g0⟩ := tyArgs_cons hA
  obtain ⟨x1, r1, rfl, hx1, g1⟩ := tyArgs_cons g0
  obtain ⟨x2, r2, rfl, hx2, g2⟩ := tyArgs_cons g1
  obtain ⟨x3, r3, rfl, hx3, g3⟩ := tyArgs_cons g2
  obtain rfl := tyArgs_nil g3
  obtain ⟨n, rfl, hn⟩ := arg_int hx0
  obtain ⟨k, rfl, hk⟩ := arg_int hx1
  obtain ⟨most, rfl⟩ := arg_float hx2
  obtain ⟨more, rfl⟩ := arg_float hx3
  exact law_BudgetWithin n k most more

set_option maxRecDepth 100000 in
theorem budgetWithin_lifted (os : Os) (started : os.Started) (H : Type) (enc : TypeId × Value → H) :
    ReturnsInHanded {} Try.checked os 4 .any (Rows.budgetWithinSpec.pre6 enc Try.prog Try.f4 Rows.budgetWithinRow.domain false) (Rows.budgetWithinSpec.post enc Try.prog Try.f4 false true false false) := by
  have hp : Try.f4.params.toList = [3, 3, 22, 22] := by kernel_rfl
  refine law_lifted (C := Try.checked) (S := [3, 22, 23, 41]) (tb := 4) own started (by kernel_rfl) Try.func4 rfl
    (ChangeSpec.witness6 (enc := enc) (C := Try.checked) false ⟨#[], #[.int .i64 0, .int .i64 0, .float .f64 0, .float .f64 0], []⟩ 8 (by kernel_rfl) (by kernel_rfl) (by kernel_rfl) (by kernel_rfl))
    (fun ds h => ?_) (by kernel_rfl) (by kernel_rfl) (by kernel_rfl) (fun t ht => ?_) laid (fun t ht => ?_) (fun args h => ?_)
  · have hn : Try.f4.params.size = 4 := by kernel_rfl
    match ds, h.trans hn with
    | [d0, d1, d2, d3], _ => rfl
  · rw [hp] at ht
    revert t
    exact of_decide_eq_true (by kernel_rfl)
  · have hq : Try.f4.params.toList.all (fun t => Try.prog.readableRec t && decide (t < Try.prog.types.size)) = true := by kernel_rfl
    have := List.all_eq_true.1 hq t ht
    rw [Bool.and_eq_true] at this
    exact ⟨this.1, of_decide_eq_true this.2⟩
  · rw [show Try.checked.prog = Try.prog from rfl, hp] at h
    exact budgetWithin_law args h

/-- THE STATEMENT. -/
theorem budgetWithin_holds : Rows.BudgetWithinSaid :=
  OpenClaim.holds_of_wide 4 Try.f4 rfl rfl rfl rfl rfl rfl rfl ⟨rfl, rfl, rfl, rfl, rfl⟩ rfl rfl rfl rfl rfl (by kernel_rfl) Try.func4 (by kernel_rfl)
    (of_decide_eq_true (by kernel_rfl)) (by unfold Func.isWrapper; first | (rw [if_pos (by decide +kernel)]; kernel_rfl) | (rw [if_neg (by decide +kernel)]; exact ⟨rfl, rfl⟩))
    (fun os started H enc _ => budgetWithin_lifted os started H enc)
#print axioms budgetWithin_holds
end Go.Proofs.Ytadmdmhocglkfaa
