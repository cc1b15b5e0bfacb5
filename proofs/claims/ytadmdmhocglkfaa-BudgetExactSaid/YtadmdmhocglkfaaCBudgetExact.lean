/- BudgetExact holds: for every input the law returns true, and each argument reads as it read; no condition. -/
import Derived.Test.YtadmdmhocglkfaaRows
import Derived.Test.YtadmdmhocglkfaaBudG
import Derived.ProofKit
set_option linter.unusedSimpArgs false
set_option linter.unusedVariables false
namespace Go.Proofs.Ytadmdmhocglkfaa
open Go.ChangeShapes Go.WideShapes Go.ChangeAt Go.RowKit Abs

theorem budgetExact_law (args : List SV) (hA : TyArgs Try.prog [22, 23] args) : Contract Try.prog 3 args (.bool true) := by
  obtain ⟨x0, r0, rfl, hx0, g0⟩ := tyArgs_cons hA
  obtain ⟨x1, r1, rfl, hx1, g1⟩ := tyArgs_cons g0
  obtain rfl := tyArgs_nil g1
  obtain ⟨most, rfl⟩ := arg_float hx0
  obtain ⟨l, rfl, hl⟩ := arg_ints hx1
  exact law_BudgetExact most l hl

set_option maxRecDepth 100000 in
theorem budgetExact_lifted (os : Os) (started : os.Started) (H : Type) (enc : TypeId × Value → H) :
    ReturnsInHanded {} Try.checked os 3 .any (Rows.budgetExactSpec.pre6 enc Try.prog Try.f3 Rows.budgetExactRow.domain false) (Rows.budgetExactSpec.post enc Try.prog Try.f3 false true false false) := by
  have hp : Try.f3.params.toList = [22, 23] := by kernel_rfl
  refine law_lifted (C := Try.checked) (S := [3, 22, 23, 41]) (tb := 4) own started (by kernel_rfl) Try.func3 rfl
    (ChangeSpec.witness6 (enc := enc) (C := Try.checked) false ⟨#[], #[.float .f64 0, .slice none 0 0], []⟩ 8 (by kernel_rfl) (by kernel_rfl) (by kernel_rfl) (by kernel_rfl))
    (fun ds h => ?_) (by kernel_rfl) (by kernel_rfl) (by kernel_rfl) (fun t ht => ?_) laid (fun t ht => ?_) (fun args h => ?_)
  · have hn : Try.f3.params.size = 2 := by kernel_rfl
    match ds, h.trans hn with
    | [d0, d1], _ => rfl
  · rw [hp] at ht
    revert t
    exact of_decide_eq_true (by kernel_rfl)
  · have hq : Try.f3.params.toList.all (fun t => Try.prog.readableRec t && decide (t < Try.prog.types.size)) = true := by kernel_rfl
    have := List.all_eq_true.1 hq t ht
    rw [Bool.and_eq_true] at this
    exact ⟨this.1, of_decide_eq_true this.2⟩
  · rw [show Try.checked.prog = Try.prog from rfl, hp] at h
    exact budgetExact_law args h

/-- THE STATEMENT. -/
theorem budgetExact_holds : Rows.BudgetExactSaid :=
  OpenClaim.holds_of_wide 3 Try.f3 rfl rfl rfl rfl rfl rfl rfl ⟨rfl, rfl, rfl, rfl, rfl⟩ rfl rfl rfl rfl rfl (by kernel_rfl) Try.func3 (by kernel_rfl)
    (of_decide_eq_true (by kernel_rfl)) (by unfold Func.isWrapper; first | (rw [if_pos (by decide +kernel)]; kernel_rfl) | (rw [if_neg (by decide +kernel)]; exact ⟨rfl, rfl⟩))
    (fun os started H enc _ => budgetExact_lifted os started H enc)
#print axioms budgetExact_holds
end Go.Proofs.Ytadmdmhocglkfaa
