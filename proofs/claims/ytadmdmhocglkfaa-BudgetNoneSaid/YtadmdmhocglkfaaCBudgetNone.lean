/- BudgetNone holds: for every input the law returns true, and each argument reads as it read; no condition. -/
import Derived.Test.YtadmdmhocglkfaaRows
import Derived.Test.YtadmdmhocglkfaaBudC
import Derived.ProofKit
set_option linter.unusedSimpArgs false
set_option linter.unusedVariables false
namespace Go.Proofs.Ytadmdmhocglkfaa
open Go.ChangeShapes Go.WideShapes Go.ChangeAt Go.RowKit Abs

theorem budgetNone_law (args : List SV) (hA : TyArgs Try.prog [3] args) : Contract Try.prog 6 args (.bool true) := by
  obtain ⟨x0, r0, rfl, hx0, g0⟩ := tyArgs_cons hA
  obtain rfl := tyArgs_nil g0
  obtain ⟨n, rfl, hn⟩ := arg_int hx0
  exact law_BudgetNone n hn

set_option maxRecDepth 100000 in
theorem budgetNone_lifted (os : Os) (started : os.Started) (H : Type) (enc : TypeId × Value → H) :
    ReturnsInHanded {} Try.checked os 6 .any (Rows.budgetNoneSpec.pre6 enc Try.prog Try.f6 Rows.budgetNoneRow.domain false) (Rows.budgetNoneSpec.post enc Try.prog Try.f6 false true false false) := by
  have hp : Try.f6.params.toList = [3] := by kernel_rfl
  refine law_lifted (C := Try.checked) (S := [3, 22, 23, 41]) (tb := 4) own started (by kernel_rfl) Try.func6 rfl
    (ChangeSpec.witness6 (enc := enc) (C := Try.checked) false ⟨#[], #[.int .i64 0], []⟩ 8 (by kernel_rfl) (by kernel_rfl) (by kernel_rfl) (by kernel_rfl))
    (fun ds h => ?_) (by kernel_rfl) (by kernel_rfl) (by kernel_rfl) (fun t ht => ?_) laid (fun t ht => ?_) (fun args h => ?_)
  · have hn : Try.f6.params.size = 1 := by kernel_rfl
    match ds, h.trans hn with
    | [d0], _ => rfl
  · rw [hp] at ht
    revert t
    exact of_decide_eq_true (by kernel_rfl)
  · have hq : Try.f6.params.toList.all (fun t => Try.prog.readableRec t && decide (t < Try.prog.types.size)) = true := by kernel_rfl
    have := List.all_eq_true.1 hq t ht
    rw [Bool.and_eq_true] at this
    exact ⟨this.1, of_decide_eq_true this.2⟩
  · rw [show Try.checked.prog = Try.prog from rfl, hp] at h
    exact budgetNone_law args h

/-- THE STATEMENT. -/
theorem budgetNone_holds : Rows.BudgetNoneSaid :=
  OpenClaim.holds_of_wide 6 Try.f6 rfl rfl rfl rfl rfl rfl rfl ⟨rfl, rfl, rfl, rfl, rfl⟩ rfl rfl rfl rfl rfl (by kernel_rfl) Try.func6 (by kernel_rfl)
    (of_decide_eq_true (by kernel_rfl)) (by unfold Func.isWrapper; first | (rw [if_pos (by decide +kernel)]; kernel_rfl) | (rw [if_neg (by decide +kernel)]; exact ⟨rfl, rfl⟩))
    (fun os started H enc _ => budgetNone_lifted os started H enc)
#print axioms budgetNone_holds
end Go.Proofs.Ytadmdmhocglkfaa
