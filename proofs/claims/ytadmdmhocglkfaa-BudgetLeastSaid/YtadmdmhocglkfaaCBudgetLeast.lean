/- BudgetLeast holds: for every input the law returns true, and each argument reads as it read; no condition. -/
import Derived.Test.YtadmdmhocglkfaaRows
import Derived.Test.YtadmdmhocglkfaaBudM
import Derived.ProofKit
set_option linter.unusedSimpArgs false
set_option linter.unusedVariables false
namespace Go.Proofs.Ytadmdmhocglkfaa
open Go.ChangeShapes Go.WideShapes Go.ChangeAt Go.RowKit Abs

theorem budgetLeast_law (args : List SV) (hA : TyArgs Try.prog [41, 3] args) : Contract Try.prog 7 args (.bool true) := by
  obtain ⟨x0, r0, rfl, hx0, g0⟩ := tyArgs_cons hA
  obtain ⟨x1, r1, rfl, hx1, g1⟩ := tyArgs_cons g0
  obtain rfl := tyArgs_nil g1
  obtain ⟨l, rfl⟩ := arg_floats hx0
  obtain ⟨n, rfl, hn⟩ := arg_int hx1
  exact law_BudgetLeast l n

set_option maxRecDepth 100000 in
theorem budgetLeast_lifted (os : Os) (started : os.Started) (H : Type) (enc : TypeId × Value → H) :
    ReturnsInHanded {} Try.checked os 7 .any (Rows.budgetLeastSpec.pre6 enc Try.prog Try.f7 Rows.budgetLeastRow.domain false) (Rows.budgetLeastSpec.post enc Try.prog Try.f7 false true false false) := by
  have hp : Try.f7.params.toList = [41, 3] := by kernel_rfl
  refine law_lifted (C := Try.checked) (S := [3, 22, 23, 41]) (tb := 4) own started (by kernel_rfl) Try.func7 rfl
    (ChangeSpec.witness6 (enc := enc) (C := Try.checked) false ⟨#[], #[.slice none 0 0, .int .i64 0], []⟩ 8 (by kernel_rfl) (by kernel_rfl) (by kernel_rfl) (by kernel_rfl))
    (fun ds h => ?_) (by kernel_rfl) (by kernel_rfl) (by kernel_rfl) (fun t ht => ?_) laid (fun t ht => ?_) (fun args h => ?_)
  · have hn : Try.f7.params.size = 2 := by kernel_rfl
    match ds, h.trans hn with
    | [d0, d1], _ => rfl
  · rw [hp] at ht
    revert t
    exact of_decide_eq_true (by kernel_rfl)
  · have hq : Try.f7.params.toList.all (fun t => Try.prog.readableRec t && decide (t < Try.prog.types.size)) = true := by kernel_rfl
    have := List.all_eq_true.1 hq t ht
    rw [Bool.and_eq_true] at this
    exact ⟨this.1, of_decide_eq_true this.2⟩
  · rw [show Try.checked.prog = Try.prog from rfl, hp] at h
    exact budgetLeast_law args h

/-- THE STATEMENT. -/
theorem budgetLeast_holds : Rows.BudgetLeastSaid :=
  OpenClaim.holds_of_wide 7 Try.f7 rfl rfl rfl rfl rfl rfl rfl ⟨rfl, rfl, rfl, rfl, rfl⟩ rfl rfl rfl rfl rfl (by kernel_rfl) Try.func7 (by kernel_rfl)
    (of_decide_eq_true (by kernel_rfl)) (by unfold Func.isWrapper; first | (rw [if_pos (by decide +kernel)]; kernel_rfl) | (rw [if_neg (by decide +kernel)]; exact ⟨rfl, rfl⟩))
    (fun os started H enc _ => budgetLeast_lifted os started H enc)
#print axioms budgetLeast_holds
end Go.Proofs.Ytadmdmhocglkfaa
