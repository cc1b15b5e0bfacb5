/- ShapeHeads holds: for every input the law returns true, and each argument reads as it read; no condition. -/
import Derived.Test.YtkldipbhenabfaaGreatRows
import Derived.Test.YtkldipbhenabfaaGreatJm
import Derived.ProofKit
set_option linter.unusedSimpArgs false
set_option linter.unusedVariables false
namespace Go.Proofs.YtkldipbhenabfaaGreat
open Go.ChangeShapes Go.WideShapes Go.ChangeAt Go.RowKit Abs

theorem shapeHeads_law (args : List SV) (hA : TyArgs Tryz.prog [34] args) : Contract Tryz.prog 6 args (.bool true) := by
  obtain ⟨x0, r0, rfl, hx0, g0⟩ := tyArgs_cons hA
  obtain rfl := tyArgs_nil g0
  obtain ⟨t, rfl, ht⟩ := arg_tm hx0
  exact law_ShapeHeads t ht

set_option maxRecDepth 100000 in
theorem shapeHeads_lifted (os : Os) (started : os.Started) (H : Type) (enc : TypeId × Value → H) :
    ReturnsInHanded {} Tryz.checked os 6 .any (Rows.shapeHeadsSpec.pre6 enc Tryz.prog Tryz.f6 Rows.shapeHeadsRow.domain false) (Rows.shapeHeadsSpec.post enc Tryz.prog Tryz.f6 false true false false) := by
  have hp : Tryz.f6.params.toList = [34] := by kernel_rfl
  refine law_lifted (C := Tryz.checked) (S := [3, 34, 24]) (tb := 4) own started (by kernel_rfl) Tryz.func6 rfl
    (ChangeSpec.witness6 (enc := enc) (C := Tryz.checked) false ⟨#[], #[.agg #[.int .i64 0, .int .i64 0, .int .i64 0, .int .i64 0, .slice none 0 0]], []⟩ 8 (by kernel_rfl) (by kernel_rfl) (by kernel_rfl) (by kernel_rfl))
    (fun ds h => ?_) (by kernel_rfl) (by kernel_rfl) (by kernel_rfl) (fun t ht => ?_) laid (fun t ht => ?_) (fun args h => ?_)
  · have hn : Tryz.f6.params.size = 1 := by kernel_rfl
    match ds, h.trans hn with
    | [d0], _ => rfl
  · rw [hp] at ht
    revert t
    exact of_decide_eq_true (by kernel_rfl)
  · have hq : Tryz.f6.params.toList.all (fun t => Tryz.prog.readableRec t && decide (t < Tryz.prog.types.size)) = true := by kernel_rfl
    have := List.all_eq_true.1 hq t ht
    rw [Bool.and_eq_true] at this
    exact ⟨this.1, of_decide_eq_true this.2⟩
  · rw [show Tryz.checked.prog = Tryz.prog from rfl, hp] at h
    exact shapeHeads_law args h

/-- THE STATEMENT. -/
theorem shapeHeads_holds : Rows.ShapeHeadsSaid :=
  OpenClaim.holds_of_wide 6 Tryz.f6 rfl rfl rfl rfl rfl rfl rfl ⟨rfl, rfl, rfl, rfl, rfl⟩ rfl rfl rfl rfl rfl (by kernel_rfl) Tryz.func6 (by kernel_rfl)
    (of_decide_eq_true (by kernel_rfl)) (by unfold Func.isWrapper; first | (rw [if_pos (by decide +kernel)]; kernel_rfl) | (rw [if_neg (by decide +kernel)]; exact ⟨rfl, rfl⟩))
    (fun os started H enc _ => shapeHeads_lifted os started H enc)
#print axioms shapeHeads_holds
end Go.Proofs.YtkldipbhenabfaaGreat
