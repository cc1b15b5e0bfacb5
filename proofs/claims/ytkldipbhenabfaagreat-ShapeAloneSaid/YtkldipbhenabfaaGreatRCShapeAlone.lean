/- ShapeAlone holds: for every input the law returns true, and each argument reads as it read; no condition. -/
import Derived.Test.YtkldipbhenabfaaGreatRows
import Derived.Test.YtkldipbhenabfaaGreatRLg
import Derived.ProofKit
set_option linter.unusedSimpArgs false
set_option linter.unusedVariables false
namespace Go.Proofs.YtkldipbhenabfaaGreat
open Go.ChangeShapes Go.WideShapes Go.ChangeAt Go.RowKit Abs

theorem shapeAlone_law (args : List SV) (hA : TyArgs Tryz.prog [22, 3, 34, 34, 34] args) : Contract Tryz.prog 5 args (.bool true) := by
  obtain ⟨x0, r0, rfl, hx0, g0⟩ := tyArgs_cons hA
  obtain ⟨x1, r1, rfl, hx1, g1⟩ := tyArgs_cons g0
  obtain ⟨x2, r2, rfl, hx2, g2⟩ := tyArgs_cons g1
  obtain ⟨x3, r3, rfl, hx3, g3⟩ := tyArgs_cons g2
  obtain ⟨x4, r4, rfl, hx4, g4⟩ := tyArgs_cons g3
  obtain rfl := tyArgs_nil g4
  obtain ⟨c, rfl, hc⟩ := arg_ctx hx0
  obtain ⟨i, rfl, hi⟩ := arg_int hx1
  obtain ⟨t, rfl, ht⟩ := arg_tm hx2
  obtain ⟨a, rfl, ha⟩ := arg_tm hx3
  obtain ⟨b, rfl, hb⟩ := arg_tm hx4
  exact law_ShapeAlone c i t a b hc hi ht ha hb

set_option maxRecDepth 100000 in
theorem shapeAlone_lifted (os : Os) (started : os.Started) (H : Type) (enc : TypeId × Value → H) :
    ReturnsInHanded {} Tryz.checked os 5 .any (Rows.shapeAloneSpec.pre6 enc Tryz.prog Tryz.f5 Rows.shapeAloneRow.domain false) (Rows.shapeAloneSpec.post enc Tryz.prog Tryz.f5 false true false false) := by
  have hp : Tryz.f5.params.toList = [22, 3, 34, 34, 34] := by kernel_rfl
  refine law_lifted (C := Tryz.checked) (S := [3, 34, 24, 54, 22]) (tb := 4) own started (by kernel_rfl) Tryz.func5 rfl
    (ChangeSpec.witness6 (enc := enc) (C := Tryz.checked) false ⟨#[], #[.slice none 0 0, .int .i64 0, .agg #[.int .i64 0, .int .i64 0, .int .i64 0, .int .i64 0, .slice none 0 0], .agg #[.int .i64 0, .int .i64 0, .int .i64 0, .int .i64 0, .slice none 0 0], .agg #[.int .i64 0, .int .i64 0, .int .i64 0, .int .i64 0, .slice none 0 0]], []⟩ 8 (by kernel_rfl) (by kernel_rfl) (by kernel_rfl) (by kernel_rfl))
    (fun ds h => ?_) (by kernel_rfl) (by kernel_rfl) (by kernel_rfl) (fun t ht => ?_) laid (fun t ht => ?_) (fun args h => ?_)
  · have hn : Tryz.f5.params.size = 5 := by kernel_rfl
    match ds, h.trans hn with
    | [d0, d1, d2, d3, d4], _ => rfl
  · rw [hp] at ht
    revert t
    exact of_decide_eq_true (by kernel_rfl)
  · have hq : Tryz.f5.params.toList.all (fun t => Tryz.prog.readableRec t && decide (t < Tryz.prog.types.size)) = true := by kernel_rfl
    have := List.all_eq_true.1 hq t ht
    rw [Bool.and_eq_true] at this
    exact ⟨this.1, of_decide_eq_true this.2⟩
  · rw [show Tryz.checked.prog = Tryz.prog from rfl, hp] at h
    exact shapeAlone_law args h

theorem shapeAlone_holds : Rows.ShapeAloneSaid :=
  OpenClaim.holds_of_wide 5 Tryz.f5 rfl rfl rfl rfl rfl rfl rfl ⟨rfl, rfl, rfl, rfl, rfl⟩ rfl rfl rfl rfl rfl (by kernel_rfl) Tryz.func5 (by kernel_rfl)
    (of_decide_eq_true (by kernel_rfl)) (by unfold Func.isWrapper; first | (rw [if_pos (by decide +kernel)]; kernel_rfl) | (rw [if_neg (by decide +kernel)]; exact ⟨rfl, rfl⟩))
    (fun os started H enc _ => shapeAlone_lifted os started H enc)
#print axioms shapeAlone_holds
end Go.Proofs.YtkldipbhenabfaaGreat

