/- HetMakes holds: for every input the law returns true, and each argument reads as it read; no condition. -/
import Derived.Test.YtadmdmhocglkfaaRows
import Derived.Test.YtadmdmhocglkfaaHf
import Derived.ProofKit
set_option linter.unusedSimpArgs false
set_option linter.unusedVariables false
namespace Go.Proofs.Ytadmdmhocglkfaa
open Go.ChangeShapes Go.WideShapes Go.ChangeAt Go.RowKit Abs

theorem hetMakes_law (args : List SV) (hA : TyArgs Try.prog [49, 3, 3] args) : Contract Try.prog 13 args (.bool true) := by
  obtain ⟨x0, r0, rfl, hx0, g0⟩ := tyArgs_cons hA
  obtain ⟨x1, r1, rfl, hx1, g1⟩ := tyArgs_cons g0
  obtain ⟨x2, r2, rfl, hx2, g2⟩ := tyArgs_cons g1
  obtain rfl := tyArgs_nil g2
  obtain ⟨h, rfl, hh⟩ := arg_het hx0
  obtain ⟨i, rfl, hi⟩ := arg_int hx1
  obtain ⟨k, rfl, hk⟩ := arg_int hx2
  exact law_HetMakes h i k hh

set_option maxRecDepth 100000 in
theorem hetMakes_lifted (os : Os) (started : os.Started) (H : Type) (enc : TypeId × Value → H) :
    ReturnsInHanded {} Try.checked os 13 .any (Rows.hetMakesSpec.pre6 enc Try.prog Try.f13 Rows.hetMakesRow.domain false) (Rows.hetMakesSpec.post enc Try.prog Try.f13 false true false false) := by
  have hp : Try.f13.params.toList = [49, 3, 3] := by kernel_rfl
  refine law_lifted (C := Try.checked) (S := [3, 47, 45, 49]) (tb := 4) own started (by kernel_rfl) Try.func13 rfl
    (ChangeSpec.witness6 (enc := enc) (C := Try.checked) false ⟨#[], #[.agg #[.int .i64 0, .int .i64 0, .int .i64 0, .int .i64 0, .int .i64 0, .slice none 0 0, .int .i64 0, .int .i64 0, .int .i64 0, .int .i64 0, .slice none 0 0, .int .i64 0, .int .i64 0, .int .i64 0, .int .i64 0, .slice none 0 0, .int .i64 0, .int .i64 0, .int .i64 0, .int .i64 0, .slice none 0 0, .int .i64 0, .int .i64 0, .int .i64 0, .int .i64 0, .slice none 0 0], .int .i64 0, .int .i64 0], []⟩ 8 (by kernel_rfl) (by kernel_rfl) (by kernel_rfl) (by kernel_rfl))
    (fun ds h => ?_) (by kernel_rfl) (by kernel_rfl) (by kernel_rfl) (fun t ht => ?_) laid (fun t ht => ?_) (fun args h => ?_)
  · have hn : Try.f13.params.size = 3 := by kernel_rfl
    match ds, h.trans hn with
    | [d0, d1, d2], _ => rfl
  · rw [hp] at ht
    revert t
    exact of_decide_eq_true (by kernel_rfl)
  · have hq : Try.f13.params.toList.all (fun t => Try.prog.readableRec t && decide (t < Try.prog.types.size)) = true := by kernel_rfl
    have := List.all_eq_true.1 hq t ht
    rw [Bool.and_eq_true] at this
    exact ⟨this.1, of_decide_eq_true this.2⟩
  · rw [show Try.checked.prog = Try.prog from rfl, hp] at h
    exact hetMakes_law args h

/-- THE STATEMENT. -/
theorem hetMakes_holds : Rows.HetMakesSaid :=
  OpenClaim.holds_of_wide 13 Try.f13 rfl rfl rfl rfl rfl rfl rfl ⟨rfl, rfl, rfl, rfl, rfl⟩ rfl rfl rfl rfl rfl (by kernel_rfl) Try.func13 (by kernel_rfl)
    (of_decide_eq_true (by kernel_rfl)) (by unfold Func.isWrapper; first | (rw [if_pos (by decide +kernel)]; kernel_rfl) | (rw [if_neg (by decide +kernel)]; exact ⟨rfl, rfl⟩))
    (fun os started H enc _ => hetMakes_lifted os started H enc)
#print axioms hetMakes_holds
end Go.Proofs.Ytadmdmhocglkfaa
