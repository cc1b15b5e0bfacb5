/- CongEqs holds: for every input the law returns true, and each argument reads as it read; no condition. -/
import Derived.Test.YtadmdmhocglkfaaRows
import Derived.Test.YtadmdmhocglkfaaGd
import Derived.ProofKit
set_option linter.unusedSimpArgs false
set_option linter.unusedVariables false
namespace Go.Proofs.Ytadmdmhocglkfaa
open Go.ChangeShapes Go.WideShapes Go.ChangeAt Go.RowKit Abs

theorem congEqs_law (args : List SV) (hA : TyArgs Try.prog [3, 47, 47, 47, 49, 49] args) : Contract Try.prog 11 args (.bool true) := by
  obtain ⟨x0, r0, rfl, hx0, g0⟩ := tyArgs_cons hA
  obtain ⟨x1, r1, rfl, hx1, g1⟩ := tyArgs_cons g0
  obtain ⟨x2, r2, rfl, hx2, g2⟩ := tyArgs_cons g1
  obtain ⟨x3, r3, rfl, hx3, g3⟩ := tyArgs_cons g2
  obtain ⟨x4, r4, rfl, hx4, g4⟩ := tyArgs_cons g3
  obtain ⟨x5, r5, rfl, hx5, g5⟩ := tyArgs_cons g4
  obtain rfl := tyArgs_nil g5
  obtain ⟨i, rfl, hi⟩ := arg_int hx0
  obtain ⟨a, rfl, ha⟩ := arg_tm hx1
  obtain ⟨c, rfl, hc⟩ := arg_tm hx2
  obtain ⟨e, rfl, he⟩ := arg_tm hx3
  obtain ⟨r, rfl, hr⟩ := arg_het hx4
  obtain ⟨q, rfl, hq⟩ := arg_het hx5
  exact law_CongEqs i a c e r q hi ha hc he hr hq

set_option maxRecDepth 100000 in
theorem congEqs_lifted (os : Os) (started : os.Started) (H : Type) (enc : TypeId × Value → H) :
    ReturnsInHanded {} Try.checked os 11 .any (Rows.congEqsSpec.pre6 enc Try.prog Try.f11 Rows.congEqsRow.domain false) (Rows.congEqsSpec.post enc Try.prog Try.f11 false true false false) := by
  have hp : Try.f11.params.toList = [3, 47, 47, 47, 49, 49] := by kernel_rfl
  refine law_lifted (C := Try.checked) (S := [3, 47, 45, 49, 65]) (tb := 4) own started (by kernel_rfl) Try.func11 rfl
    (ChangeSpec.witness6 (enc := enc) (C := Try.checked) false ⟨#[], #[.int .i64 0, .agg #[.int .i64 0, .int .i64 0, .int .i64 0, .int .i64 0, .slice none 0 0], .agg #[.int .i64 0, .int .i64 0, .int .i64 0, .int .i64 0, .slice none 0 0], .agg #[.int .i64 0, .int .i64 0, .int .i64 0, .int .i64 0, .slice none 0 0], .agg #[.int .i64 0, .int .i64 0, .int .i64 0, .int .i64 0, .int .i64 0, .slice none 0 0, .int .i64 0, .int .i64 0, .int .i64 0, .int .i64 0, .slice none 0 0, .int .i64 0, .int .i64 0, .int .i64 0, .int .i64 0, .slice none 0 0, .int .i64 0, .int .i64 0, .int .i64 0, .int .i64 0, .slice none 0 0, .int .i64 0, .int .i64 0, .int .i64 0, .int .i64 0, .slice none 0 0], .agg #[.int .i64 0, .int .i64 0, .int .i64 0, .int .i64 0, .int .i64 0, .slice none 0 0, .int .i64 0, .int .i64 0, .int .i64 0, .int .i64 0, .slice none 0 0, .int .i64 0, .int .i64 0, .int .i64 0, .int .i64 0, .slice none 0 0, .int .i64 0, .int .i64 0, .int .i64 0, .int .i64 0, .slice none 0 0, .int .i64 0, .int .i64 0, .int .i64 0, .int .i64 0, .slice none 0 0]], []⟩ 8 (by kernel_rfl) (by kernel_rfl) (by kernel_rfl) (by kernel_rfl))
    (fun ds h => ?_) (by kernel_rfl) (by kernel_rfl) (by kernel_rfl) (fun t ht => ?_) laid (fun t ht => ?_) (fun args h => ?_)
  · have hn : Try.f11.params.size = 6 := by kernel_rfl
    match ds, h.trans hn with
    | [d0, d1, d2, d3, d4, d5], _ => rfl
  · rw [hp] at ht
    revert t
    exact of_decide_eq_true (by kernel_rfl)
  · have hq : Try.f11.params.toList.all (fun t => Try.prog.readableRec t && decide (t < Try.prog.types.size)) = true := by kernel_rfl
    have := List.all_eq_true.1 hq t ht
    rw [Bool.and_eq_true] at this
    exact ⟨this.1, of_decide_eq_true this.2⟩
  · rw [show Try.checked.prog = Try.prog from rfl, hp] at h
    exact congEqs_law args h

/-- THE STATEMENT. -/
theorem congEqs_holds : Rows.CongEqsSaid :=
  OpenClaim.holds_of_wide 11 Try.f11 rfl rfl rfl rfl rfl rfl rfl ⟨rfl, rfl, rfl, rfl, rfl⟩ rfl rfl rfl rfl rfl (by kernel_rfl) Try.func11 (by kernel_rfl)
    (of_decide_eq_true (by kernel_rfl)) (by unfold Func.isWrapper; first | (rw [if_pos (by decide +kernel)]; kernel_rfl) | (rw [if_neg (by decide +kernel)]; exact ⟨rfl, rfl⟩))
    (fun os started H enc _ => congEqs_lifted os started H enc)
#print axioms congEqs_holds
end Go.Proofs.Ytadmdmhocglkfaa
