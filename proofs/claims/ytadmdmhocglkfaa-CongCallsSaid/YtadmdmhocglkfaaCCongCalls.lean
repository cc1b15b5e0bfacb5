/- CongCalls holds: for every input the law returns true, and each argument reads as it read; no condition. -/
import Derived.Test.YtadmdmhocglkfaaRows
import Derived.Test.YtadmdmhocglkfaaIg
import Derived.ProofKit
set_option linter.unusedSimpArgs false
set_option linter.unusedVariables false
namespace Go.Proofs.Ytadmdmhocglkfaa
open Go.ChangeShapes Go.WideShapes Go.ChangeAt Go.RowKit Abs

theorem congCalls_law (args : List SV) (hA : TyArgs Try.prog [65, 49, 49] args) : Contract Try.prog 14 args (.bool true) := by
  obtain ⟨x0, r0, rfl, hx0, g0⟩ := tyArgs_cons hA
  obtain ⟨x1, r1, rfl, hx1, g1⟩ := tyArgs_cons g0
  obtain ⟨x2, r2, rfl, hx2, g2⟩ := tyArgs_cons g1
  obtain rfl := tyArgs_nil g2
  obtain ⟨f, rfl, hf⟩ := arg_fam hx0
  obtain ⟨a, rfl, ha⟩ := arg_het hx1
  obtain ⟨b, rfl, hb⟩ := arg_het hx2
  exact law_CongCalls f a b hf ha hb

set_option maxRecDepth 100000 in
theorem congCalls_lifted (os : Os) (started : os.Started) (H : Type) (enc : TypeId × Value → H) :
    ReturnsInHanded {} Try.checked os 14 .any (Rows.congCallsSpec.pre6 enc Try.prog Try.f14 Rows.congCallsRow.domain false) (Rows.congCallsSpec.post enc Try.prog Try.f14 false true false false) := by
  have hp : Try.f14.params.toList = [65, 49, 49] := by kernel_rfl
  refine law_lifted (C := Try.checked) (S := [3, 47, 45, 49, 65]) (tb := 4) own started (by kernel_rfl) Try.func14 rfl
    (ChangeSpec.witness6 (enc := enc) (C := Try.checked) false ⟨#[], #[.agg #[.int .i64 0, .int .i64 0, .int .i64 0, .int .i64 0, .int .i64 0, .int .i64 0, .slice none 0 0, .int .i64 0, .int .i64 0, .int .i64 0, .int .i64 0, .slice none 0 0, .int .i64 0, .int .i64 0, .int .i64 0, .int .i64 0, .slice none 0 0, .int .i64 0, .int .i64 0, .int .i64 0, .int .i64 0, .slice none 0 0, .int .i64 0, .int .i64 0, .int .i64 0, .int .i64 0, .slice none 0 0, .int .i64 0, .int .i64 0, .int .i64 0, .int .i64 0, .slice none 0 0], .agg #[.int .i64 0, .int .i64 0, .int .i64 0, .int .i64 0, .int .i64 0, .slice none 0 0, .int .i64 0, .int .i64 0, .int .i64 0, .int .i64 0, .slice none 0 0, .int .i64 0, .int .i64 0, .int .i64 0, .int .i64 0, .slice none 0 0, .int .i64 0, .int .i64 0, .int .i64 0, .int .i64 0, .slice none 0 0, .int .i64 0, .int .i64 0, .int .i64 0, .int .i64 0, .slice none 0 0], .agg #[.int .i64 0, .int .i64 0, .int .i64 0, .int .i64 0, .int .i64 0, .slice none 0 0, .int .i64 0, .int .i64 0, .int .i64 0, .int .i64 0, .slice none 0 0, .int .i64 0, .int .i64 0, .int .i64 0, .int .i64 0, .slice none 0 0, .int .i64 0, .int .i64 0, .int .i64 0, .int .i64 0, .slice none 0 0, .int .i64 0, .int .i64 0, .int .i64 0, .int .i64 0, .slice none 0 0]], []⟩ 8 (by kernel_rfl) (by kernel_rfl) (by kernel_rfl) (by kernel_rfl))
    (fun ds h => ?_) (by kernel_rfl) (by kernel_rfl) (by kernel_rfl) (fun t ht => ?_) laid (fun t ht => ?_) (fun args h => ?_)
  · have hn : Try.f14.params.size = 3 := by kernel_rfl
    match ds, h.trans hn with
    | [d0, d1, d2], _ => rfl
  · rw [hp] at ht
    revert t
    exact of_decide_eq_true (by kernel_rfl)
  · have hq : Try.f14.params.toList.all (fun t => Try.prog.readableRec t && decide (t < Try.prog.types.size)) = true := by kernel_rfl
    have := List.all_eq_true.1 hq t ht
    rw [Bool.and_eq_true] at this
    exact ⟨this.1, of_decide_eq_true this.2⟩
  · rw [show Try.checked.prog = Try.prog from rfl, hp] at h
    exact congCalls_law args h

/-- THE STATEMENT. -/
theorem congCalls_holds : Rows.CongCallsSaid :=
  OpenClaim.holds_of_wide 14 Try.f14 rfl rfl rfl rfl rfl rfl rfl ⟨rfl, rfl, rfl, rfl, rfl⟩ rfl rfl rfl rfl rfl (by kernel_rfl) Try.func14 (by kernel_rfl)
    (of_decide_eq_true (by kernel_rfl)) (by unfold Func.isWrapper; first | (rw [if_pos (by decide +kernel)]; kernel_rfl) | (rw [if_neg (by decide +kernel)]; exact ⟨rfl, rfl⟩))
    (fun os started H enc _ => congCalls_lifted os started H enc)
#print axioms congCalls_holds
end Go.Proofs.Ytadmdmhocglkfaa
