/- RelPacks holds: for every input the law returns true, and each argument reads as it read; no condition. -/
import Derived.Test.YtkldipbhenabfaaGreatRows
import Derived.Test.YtkldipbhenabfaaGreatQKj
import Derived.ProofKit
set_option linter.unusedSimpArgs false
set_option linter.unusedVariables false
namespace Go.Proofs.YtkldipbhenabfaaGreat
open Go.ChangeShapes Go.WideShapes Go.ChangeAt Go.RowKit Abs

theorem relPacks_law (args : List SV) (hA : TyArgs Tryz.prog [22, 22] args) : Contract Tryz.prog 3 args (.bool true) := by
  obtain ⟨x0, r0, rfl, hx0, g0⟩ := tyArgs_cons hA
  obtain ⟨x1, r1, rfl, hx1, g1⟩ := tyArgs_cons g0
  obtain rfl := tyArgs_nil g1
  obtain ⟨c, rfl, hc⟩ := arg_ctx hx0
  obtain ⟨d, rfl, hd⟩ := arg_ctx hx1
  exact law_RelPacks c d hc hd

set_option maxRecDepth 100000 in
theorem relPacks_lifted (os : Os) (started : os.Started) (H : Type) (enc : TypeId × Value → H) :
    ReturnsInHanded {} Tryz.checked os 3 .any (Rows.relPacksSpec.pre6 enc Tryz.prog Tryz.f3 Rows.relPacksRow.domain false) (Rows.relPacksSpec.post enc Tryz.prog Tryz.f3 false true false false) := by
  have hp : Tryz.f3.params.toList = [22, 22] := by kernel_rfl
  refine law_lifted (C := Tryz.checked) (S := [3, 34, 24, 54, 22]) (tb := 4) own started (by kernel_rfl) Tryz.func3 rfl
    (ChangeSpec.witness6 (enc := enc) (C := Tryz.checked) false ⟨#[], #[.slice none 0 0, .slice none 0 0], []⟩ 8 (by kernel_rfl) (by kernel_rfl) (by kernel_rfl) (by kernel_rfl))
    (fun ds h => ?_) (by kernel_rfl) (by kernel_rfl) (by kernel_rfl) (fun t ht => ?_) laid (fun t ht => ?_) (fun args h => ?_)
  · have hn : Tryz.f3.params.size = 2 := by kernel_rfl
    match ds, h.trans hn with
    | [d0, d1], _ => rfl
  · rw [hp] at ht
    revert t
    exact of_decide_eq_true (by kernel_rfl)
  · have hq : Tryz.f3.params.toList.all (fun t => Tryz.prog.readableRec t && decide (t < Tryz.prog.types.size)) = true := by kernel_rfl
    have := List.all_eq_true.1 hq t ht
    rw [Bool.and_eq_true] at this
    exact ⟨this.1, of_decide_eq_true this.2⟩
  · rw [show Tryz.checked.prog = Tryz.prog from rfl, hp] at h
    exact relPacks_law args h

/-- THE STATEMENT. -/
theorem relPacks_holds : Rows.RelPacksSaid :=
  OpenClaim.holds_of_wide 3 Tryz.f3 rfl rfl rfl rfl rfl rfl rfl ⟨rfl, rfl, rfl, rfl, rfl⟩ rfl rfl rfl rfl rfl (by kernel_rfl) Tryz.func3 (by kernel_rfl)
    (of_decide_eq_true (by kernel_rfl)) (by unfold Func.isWrapper; first | (rw [if_pos (by decide +kernel)]; kernel_rfl) | (rw [if_neg (by decide +kernel)]; exact ⟨rfl, rfl⟩))
    (fun os started H enc _ => relPacks_lifted os started H enc)
#print axioms relPacks_holds
end Go.Proofs.YtkldipbhenabfaaGreat

