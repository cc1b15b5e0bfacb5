/- NormExact: the card, its variables tied to the program's text. -/
import Derived.Test.YtdpigpopcbjkmaaGreatDoorCards
import Derived.Test.YtdpigpopcbjkmaaGreatDoorTie
import Derived.Test.YtdpigpopcbjkmaaGreatDoorWLl
import Derived.ProofKit
import Derived.LaidMore
import Derived.Lay
import Derived.MakeChecks
import Derived.SevenTiedAt
set_option linter.unusedSimpArgs false
set_option linter.unusedVariables false
namespace Go.Proofs.YtdpigpopcbjkmaaGreatDoor
open Go.ChangeShapes Go.WideShapes Go.ChangeAt Go.RowKit Abs

theorem normExact_law (args : List SV) (hA : Td Tryz.prog [24, 25] args) : Contract Tryz.prog 3 args (.bool true) := by
  obtain ⟨x0, r0, rfl, Wa, g0⟩ := Ac7 hA
  obtain ⟨x1, r1, rfl, Ov, g1⟩ := Ac7 g0
  obtain rfl := Bb4 g1
  obtain ⟨t0, rfl, Pw⟩ := Ak1 Wa
  obtain ⟨b1, rfl⟩ := Aih Ov
  exact Bf0 Pw b1

set_option maxRecDepth 100000 in
theorem normExact_lifted (os : Os) (started : os.Started) (H : Type) (enc : TypeId × Value → H) :
    ReturnsInHanded {} Tryz.checked os 3 .any (fun w args => (Rows.normExactSpec.pre enc Tryz.prog Tryz.f3 Rows.normExactRow.domain false w args ∧ laidMetH Tryz.prog Rows.normExactRow.laid w) ∧ sizedMet enc Tryz.prog Tryz.f3 (OpenSpec.ofChange Rows.normExactSpec) false w args) (Rows.normExactSpec.post enc Tryz.prog Tryz.f3 false true false false) := by
  have hp : Tryz.f3.params.toList = [24, 25] := by kernel_rfl
  refine Asg (C := Tryz.checked) (S := [25, 3, 24, 22]) (tb := 4) (X := fun w _ => laidMetH Tryz.prog Rows.normExactRow.laid w) (fun _ _ _ hh h => h.of_heap hh) own started (by kernel_rfl) Tryz.func3 rfl
    (ChangeSpec.witness_shaped (enc := enc) (C := Tryz.checked) (os := os) (X := fun w _ => laidMetH Tryz.prog Rows.normExactRow.laid w) false (World.laidAll Tryz.prog os Rows.normExactRow.laid) #[.agg #[.int .i64 0, .int .i64 0, .int .i64 0, .int .i64 0, .slice none 0 0], .float .f64 0] 8 (World.laidAll_os _ _ _)
      (World.shaped_of_ZipB (by kernel_rfl) (by kernel_rfl)) (by kernel_rfl) (by kernel_rfl) (by kernel_rfl)
      (by rw [MakeChecks.laidMetH_plain _ _ _ (by kernel_rfl)]; exact laidMet_laidAll _ (by kernel_rfl) (by kernel_rfl)))
    (fun ds h => ?_) (by kernel_rfl) (by kernel_rfl) (by kernel_rfl) (fun t ht => ?_) laid (fun t ht => ?_) (fun args h => ?_)
  · have hn : Tryz.f3.params.size = 2 := by kernel_rfl
    match ds, h.trans hn with
    | [d0, d1], _ => rfl
  · rw [hp] at ht
    revert t
    exact of_decide_eq_true (by kernel_rfl)
  · have hq : Tryz.f3.params.toList.all (fun t => Tryz.prog.readableRec t && decide (t < Tryz.prog.types.size)) = true := by kernel_rfl
    have := List.all_eq_true.1 hq t ht
    rw [Bool.and_eq_true] at this
    exact ⟨this.1, of_decide_eq_true this.2⟩
  · rw [show Tryz.checked.prog = Tryz.prog from rfl, hp] at h
    exact normExact_law args h

/-- The row. -/
theorem normExact_row_holds : Rows.NormExactSaid :=
  OpenClaim.holds_of_wide 3 Tryz.f3 rfl rfl rfl rfl rfl rfl rfl ⟨rfl, rfl, rfl, rfl, rfl⟩ rfl rfl rfl rfl rfl (by kernel_rfl) Tryz.func3 (by kernel_rfl)
    (of_decide_eq_true (by kernel_rfl)) (by unfold Func.isWrapper; first | (rw [if_pos (by decide +kernel)]; kernel_rfl) | (rw [if_neg (by decide +kernel)]; exact ⟨rfl, rfl⟩))
    (fun os started H enc _ => normExact_lifted os started H enc)

/-- THE CARD. -/
theorem normExact_holds : Rows.NormExactCardSaid :=
  Claim7.holds_tied_plain_at .later [] [.data, .data, .data] true (true, "0aff3fcd6ed8f90a429ee624abfe0c5c5b0d0751f35272b2bb42415acb0ac5ce") true
    normExact_row_holds (fun _ h => by cases h) (by kernel_rfl) (fun _ h => by cases h) normExact_row_tie rfl ⟨rfl, rfl⟩ (by kernel_rfl) rfl
    (fun f fn hf Jt => by
      obtain rfl : f = 3 := Option.some.inj ((show Tryz.prog.funcNamed "tranship/transhiplaw18.NormExact" = some 3 by kernel_rfl).symm.trans hf) |>.symm
      obtain rfl : fn = Tryz.f3 := (Option.some.inj (Tryz.func3.symm.trans Jt)).symm
      exact ⟨by kernel_rfl, fun j t ht => by
        have hp : Tryz.f3.params.toList = [24, 25] := by kernel_rfl
        have hm : t ∈ [24, 25] := by rw [← hp]; simpa using Array.mem_of_getElem? ht
        have Ic : ([24, 25].all fun u => !Tryz.prog.wantsStandIn u) = true := by kernel_rfl
        exact (show Tryz.prog.wantsStandIn t = false by simpa using List.all_eq_true.1 Ic t hm)⟩)
    (by kernel_rfl)
#print axioms normExact_holds
end Go.Proofs.YtdpigpopcbjkmaaGreatDoor
