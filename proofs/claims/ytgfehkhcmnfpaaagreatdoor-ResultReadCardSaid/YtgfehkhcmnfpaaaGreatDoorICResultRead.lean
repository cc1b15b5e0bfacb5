/- ResultRead: the card, its variables tied to the program's text. -/
import Derived.Test.YtgfehkhcmnfpaaaGreatDoorCards
import Derived.Test.YtgfehkhcmnfpaaaGreatDoorTie
import Derived.Test.YtgfehkhcmnfpaaaGreatDoorILl
import Derived.ProofKit
import Derived.LaidMore
import Derived.Lay
import Derived.MakeChecks
import Derived.SevenTiedAt
set_option linter.unusedSimpArgs false
set_option linter.unusedVariables false
namespace Go.Proofs.YtgfehkhcmnfpaaaGreatDoor
open Go.ChangeShapes Go.WideShapes Go.ChangeAt Go.RowKit Abs

theorem resultRead_law (args : List SV) (hA : Sw Tryz.prog [9] args) : Contract Tryz.prog 4 args (.bool true) := by
  obtain ⟨x0, r0, rfl, Wq, g0⟩ := A3g hA;obtain rfl := A3h g0;obtain ⟨s0, rfl⟩ := Anq Wq;exact Aqb s0

set_option maxRecDepth 100000 in
theorem resultRead_lifted (os : Os) (started : os.Started) (H : Type) (enc : TypeId × Value -> H) :
    ReturnsInHanded {} Tryz.checked os 4 .any (fun w args => (Rows.resultReadSpec.pre enc Tryz.prog Tryz.f4 Rows.resultReadRow.domain false w args /\ laidMetH Tryz.prog Rows.resultReadRow.laid w) /\ sizedMet enc Tryz.prog Tryz.f4 (OpenSpec.ofChange Rows.resultReadSpec) false w args) (Rows.resultReadSpec.post enc Tryz.prog Tryz.f4 false true false false) := by
  have hp : Tryz.f4.params.toList = [9] := by kernel_rfl
  refine Aw9 (C := Tryz.checked) (S := [9]) (tb := 4) (X := fun w _ => laidMetH Tryz.prog Rows.resultReadRow.laid w) (fun _ _ h => A2e h) (fun _ _ _ hh h => h.of_heap hh) own started (by kernel_rfl) Tryz.func4 rfl
    (ChangeSpec.witness_shaped (enc := enc) (C := Tryz.checked) (os := os) (X := fun w _ => laidMetH Tryz.prog Rows.resultReadRow.laid w) false (World.laidAll Tryz.prog os Rows.resultReadRow.laid) #[.string ⟨#[]⟩] 8 (World.laidAll_os _ _ _)
      (World.shaped_of_ZipB (by kernel_rfl) (by kernel_rfl)) (by kernel_rfl) (by kernel_rfl) (by kernel_rfl)
      (by rw [MakeChecks.laidMetH_plain _ _ _ (by kernel_rfl)]; exact laidMet_laidAll _ (by kernel_rfl) (by kernel_rfl)))
    (fun ds h => ?_) (by kernel_rfl) (by kernel_rfl) (by kernel_rfl) (fun t ht => ?_) laid (fun t ht => ?_) (fun args h => ?_)
  · have hn : Tryz.f4.params.size = 1 := by kernel_rfl
    match ds, h.trans hn with
    | [d0], _ => rfl
  · rw [hp] at ht
    revert t;exact of_decide_eq_true (by kernel_rfl)
  · have hq : Tryz.f4.params.toList.all (fun t => Tryz.prog.readableRec t && decide (t < Tryz.prog.types.size)) = true := by kernel_rfl
    have := List.all_eq_true.1 hq t ht;rw [Bool.and_eq_true] at this;exact ⟨this.1, of_decide_eq_true this.2⟩
  · rw [show Tryz.checked.prog = Tryz.prog from rfl, hp] at h
    exact resultRead_law args h

/-- The row. -/
theorem resultRead_row_holds : Rows.ResultReadSaid :=
  OpenClaim.holds_of_wide 4 Tryz.f4 rfl rfl rfl rfl rfl rfl rfl ⟨rfl, rfl, rfl, rfl, rfl⟩ rfl rfl rfl rfl rfl (by kernel_rfl) Tryz.func4 (by kernel_rfl)
    (of_decide_eq_true (by kernel_rfl)) (by unfold Func.isWrapper; first | (rw [if_pos (by decide +kernel)]; kernel_rfl) | (rw [if_neg (by decide +kernel)]; exact ⟨rfl, rfl⟩))
    (fun os started H enc _ => resultRead_lifted os started H enc)

/-- THE CARD. -/
theorem resultRead_holds : Rows.ResultReadCardSaid :=
  Claim7.holds_tied_plain_at .later [] [.data, .data, .data] true (true, "374e4a22d3d6ef76d9122116f6d8c9a76f83fdb1653cea722f2f9461629091e0") true
    resultRead_row_holds (fun _ h => by cases h) (by kernel_rfl) (fun _ h => by cases h) resultRead_row_tie rfl ⟨rfl, rfl⟩ (by kernel_rfl) rfl
    (fun f fn hf Kz => by
      obtain rfl : f = 4 := Option.some.inj ((show Tryz.prog.funcNamed "tranship/transhiplaw28.ResultRead" = some 4 by kernel_rfl).symm.trans hf) |>.symm
      obtain rfl : fn = Tryz.f4 := (Option.some.inj (Tryz.func4.symm.trans Kz)).symm;exact ⟨by kernel_rfl, fun j t ht => by
        have hp : Tryz.f4.params.toList = [9] := by kernel_rfl
        have hm : t ∈ [9] := by rw [<- hp]; simpa using Array.mem_of_getElem? ht
        have Gb : ([9].all fun u => !Tryz.prog.wantsStandIn u) = true := by kernel_rfl
        exact (show Tryz.prog.wantsStandIn t = false by simpa using List.all_eq_true.1 Gb t hm)⟩)
    (by kernel_rfl)
#print axioms resultRead_holds
end Go.Proofs.YtgfehkhcmnfpaaaGreatDoor
