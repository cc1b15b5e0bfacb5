/- ResultExact: the card, its variables tied to the program's text. -/
import Derived.Test.YtgfehkhcmnfpaaaGreatDoorCards
import Derived.Test.YtgfehkhcmnfpaaaGreatDoorTie
import Derived.Test.YtgfehkhcmnfpaaaGreatDoorVLl
import Derived.Test.YtgfehkhcmnfpaaaGreatDoorVArt
import Derived.ProofKit
import Derived.LaidMore
import Derived.Lay
import Derived.MakeChecks
import Derived.SevenTiedAt
set_option linter.unusedSimpArgs false
set_option linter.unusedVariables false
namespace Go.Proofs.YtgfehkhcmnfpaaaGreatDoor
open Go.ChangeShapes Go.WideShapes Go.ChangeAt Go.RowKit Abs

theorem resultExact_law (args : List SV) (hA : Si Tryz.prog [27] args) : Contract Tryz.prog 3 args (.bool true) := by
  obtain ⟨x0, r0, rfl, hx0, g0⟩ := A4m hA;obtain rfl := A4n g0;obtain ⟨y0, rfl, hy0⟩ := An6 hx0;exact Aqz y0 hy0

set_option maxRecDepth 100000 in
theorem resultExact_lifted (os : Os) (started : os.Started) (H : Type) (enc : TypeId × Value -> H) :
    ReturnsInHanded {} Tryz.checked os 3 .any (fun w args => (Rows.resultExactSpec.pre enc Tryz.prog Tryz.f3 Rows.resultExactRow.domain false w args /\ laidMetH Tryz.prog Rows.resultExactRow.laid w) /\ sizedMet enc Tryz.prog Tryz.f3 (OpenSpec.ofChange Rows.resultExactSpec) false w args) (Rows.resultExactSpec.post enc Tryz.prog Tryz.f3 false true false false) := by
  have hp : Tryz.f3.params.toList = [27] := by kernel_rfl
  refine Ax5 (C := Tryz.checked) (S := [4, 3, 25, 23, 59, 22, 27]) (tb := 4) (X := fun w _ => laidMetH Tryz.prog Rows.resultExactRow.laid w) (fun _ _ h => A3h h) (fun _ _ _ hh h => h.of_heap hh) own started (by kernel_rfl) Tryz.func3 rfl
    (ChangeSpec.witness_shaped (enc := enc) (C := Tryz.checked) (os := os) (X := fun w _ => laidMetH Tryz.prog Rows.resultExactRow.laid w) false (World.laidAll Tryz.prog os Rows.resultExactRow.laid) #[.agg #[.slice none 0 0, .bool false, .int .i64 0, .int .i64 0, .int .i64 0, .int .i64 0, .int .i64 0, .slice none 0 0, .int .i64 0, .int .i64 0, .int .i64 0, .int .i64 0, .slice none 0 0, .int .i64 0, .int .i64 0, .int .i64 0, .int .i64 0, .slice none 0 0, .int .i64 0, .int .i64 0, .int .i64 0, .int .i64 0, .slice none 0 0, .int .i64 0, .int .i64 0, .int .i64 0, .int .i64 0, .slice none 0 0]] 8 (World.laidAll_os _ _ _)
      (World.shaped_of_ZipB (by kernel_rfl) (by kernel_rfl)) (by kernel_rfl) (by kernel_rfl) (by kernel_rfl)
      (by rw [MakeChecks.laidMetH_plain _ _ _ (by kernel_rfl)]; exact laidMet_laidAll _ (by kernel_rfl) (by kernel_rfl)))
    (fun ds h => ?_) (by kernel_rfl) (by kernel_rfl) (by kernel_rfl) (fun t ht => ?_) laid (fun t ht => ?_) (fun args h => ?_)
  · have hn : Tryz.f3.params.size = 1 := by kernel_rfl
    match ds, h.trans hn with
    | [d0], _ => rfl
  · rw [hp] at ht
    revert t;exact of_decide_eq_true (by kernel_rfl)
  · have hq : Tryz.f3.params.toList.all (fun t => Tryz.prog.readableRec t && decide (t < Tryz.prog.types.size)) = true := by kernel_rfl
    have := List.all_eq_true.1 hq t ht;rw [Bool.and_eq_true] at this;exact ⟨this.1, of_decide_eq_true this.2⟩
  · rw [show Tryz.checked.prog = Tryz.prog from rfl, hp] at h
    exact resultExact_law args h

/-- The row. -/
theorem resultExact_row_holds : Rows.ResultExactSaid :=
  OpenClaim.holds_of_wide 3 Tryz.f3 rfl rfl rfl rfl rfl rfl rfl ⟨rfl, rfl, rfl, rfl, rfl⟩ rfl rfl rfl rfl rfl (by kernel_rfl) Tryz.func3 (by kernel_rfl)
    (of_decide_eq_true (by kernel_rfl)) (by unfold Func.isWrapper; first | (rw [if_pos (by decide +kernel)]; kernel_rfl) | (rw [if_neg (by decide +kernel)]; exact ⟨rfl, rfl⟩))
    (fun os started H enc _ => resultExact_lifted os started H enc)

/-- THE CARD. -/
theorem resultExact_holds : Rows.ResultExactCardSaid :=
  Claim7.holds_tied_plain_at .later [] [.data, .data, .data] true (true, "374e4a22d3d6ef76d9122116f6d8c9a76f83fdb1653cea722f2f9461629091e0") true
    resultExact_row_holds (fun _ h => by cases h) (by kernel_rfl) (fun _ h => by cases h) resultExact_row_tie rfl ⟨rfl, rfl⟩ (by kernel_rfl) rfl
    (fun f fn hf Km => by
      obtain rfl : f = 3 := Option.some.inj ((show Tryz.prog.funcNamed "tranship/transhiplaw28.ResultExact" = some 3 by kernel_rfl).symm.trans hf) |>.symm
      obtain rfl : fn = Tryz.f3 := (Option.some.inj (Tryz.func3.symm.trans Km)).symm;exact ⟨by kernel_rfl, fun j t ht => by
        have hp : Tryz.f3.params.toList = [27] := by kernel_rfl
        have hm : t ∈ [27] := by rw [<- hp]; simpa using Array.mem_of_getElem? ht
        have Fr : ([27].all fun u => !Tryz.prog.wantsStandIn u) = true := by kernel_rfl
        exact (show Tryz.prog.wantsStandIn t = false by simpa using List.all_eq_true.1 Fr t hm)⟩)
    (by kernel_rfl)
#print axioms resultExact_holds
end Go.Proofs.YtgfehkhcmnfpaaaGreatDoor
