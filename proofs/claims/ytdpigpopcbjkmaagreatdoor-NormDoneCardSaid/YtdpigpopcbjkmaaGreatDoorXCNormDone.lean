/- NormDone: the card, its variables tied to the program's text. -/
import Derived.Test.YtdpigpopcbjkmaaGreatDoorCards
import Derived.Test.YtdpigpopcbjkmaaGreatDoorTie
import Derived.Test.YtdpigpopcbjkmaaGreatDoorXLl
import Derived.ProofKit
import Derived.LaidMore
import Derived.Lay
import Derived.MakeChecks
import Derived.SevenTiedAt
set_option linter.unusedSimpArgs false
set_option linter.unusedVariables false
namespace Go.Proofs.YtdpigpopcbjkmaaGreatDoor
open Go.ChangeShapes Go.WideShapes Go.ChangeAt Go.RowKit Abs

theorem normDone_law (args : List SV) (hA : Sx Tryz.prog [24, 25] args) : Contract Tryz.prog 5 args (.bool true) := by
  obtain ⟨x0, r0, rfl, Wo, g0⟩ := Apa hA;obtain ⟨x1, r1, rfl, Pa, g1⟩ := Apa g0;obtain rfl := Bhh g1;obtain ⟨t0, rfl, Qk⟩ := Ag1 Wo;obtain ⟨b1, rfl⟩ := Aqh Pa;exact Aup Qk b1

set_option maxRecDepth 100000 in
theorem normDone_lifted (os : Os) (started : os.Started) (H : Type) (enc : TypeId × Value -> H) :
    ReturnsInHanded {} Tryz.checked os 5 .any (fun w args => (Rows.normDoneSpec.pre enc Tryz.prog Tryz.f5 Rows.normDoneRow.domain false w args /\ laidMetH Tryz.prog Rows.normDoneRow.laid w) /\ sizedMet enc Tryz.prog Tryz.f5 (OpenSpec.ofChange Rows.normDoneSpec) false w args) (Rows.normDoneSpec.post enc Tryz.prog Tryz.f5 false true false false) := by
  have hp : Tryz.f5.params.toList = [24, 25] := by kernel_rfl
  refine A6u (C := Tryz.checked) (S := [25, 3, 24, 22]) (tb := 4) (X := fun w _ => laidMetH Tryz.prog Rows.normDoneRow.laid w) (fun _ _ _ hh h => h.of_heap hh) own started (by kernel_rfl) Tryz.func5 rfl
    (ChangeSpec.witness_shaped (enc := enc) (C := Tryz.checked) (os := os) (X := fun w _ => laidMetH Tryz.prog Rows.normDoneRow.laid w) false (World.laidAll Tryz.prog os Rows.normDoneRow.laid) #[.agg #[.int .i64 0, .int .i64 0, .int .i64 0, .int .i64 0, .slice none 0 0], .float .f64 0] 8 (World.laidAll_os _ _ _)
      (World.shaped_of_ZipB (by kernel_rfl) (by kernel_rfl)) (by kernel_rfl) (by kernel_rfl) (by kernel_rfl)
      (by rw [MakeChecks.laidMetH_plain _ _ _ (by kernel_rfl)]; exact laidMet_laidAll _ (by kernel_rfl) (by kernel_rfl)))
    (fun ds h => ?_) (by kernel_rfl) (by kernel_rfl) (by kernel_rfl) (fun t ht => ?_) laid (fun t ht => ?_) (fun args h => ?_)
  · have hn : Tryz.f5.params.size = 2 := by kernel_rfl
    match ds, h.trans hn with
    | [d0, d1], _ => rfl
  · rw [hp] at ht
    revert t;exact of_decide_eq_true (by kernel_rfl)
  · have hq : Tryz.f5.params.toList.all (fun t => Tryz.prog.readableRec t && decide (t < Tryz.prog.types.size)) = true := by kernel_rfl
    have := List.all_eq_true.1 hq t ht;rw [Bool.and_eq_true] at this;exact ⟨this.1, of_decide_eq_true this.2⟩
  · rw [show Tryz.checked.prog = Tryz.prog from rfl, hp] at h
    exact normDone_law args h

/-- The row. -/
theorem normDone_row_holds : Rows.NormDoneSaid :=
  OpenClaim.holds_of_wide 5 Tryz.f5 rfl rfl rfl rfl rfl rfl rfl ⟨rfl, rfl, rfl, rfl, rfl⟩ rfl rfl rfl rfl rfl (by kernel_rfl) Tryz.func5 (by kernel_rfl)
    (of_decide_eq_true (by kernel_rfl)) (by unfold Func.isWrapper; first | (rw [if_pos (by decide +kernel)]; kernel_rfl) | (rw [if_neg (by decide +kernel)]; exact ⟨rfl, rfl⟩))
    (fun os started H enc _ => normDone_lifted os started H enc)

/-- THE CARD. -/
theorem normDone_holds : Rows.NormDoneCardSaid :=
  Claim7.holds_tied_plain_at .later [] [.data, .data, .data] true (true, "0aff3fcd6ed8f90a429ee624abfe0c5c5b0d0751f35272b2bb42415acb0ac5ce") true
    normDone_row_holds (fun _ h => by cases h) (by kernel_rfl) (fun _ h => by cases h) normDone_row_tie rfl ⟨rfl, rfl⟩ (by kernel_rfl) rfl
    (fun f fn hf Kc => by
      obtain rfl : f = 5 := Option.some.inj ((show Tryz.prog.funcNamed "tranship/transhiplaw18.NormDone" = some 5 by kernel_rfl).symm.trans hf) |>.symm
      obtain rfl : fn = Tryz.f5 := (Option.some.inj (Tryz.func5.symm.trans Kc)).symm;exact ⟨by kernel_rfl, fun j t ht => by
        have hp : Tryz.f5.params.toList = [24, 25] := by kernel_rfl
        have hm : t ∈ [24, 25] := by rw [<- hp]; simpa using Array.mem_of_getElem? ht
        have Lj : ([24, 25].all fun u => !Tryz.prog.wantsStandIn u) = true := by kernel_rfl
        exact (show Tryz.prog.wantsStandIn t = false by simpa using List.all_eq_true.1 Lj t hm)⟩)
    (by kernel_rfl)
#print axioms normDone_holds
end Go.Proofs.YtdpigpopcbjkmaaGreatDoor
