/- ConvExact: the card, its variables tied to the program's text. -/
import Derived.Test.YtgdkddjdhijfnaaGreatDoorCards
import Derived.Test.YtgdkddjdhijfnaaGreatDoorTie
import Derived.Test.YtgdkddjdhijfnaaGreatDoorXLl
import Derived.Test.YtgdkddjdhijfnaaGreatDoorXAfK
import Derived.Test.YtgdkddjdhijfnaaGreatDoorXFg
import Derived.Test.YtgdkddjdhijfnaaGreatDoorXVc
import Derived.Test.YtgdkddjdhijfnaaGreatDoorXPc
import Derived.Test.YtgdkddjdhijfnaaGreatDoorXPq
import Derived.ProofKit
import Derived.LaidMore
import Derived.Lay
import Derived.MakeChecks
import Derived.SevenTiedAt
import Derived.Test.YtgdkddjdhijfnaaGreatDoorXZdz5
set_option linter.unusedSimpArgs false
set_option linter.unusedVariables false
namespace Go.Proofs.YtgdkddjdhijfnaaGreatDoor
open Go.ChangeShapes Go.WideShapes Go.ChangeAt Go.RowKit Abs

theorem convExact_law (args : List SV) (hA : Qm Tryz.prog [24, 24, 25] args) : Contract Tryz.prog 3 args (.bool true) := by
  obtain ⟨x0, r0, rfl, No, g0⟩ := Jv hA;obtain ⟨x1, r1, rfl, Jp, g1⟩ := Jv g0;obtain ⟨x2, r2, rfl, hx2, g2⟩ := Jv g1;obtain rfl := Acb g2;obtain ⟨t0, rfl, Kh⟩ := Pf No;obtain ⟨t1, rfl, Io⟩ := Pf Jp;obtain ⟨b2, rfl⟩ := Zf hx2;exact Aza Kh Io b2

set_option maxRecDepth 100000 in
theorem convExact_lifted (os : Os) (started : os.Started) (H : Type) (enc : TypeId × Value -> H) :
    ReturnsInHanded {} Tryz.checked os 3 .any (fun w args => (Rows.convExactSpec.pre enc Tryz.prog Tryz.f3 Rows.convExactRow.domain false w args /\ laidMetH Tryz.prog Rows.convExactRow.laid w) /\ sizedMet enc Tryz.prog Tryz.f3 (OpenSpec.ofChange Rows.convExactSpec) false w args) (Rows.convExactSpec.post enc Tryz.prog Tryz.f3 false true false false) := by
  have hp : Tryz.f3.params.toList = [24, 24, 25] := by kernel_rfl
  refine Abl (C := Tryz.checked) (S := [25, 3, 24, 22]) (tb := 4) (X := fun w _ => laidMetH Tryz.prog Rows.convExactRow.laid w) (fun _ _ _ hh h => h.of_heap hh) own started (by kernel_rfl) Tryz.func3 rfl
    (ChangeSpec.witness_shaped (enc := enc) (C := Tryz.checked) (os := os) (X := fun w _ => laidMetH Tryz.prog Rows.convExactRow.laid w) false (World.laidAll Tryz.prog os Rows.convExactRow.laid) #[.agg #[.int .i64 0, .int .i64 0, .int .i64 0, .int .i64 0, .slice none 0 0], .agg #[.int .i64 0, .int .i64 0, .int .i64 0, .int .i64 0, .slice none 0 0], .float .f64 0] 8 (World.laidAll_os _ _ _)
      (World.shaped_of_ZipB (by kernel_rfl) (by kernel_rfl)) (by kernel_rfl) (by kernel_rfl) (by kernel_rfl)
      (by rw [MakeChecks.laidMetH_plain _ _ _ (by kernel_rfl)]; exact laidMet_laidAll _ (by kernel_rfl) (by kernel_rfl)))
    (fun ds h => ?_) (by kernel_rfl) (by kernel_rfl) (by kernel_rfl) (fun t ht => ?_) laid (fun t ht => ?_) (fun args h => ?_)
  · have hn : Tryz.f3.params.size = 3 := by kernel_rfl
    match ds, h.trans hn with
    | [d0, d1, d2], _ => rfl
  · rw [hp] at ht
    revert t;exact of_decide_eq_true (by kernel_rfl)
  · have hq : Tryz.f3.params.toList.all (fun t => Tryz.prog.readableRec t && decide (t < Tryz.prog.types.size)) = true := by kernel_rfl
    have := List.all_eq_true.1 hq t ht;rw [Bool.and_eq_true] at this;exact ⟨this.1, of_decide_eq_true this.2⟩
  · rw [show Tryz.checked.prog = Tryz.prog from rfl, hp] at h
    exact convExact_law args h

/-- The row. -/
theorem convExact_row_holds : Rows.ConvExactSaid :=
  OpenClaim.holds_of_wide 3 Tryz.f3 rfl rfl rfl rfl rfl rfl rfl ⟨rfl, rfl, rfl, rfl, rfl⟩ rfl rfl rfl rfl rfl (by kernel_rfl) Tryz.func3 (by kernel_rfl)
    (of_decide_eq_true (by kernel_rfl)) (by unfold Func.isWrapper; first | (rw [if_pos (by decide +kernel)]; kernel_rfl) | (rw [if_neg (by decide +kernel)]; exact ⟨rfl, rfl⟩))
    (fun os started H enc _ => convExact_lifted os started H enc)

/-- THE CARD. -/
theorem convExact_holds : Rows.ConvExactCardSaid :=
  Claim7.holds_tied_plain_at .later [] [.data, .data, .data] true (true, "d21734b8bc6e99c594a5513cb6c7f1e98b23079ef6b4374bb44cc83c2fb91ceb") true
    convExact_row_holds (fun _ h => by cases h) (by kernel_rfl) (fun _ h => by cases h) convExact_row_tie rfl ⟨rfl, rfl⟩ (by kernel_rfl) rfl
    (fun f fn hf Hj => by
      obtain rfl : f = 3 := Option.some.inj ((show Tryz.prog.funcNamed "tranship/transhiplaw19.ConvExact" = some 3 by kernel_rfl).symm.trans hf) |>.symm
      obtain rfl : fn = Tryz.f3 := (Option.some.inj (Tryz.func3.symm.trans Hj)).symm;exact ⟨by kernel_rfl, fun j t ht => by
        have hp : Tryz.f3.params.toList = [24, 24, 25] := by kernel_rfl
        have hm : t ∈ [24, 24, 25] := by rw [<- hp]; simpa using Array.mem_of_getElem? ht
        have Cp : ([24, 24, 25].all fun u => !Tryz.prog.wantsStandIn u) = true := by kernel_rfl
        exact (show Tryz.prog.wantsStandIn t = false by simpa using List.all_eq_true.1 Cp t hm)⟩)
    (by kernel_rfl)
#print axioms convExact_holds
end Go.Proofs.YtgdkddjdhijfnaaGreatDoor
