/- ConvPlain: the card, its variables tied to the program's text. -/
import Derived.Test.YtdpigpopcbjkmaaDoorCards
import Derived.Test.YtdpigpopcbjkmaaDoorTie
import Derived.Test.YtdpigpopcbjkmaaDoorNq
import Derived.Test.YtdpigpopcbjkmaaDoorArt
import Derived.Test.YtdpigpopcbjkmaaDoorLl
import Derived.ProofKit
import Derived.LaidMore
import Derived.Lay
import Derived.MakeChecks
import Derived.SevenTiedAt
set_option linter.unusedSimpArgs false
set_option linter.unusedVariables false
namespace Go.Proofs.YtdpigpopcbjkmaaDoor
open Go.ChangeShapes Go.WideShapes Go.ChangeAt Go.RowKit Abs

theorem convPlain_law (args : List SV) (hA : TyArgs Tryd.prog [24, 24, 25] args) : Contract Tryd.prog 4 args (.bool true) := by
  obtain ⟨x0, r0, rfl, hx0, g0⟩ := tyArgs_cons hA
  obtain ⟨x1, r1, rfl, hx1, g1⟩ := tyArgs_cons g0
  obtain ⟨x2, r2, rfl, hx2, g2⟩ := tyArgs_cons g1
  obtain rfl := tyArgs_nil g2
  obtain ⟨t, rfl, ht⟩ := arg_tm hx0
  obtain ⟨u, rfl, hu⟩ := arg_tm hx1
  obtain ⟨b, rfl⟩ := arg_float hx2
  exact con_convPlain t u ht hu b

set_option maxRecDepth 100000 in
theorem convPlain_lifted (os : Os) (started : os.Started) (H : Type) (enc : TypeId × Value → H) :
    ReturnsInHanded {} Tryd.checked os 4 .any (fun w args => (Rows.convPlainSpec.pre enc Tryd.prog Tryd.f4 Rows.convPlainRow.domain false w args ∧ laidMetH Tryd.prog Rows.convPlainRow.laid w) ∧ sizedMet enc Tryd.prog Tryd.f4 (OpenSpec.ofChange Rows.convPlainSpec) false w args) (Rows.convPlainSpec.post enc Tryd.prog Tryd.f4 false true false false) := by
  have hp : Tryd.f4.params.toList = [24, 24, 25] := by kernel_rfl
  refine law_lifted_and (C := Tryd.checked) (S := [25, 3, 24, 22]) (tb := 4) (X := fun w _ => laidMetH Tryd.prog Rows.convPlainRow.laid w) (fun _ _ _ hh h => h.of_heap hh) own started (by kernel_rfl) Tryd.func4 rfl
    (ChangeSpec.witness_shaped (enc := enc) (C := Tryd.checked) (os := os) (X := fun w _ => laidMetH Tryd.prog Rows.convPlainRow.laid w) false (World.laidAll Tryd.prog os Rows.convPlainRow.laid) #[.agg #[.int .i64 0, .int .i64 0, .int .i64 0, .int .i64 0, .slice none 0 0], .agg #[.int .i64 0, .int .i64 0, .int .i64 0, .int .i64 0, .slice none 0 0], .float .f64 0] 8 (World.laidAll_os _ _ _)
      (World.shaped_of_ZipB (by kernel_rfl) (by kernel_rfl)) (by kernel_rfl) (by kernel_rfl) (by kernel_rfl)
      (by rw [MakeChecks.laidMetH_plain _ _ _ (by kernel_rfl)]; exact laidMet_laidAll _ (by kernel_rfl) (by kernel_rfl)))
    (fun ds h => ?_) (by kernel_rfl) (by kernel_rfl) (by kernel_rfl) (fun t ht => ?_) laid (fun t ht => ?_) (fun args h => ?_)
  · have hn : Tryd.f4.params.size = 3 := by kernel_rfl
    match ds, h.trans hn with
    | [d0, d1, d2], _ => rfl
  · rw [hp] at ht
    revert t
    exact of_decide_eq_true (by kernel_rfl)
  · have hq : Tryd.f4.params.toList.all (fun t => Tryd.prog.readableRec t && decide (t < Tryd.prog.types.size)) = true := by kernel_rfl
    have := List.all_eq_true.1 hq t ht
    rw [Bool.and_eq_true] at this
    exact ⟨this.1, of_decide_eq_true this.2⟩
  · rw [show Tryd.checked.prog = Tryd.prog from rfl, hp] at h
    exact convPlain_law args h

/-- The row. -/
theorem convPlain_row_holds : Rows.ConvPlainSaid :=
  OpenClaim.holds_of_wide 4 Tryd.f4 rfl rfl rfl rfl rfl rfl rfl ⟨rfl, rfl, rfl, rfl, rfl⟩ rfl rfl rfl rfl rfl (by kernel_rfl) Tryd.func4 (by kernel_rfl)
    (of_decide_eq_true (by kernel_rfl)) (by unfold Func.isWrapper; first | (rw [if_pos (by decide +kernel)]; kernel_rfl) | (rw [if_neg (by decide +kernel)]; exact ⟨rfl, rfl⟩))
    (fun os started H enc _ => convPlain_lifted os started H enc)

/-- THE CARD. -/
theorem convPlain_holds : Rows.ConvPlainCardSaid :=
  Claim7.holds_tied_plain_at .later [] [.data, .data, .data] true (true, "ad87d7bcd1b996e6f876595ed34111e8f6a52ca2473d33a490076449fe6b9d07") true
    convPlain_row_holds (fun _ h => by cases h) (by kernel_rfl) (fun _ h => by cases h) convPlain_row_tie rfl ⟨rfl, rfl⟩ (by kernel_rfl) rfl
    (fun f fn hf hfn => by
      obtain rfl : f = 4 := Option.some.inj ((show Tryd.prog.funcNamed "tranship/transhiplaw19.ConvPlain" = some 4 by kernel_rfl).symm.trans hf) |>.symm
      obtain rfl : fn = Tryd.f4 := (Option.some.inj (Tryd.func4.symm.trans hfn)).symm
      exact ⟨by kernel_rfl, fun j t ht => by
        have hp : Tryd.f4.params.toList = [24, 24, 25] := by kernel_rfl
        have hm : t ∈ [24, 24, 25] := by rw [← hp]; simpa using Array.mem_of_getElem? ht
        have hall : ([24, 24, 25].all fun u => !Tryd.prog.wantsStandIn u) = true := by kernel_rfl
        exact (show Tryd.prog.wantsStandIn t = false by simpa using List.all_eq_true.1 hall t hm)⟩)
    (by kernel_rfl)
#print axioms convPlain_holds
end Go.Proofs.YtdpigpopcbjkmaaDoor
