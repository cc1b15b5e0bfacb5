/- The budget laws' wakes. -/
import Derived.Test.YtadmdmhocglkfaaBudY
set_option linter.unusedSimpArgs false
set_option linter.unusedVariables false
namespace Go.Proofs.Ytadmdmhocglkfaa.Bud
open Go Go.RowKit

theorem e_take2 : takeOk 4612811918334230528 0 2 = true := by kernel_rfl
theorem e_used2 : takeU 4612811918334230528 0 2 = 2 := by kernel_rfl
theorem e_take1 : takeOk 4612811918334230528 2 1 = false := by kernel_rfl
theorem e_used1 : takeU 4612811918334230528 2 1 = 2 := by kernel_rfl
theorem e_left2 : leftB 4612811918334230528 2 = 0 := by kernel_rfl
theorem e_zero : (FloatKind.f64.format.order 0 0 == some Ordering.eq) = true := by kernel_rfl
theorem e_w1 : within 0 9223372036854775808 = true := by kernel_rfl
theorem e_w2 : within 0 9221120237041090561 = false := by kernel_rfl
theorem e_w3 : within 4611686018427387904 9218868437227405312 = true := by kernel_rfl

set_option maxHeartbeats 400000 in
theorem copysign_any (w : World) :
    Calls Try.prog 83 #[.float .f64 0, .float .f64 13830554455654793216] w fun e w' => e = .returned (.float .f64 9223372036854775808) ∧ w' = w := by
  have h := frombits_run
  have g := tobits_run
  go_enter Try.func83, Try.ntmps83
  go_wp2
  go_outline
  go_ret
  exact ⟨rfl, rfl⟩
set_option maxHeartbeats 400000 in
theorem signbit_any (w : World) :
    Calls Try.prog 25 #[.float .f64 0] w fun e w' => e = .returned (.bool false) ∧ w' = w := by
  have g := tobits_run
  go_enter Try.func25, Try.ntmps25
  go_wp2
  go_outline
  go_ret
  exact ⟨rfl, rfl⟩

set_option maxHeartbeats 1000000 in
theorem wakes_any (w : World) : Calls Try.prog 22 #[] w fun e w' => e = .returned (.bool true) ∧ Below w.heap.size w w' := by
  have ez := e_zero
  go_enter Try.func22, Try.ntmps22
  go_wp2_with fail
  refine (new_has _ _).mono ?_
  rintro e w1 ⟨rfl, h1, b1, s1⟩
  have t2 := take_has h1 2
  rw [e_take2, e_used2] at t2
  go_wp2_with fail
  refine t2.mono ?_
  rintro e w2 ⟨rfl, h2, o2⟩
  have t3 := take_has h2 1
  rw [e_take1, e_used1] at t3
  go_wp2_with fail
  refine t3.mono ?_
  rintro e w3 ⟨rfl, h3, o3⟩
  go_wp2_with fail
  refine (used_has h3).mono ?_
  rintro e w4 ⟨rfl, h4, o4⟩
  have t5 := left_has h4
  rw [e_left2] at t5
  go_wp2_with fail
  refine t5.mono ?_
  rintro e w5 ⟨rfl, h5, o5⟩
  go_wp2_with fail
  refine (copysign_any _).mono ?_
  rintro e w6 ⟨rfl, rfl⟩
  have t7 := within_any 0 9223372036854775808
  rw [e_w1] at t7
  go_wp2_with fail
  refine (t7 _).mono ?_
  rintro e w6 ⟨rfl, rfl⟩
  go_wp2_with fail
  refine (nan_any _).mono ?_
  rintro e w6 ⟨rfl, rfl⟩
  have t8 := within_any 0 9221120237041090561
  rw [e_w2] at t8
  go_wp2_with fail
  refine (t8 _).mono ?_
  rintro e w6 ⟨rfl, rfl⟩
  go_wp2_with fail
  refine (inf_any _).mono ?_
  rintro e w6 ⟨rfl, rfl⟩
  have t9 := within_any 4611686018427387904 9218868437227405312
  rw [e_w3] at t9
  go_wp2_with fail
  refine (t9 _).mono ?_
  rintro e w6 ⟨rfl, rfl⟩
  go_wp2_with fail
  go_ret
  have q : w.heap.size ≤ w.heap.size := Nat.le_refl _
  exact ⟨rfl, (((b1.trans (o2.below q)).trans (o3.below q)).trans (o4.below q)).trans (o5.below q)⟩
end Go.Proofs.Ytadmdmhocglkfaa.Bud
