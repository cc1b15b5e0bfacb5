/- What is left, by the page. -/
import Derived.Test.YtadmdmhocglkfaaBudN
import Derived.Deep.RegionWith
set_option linter.unusedSimpArgs false
set_option linter.unusedVariables false
namespace Go.Proofs.Ytadmdmhocglkfaa.Bud
open Go Go.RowKit

section
variable {w : World} {b m : Nat} {u : Int}

set_option maxHeartbeats 1000000 in
theorem rleft_any (b : Nat) (u : Int) (m : Nat) (w : World) (h0 : w.cell? ⟨b, 0, none⟩ = some (.float .f64 m)) (h1 : w.cell? ⟨b, 1, none⟩ = some (.int .i64 u)) :
    Calls Try.prog 21 #[.pointer (some ⟨b, 0, none⟩)] w fun e w' => e = .returned (.float .f64 (leftB m u)) ∧ ∃ k, w' = w.drewN k := by
  unfold leftB
  cases hi : isInf m
  · have hi' : (FloatKind.f64.format.order m 9218868437227405311 == some Ordering.gt) = false := hi
    cases hn : nan m
    · have hn' : (FloatKind.f64.format.order m m != some Ordering.eq) = false := hn
      have ht := trunc_any m (by rw [← nan_is]; exact hn)
      cases hf : fge (floatOfInt .f64 u) (truncB m)
      · obtain ⟨r, hr⟩ := left_sub m u hn hf
        have hs := fun (w : World) => run_float_arith (P := Try.prog) (w := w) .sub 22 .f64 _ _ _ hr
        rw [hr]
        simp only [Bool.false_eq_true, if_false, Option.getD_some]
        have hf' : (FloatKind.f64.format.order (floatOfInt FloatKind.f64 u) (truncB m) == some Ordering.gt || FloatKind.f64.format.order (floatOfInt FloatKind.f64 u) (truncB m) == some Ordering.eq) = false := hf
        go_enter Try.func21, Try.ntmps21
        go_wp2
        go_quiet ((go_at_call 82; refine Calls.quiet_of_same (ht _)))
        go_wp2
        go_quiet (fail)
        go_wp2
        go_ret
        exact ⟨rfl, _, by first | rfl | rw [World.drewN_drewN]⟩
      · simp only [Bool.false_eq_true, if_false, if_true]
        have hf' : (FloatKind.f64.format.order (floatOfInt FloatKind.f64 u) (truncB m) == some Ordering.gt || FloatKind.f64.format.order (floatOfInt FloatKind.f64 u) (truncB m) == some Ordering.eq) = true := hf
        go_enter Try.func21, Try.ntmps21
        go_wp2
        go_quiet ((go_at_call 82; refine Calls.quiet_of_same (ht _)))
        go_wp2
        go_quiet (fail)
        go_wp2
        go_ret
        exact ⟨rfl, _, by first | rfl | rw [World.drewN_drewN]⟩
    · have hn' : (FloatKind.f64.format.order m m != some Ordering.eq) = true := hn
      simp only [if_true]
      obtain ⟨F, h2⟩ : ∃ F : World → Nat, ∀ w, Calls Try.prog 82 #[.float .f64 m] w fun e w' => e = .returned (.float .f64 (F w)) ∧ ∃ k, w' = w.drewN k :=
        ⟨fun w => Classical.choose (trunc_any_nan m (by rw [← nan_is]; exact hn) w), fun w => Classical.choose_spec (trunc_any_nan m (by rw [← nan_is]; exact hn) w)⟩
      go_enter Try.func21, Try.ntmps21
      go_wp2
      go_region_with ((go_at_call 82; refine (h2 _).mono ?_; rintro e w' ⟨rfl, k, rfl⟩))
      all_goals
        go_wp2
        go_quiet (fail)
        go_wp2
        go_ret
        exact ⟨rfl, _, by first | rfl | rw [World.drewN_drewN]⟩
  · have hi' : (FloatKind.f64.format.order m 9218868437227405311 == some Ordering.gt) = true := hi
    have hn : nan m = false := by
      cases h : nan m
      · rfl
      · rw [nan_is] at h
        rw [show FloatKind.f64.format.order m 9218868437227405311 = Flt.ord m 9218868437227405311 from rfl, Flt.ord_nan_left m _ h] at hi'
        cases hi'
    rw [hn]
    simp only [Bool.false_eq_true, if_false, if_true]
    go_enter Try.func21, Try.ntmps21
    go_wp2
    go_ret
    exact ⟨rfl, 0, rfl⟩
theorem rleft_has (h : Has w b m u) : Calls Try.prog 21 #[.pointer (some ⟨b, 0, none⟩)] w fun e w' => e = .returned (.float .f64 (leftB m u)) ∧ Has w' b m u ∧ Oth b w w' := by
  refine (rleft_any b u m w h.c0 h.c1).mono ?_
  rintro e w' ⟨rfl, k, rfl⟩
  exact ⟨rfl, h.drew k, .drew k⟩
end
end Go.Proofs.Ytadmdmhocglkfaa.Bud
