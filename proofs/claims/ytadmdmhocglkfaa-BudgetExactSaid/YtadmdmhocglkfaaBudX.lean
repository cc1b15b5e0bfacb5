/- The walks of a budget's methods. -/
import Derived.Test.YtadmdmhocglkfaaBudW
set_option linter.unusedSimpArgs false
set_option linter.unusedVariables false
namespace Go.Proofs.Ytadmdmhocglkfaa.Bud
open Go Go.RowKit

/-! ### Take -/
set_option maxHeartbeats 1000000 in
theorem take_neg (b : Nat) (u n : Int) (m : Nat) (w : World) (h0 : w.cell? ⟨b, 0, none⟩ = some (.float .f64 m)) (h1 : w.cell? ⟨b, 1, none⟩ = some (.int .i64 u)) (hn : n < 0) :
    Calls Try.prog 16 #[.pointer (some ⟨b, 0, none⟩), .int .i64 n] w fun e w' => e = .returned (.bool false) ∧ ∃ k, w' = w.drewN k := by
  go_enter Try.func16, Try.ntmps16
  go_wp2
  go_quiet (fail)
  go_wp2
  go_ret
  exact ⟨rfl, _, rfl⟩
set_option maxHeartbeats 1000000 in
theorem take_big (b : Nat) (u n : Int) (m : Nat) (w : World) (h0 : w.cell? ⟨b, 0, none⟩ = some (.float .f64 m)) (h1 : w.cell? ⟨b, 1, none⟩ = some (.int .i64 u)) (hn : decide (n < 0) = false) (hu : wrap64 (9223372036854775807 - u) < n) :
    Calls Try.prog 16 #[.pointer (some ⟨b, 0, none⟩), .int .i64 n] w fun e w' => e = .returned (.bool false) ∧ ∃ k, w' = w.drewN k := by
  go_enter Try.func16, Try.ntmps16
  go_wp2
  go_quiet (fail)
  go_wp2
  go_ret
  exact ⟨rfl, _, rfl⟩
set_option maxHeartbeats 1000000 in
theorem take_out (b : Nat) (u n : Int) (m : Nat) (w : World) (h0 : w.cell? ⟨b, 0, none⟩ = some (.float .f64 m)) (h1 : w.cell? ⟨b, 1, none⟩ = some (.int .i64 u)) (hn : decide (n < 0) = false) (hu : decide (wrap64 (9223372036854775807 - u) < n) = false)
   (hw : within (wrap64 (u + n)) m = false) :
    Calls Try.prog 16 #[.pointer (some ⟨b, 0, none⟩), .int .i64 n] w fun e w' => e = .returned (.bool false) ∧ ∃ k, w' = w.drewN k := by
  go_enter Try.func16, Try.ntmps16
  go_wp2
  go_quiet ((go_at_call 23; refine Calls.quiet_of_same (within_any _ _ _)))
  go_wp2
  go_ret
  exact ⟨rfl, _, rfl⟩
set_option maxHeartbeats 1000000 in
theorem take_in (b : Nat) (u n : Int) (m : Nat) (w : World) (h0 : w.cell? ⟨b, 0, none⟩ = some (.float .f64 m)) (h1 : w.cell? ⟨b, 1, none⟩ = some (.int .i64 u)) (hf : w.frozen? ⟨b, 1, none⟩ = false) (hn : decide (n < 0) = false) (hu : decide (wrap64 (9223372036854775807 - u) < n) = false)
   (hw : within (wrap64 (u + n)) m = true) :
    Calls Try.prog 16 #[.pointer (some ⟨b, 0, none⟩), .int .i64 n] w fun e w' => e = .returned (.bool true) ∧ ∃ k, w' = (w.drewN k).setCell ⟨b, 1, none⟩ (.int .i64 (wrap64 (u + n))) := by
  go_enter Try.func16, Try.ntmps16
  go_wp2
  go_quiet ((go_at_call 23; refine Calls.quiet_of_same (within_any _ _ _)))
  go_wp2
  go_ret
  exact ⟨rfl, _, rfl⟩
theorem take_nil (n : Int) (w : World) : Calls Try.prog 16 #[.pointer none, .int .i64 n] w fun e w' => e = .returned (.bool false) ∧ ∃ k, w' = w.drewN k := by
  go_enter Try.func16, Try.ntmps16
  go_wp2
  go_quiet (fail)
  go_wp2
  go_ret
  exact ⟨rfl, _, rfl⟩

/-! ### The page's -/
set_option maxHeartbeats 1000000 in
theorem rtake_neg (b : Nat) (u n : Int) (m : Nat) (w : World) (h0 : w.cell? ⟨b, 0, none⟩ = some (.float .f64 m)) (h1 : w.cell? ⟨b, 1, none⟩ = some (.int .i64 u)) (hn : n < 0) :
    Calls Try.prog 17 #[.pointer (some ⟨b, 0, none⟩), .int .i64 n] w fun e w' => e = .returned (.bool false) ∧ ∃ k, w' = w.drewN k := by
  go_enter Try.func17, Try.ntmps17
  go_wp2
  go_quiet (fail)
  go_wp2
  go_ret
  exact ⟨rfl, _, rfl⟩
set_option maxHeartbeats 1000000 in
theorem rtake_big (b : Nat) (u n : Int) (m : Nat) (w : World) (h0 : w.cell? ⟨b, 0, none⟩ = some (.float .f64 m)) (h1 : w.cell? ⟨b, 1, none⟩ = some (.int .i64 u)) (hn : decide (n < 0) = false) (hu : wrap64 (9223372036854775807 - u) < n) :
    Calls Try.prog 17 #[.pointer (some ⟨b, 0, none⟩), .int .i64 n] w fun e w' => e = .returned (.bool false) ∧ ∃ k, w' = w.drewN k := by
  go_enter Try.func17, Try.ntmps17
  go_wp2
  go_quiet (fail)
  go_wp2
  go_ret
  exact ⟨rfl, _, rfl⟩
set_option maxHeartbeats 1000000 in
theorem rtake_out (b : Nat) (u n : Int) (m : Nat) (w : World) (h0 : w.cell? ⟨b, 0, none⟩ = some (.float .f64 m)) (h1 : w.cell? ⟨b, 1, none⟩ = some (.int .i64 u)) (hn : decide (n < 0) = false) (hu : decide (wrap64 (9223372036854775807 - u) < n) = false)
   (hw : within (wrap64 (u + n)) m = false) :
    Calls Try.prog 17 #[.pointer (some ⟨b, 0, none⟩), .int .i64 n] w fun e w' => e = .returned (.bool false) ∧ ∃ k, w' = w.drewN k := by
  go_enter Try.func17, Try.ntmps17
  go_wp2
  go_quiet ((go_at_call 24; refine Calls.quiet_of_same (rwithin_any _ _ _)))
  go_wp2
  go_ret
  exact ⟨rfl, _, rfl⟩
set_option maxHeartbeats 1000000 in
theorem rtake_in (b : Nat) (u n : Int) (m : Nat) (w : World) (h0 : w.cell? ⟨b, 0, none⟩ = some (.float .f64 m)) (h1 : w.cell? ⟨b, 1, none⟩ = some (.int .i64 u)) (hf : w.frozen? ⟨b, 1, none⟩ = false) (hn : decide (n < 0) = false) (hu : decide (wrap64 (9223372036854775807 - u) < n) = false)
   (hw : within (wrap64 (u + n)) m = true) :
    Calls Try.prog 17 #[.pointer (some ⟨b, 0, none⟩), .int .i64 n] w fun e w' => e = .returned (.bool true) ∧ ∃ k, w' = (w.drewN k).setCell ⟨b, 1, none⟩ (.int .i64 (wrap64 (u + n))) := by
  go_enter Try.func17, Try.ntmps17
  go_wp2
  go_quiet ((go_at_call 24; refine Calls.quiet_of_same (rwithin_any _ _ _)))
  go_wp2
  go_ret
  exact ⟨rfl, _, rfl⟩

/-! ### Used, Left -/
theorem used_any (b : Nat) (u : Int) (w : World) (h1 : w.cell? ⟨b, 1, none⟩ = some (.int .i64 u)) :
    Calls Try.prog 18 #[.pointer (some ⟨b, 0, none⟩)] w fun e w' => e = .returned (.int .i64 u) ∧ ∃ k, w' = w.drewN k := by
  go_enter Try.func18, Try.ntmps18
  go_wp2
  go_ret
  exact ⟨rfl, 0, rfl⟩
theorem used_nil (w : World) :
    Calls Try.prog 18 #[.pointer none] w fun e w' => e = .returned (.int .i64 0) ∧ ∃ k, w' = w.drewN k := by
  go_enter Try.func18, Try.ntmps18
  go_wp2
  go_ret
  exact ⟨rfl, 0, rfl⟩

/-- What is left. -/
def leftB (m : Nat) (u : Int) : Nat := if nan m then 0 else if isInf m then m else if fge (floatOfInt .f64 u) (truncB m) then 0 else (floatBits .sub .f64 (truncB m) (floatOfInt .f64 u)).getD 0

theorem left_sub (m : Nat) (u : Int) (hn : nan m = false) (hf : fge (floatOfInt .f64 u) (truncB m) = false) : ∃ r, floatBits .sub .f64 (truncB m) (floatOfInt .f64 u) = some r := by
  refine Flt.sub_some _ _ (trunc_nan m (by rw [← nan_is]; exact hn)) (Flt.ofInt_nan u) (fun h => ?_)
  unfold fge at hf
  rw [show ord (floatOfInt .f64 u) (truncB m) = some .eq from h] at hf
  cases hf

theorem left_nil (w : World) : Calls Try.prog 20 #[.pointer none] w fun e w' => e = .returned (.float .f64 0) ∧ ∃ k, w' = w.drewN k := by
  go_enter Try.func20, Try.ntmps20
  go_wp2
  go_ret
  exact ⟨rfl, 0, rfl⟩

set_option maxHeartbeats 1000000 in
theorem left_any (b : Nat) (u : Int) (m : Nat) (w : World) (h0 : w.cell? ⟨b, 0, none⟩ = some (.float .f64 m)) (h1 : w.cell? ⟨b, 1, none⟩ = some (.int .i64 u)) :
    Calls Try.prog 20 #[.pointer (some ⟨b, 0, none⟩)] w fun e w' => e = .returned (.float .f64 (leftB m u)) ∧ ∃ k, w' = w.drewN k := by
  unfold leftB
  cases hn : nan m
  · have hn' : (FloatKind.f64.format.order m m != some Ordering.eq) = false := hn
    cases hi : isInf m
    · have hi' : (FloatKind.f64.format.order m 9218868437227405311 == some Ordering.gt) = false := hi
      have ht := trunc_any m (by rw [← nan_is]; exact hn)
      cases hf : fge (floatOfInt .f64 u) (truncB m)
      · obtain ⟨r, hr⟩ := left_sub m u hn hf
        have hs := fun (w : World) => run_float_arith (P := Try.prog) (w := w) .sub 22 .f64 _ _ _ hr
        rw [hr]
        simp only [Bool.false_eq_true, if_false, Option.getD_some]
        have hf' : (FloatKind.f64.format.order (floatOfInt FloatKind.f64 u) (truncB m) == some Ordering.gt || FloatKind.f64.format.order (floatOfInt FloatKind.f64 u) (truncB m) == some Ordering.eq) = false := hf
        go_enter Try.func20, Try.ntmps20
        go_wp2
        go_quiet ((go_at_call 82; refine Calls.quiet_of_same (ht _)))
        go_wp2
        go_ret
        exact ⟨rfl, _, rfl⟩
      · simp only [Bool.false_eq_true, if_false, if_true]
        have hf' : (FloatKind.f64.format.order (floatOfInt FloatKind.f64 u) (truncB m) == some Ordering.gt || FloatKind.f64.format.order (floatOfInt FloatKind.f64 u) (truncB m) == some Ordering.eq) = true := hf
        go_enter Try.func20, Try.ntmps20
        go_wp2
        go_quiet ((go_at_call 82; refine Calls.quiet_of_same (ht _)))
        go_wp2
        go_ret
        exact ⟨rfl, _, rfl⟩
    · have hi' : (FloatKind.f64.format.order m 9218868437227405311 == some Ordering.gt) = true := hi
      simp only [Bool.false_eq_true, if_false, if_true]
      go_enter Try.func20, Try.ntmps20
      go_wp2
      go_ret
      exact ⟨rfl, 0, rfl⟩
  · have hn' : (FloatKind.f64.format.order m m != some Ordering.eq) = true := hn
    simp only [if_true]
    go_enter Try.func20, Try.ntmps20
    go_wp2
    go_ret
    exact ⟨rfl, 0, rfl⟩
end Go.Proofs.Ytadmdmhocglkfaa.Bud
