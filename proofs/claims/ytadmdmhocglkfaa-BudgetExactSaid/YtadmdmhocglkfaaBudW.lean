/- The walks of the budget functions. -/
import Derived.Test.YtadmdmhocglkfaaProg
import Derived.Test.YtadmdmhocglkfaaBudP
import Derived.Test.YtadmdmhocglkfaaFlu
import Derived.WalkKit
import Derived.WalkSpells
import Derived.WalkLawsBesides
import Derived.Deep.QuietTactic
import Derived.BigQuiet
set_option linter.unusedSimpArgs false
set_option linter.unusedVariables false
namespace Go.Proofs.Ytadmdmhocglkfaa.Bud
open Go Go.RowKit

theorem frombits_run (n : Int) (w : World) : (callFunc 129 #[.int .u64 n]).run Try.prog w = .ok (.value (.float .f64 n.toNat)) w := by
  rw [run_callFunc_extern Try.func129 (by kernel_rfl) (by kernel_rfl) (by kernel_rfl) (e := Extern.MathFloatBits.float64frombits) (by kernel_rfl)]
  rfl
theorem tobits_run (n : Nat) (w : World) : (callFunc 79 #[.float .f64 n]).run Try.prog w = .ok (.value (.int .u64 n)) w := by
  rw [run_callFunc_extern Try.func79 (by kernel_rfl) (by kernel_rfl) (by kernel_rfl) (e := Extern.MathFloatBits.float64bits) (by kernel_rfl)]
  rfl

/-- What is left of a number, cut. -/
def truncB (m : Nat) : Nat := FloatKind.f64.encode ((FloatKind.f64.decode m).integral .zero)

theorem toI_num (n : Nat) (d : Ieee.Datum) (h : FloatKind.f64.decode n = d) (hd : d.isNaN = false) : Extern.MathFloor.toIntegral "math.archTrunc" .zero #[.float .f64 n] = pure (.float .f64 (FloatKind.f64.encode (d.integral .zero))) := by
  show Extern.MathFloor.toIntegral.match_1 (fun _ => Sem Value) (FloatKind.f64.decode n) _ _ = _
  rw [h]
  cases d with
  | nan s t => cases hd
  | number s m p => rfl
  | infinity s => rfl

theorem trunc_run (n : Nat) (h : Flt.nanB n = false) (w : World) : (callFunc 127 #[.float .f64 n]).run Try.prog w = .ok (.value (.float .f64 (truncB n))) w := by
  rw [run_callFunc_extern Try.func127 (by kernel_rfl) (by kernel_rfl) (by kernel_rfl) (e := Extern.MathFloor.toIntegral "math.archTrunc" .zero) (by kernel_rfl)]
  have h' : Flt.rung n ≤ 9218868437227405312 := by simpa [Flt.nanB] using h
  unfold truncB
  rcases Nat.lt_or_ge (Flt.rung n) 9218868437227405312 with h1 | h1
  · rw [toI_num n _ (Flt.read_number n h1) rfl, show FloatKind.f64.decode n = _ from Flt.read_number n h1]; rfl
  · rw [toI_num n _ (Flt.read_inf n (by omega)) rfl, show FloatKind.f64.decode n = _ from Flt.read_inf n (by omega)]; rfl

theorem trunc_run_nan (n : Nat) (h : Flt.nanB n = true) (w : World) : ∃ r k, (callFunc 127 #[.float .f64 n]).run Try.prog w = .ok (.value (.float .f64 r)) (w.drewN k) := by
  rw [run_callFunc_extern Try.func127 (by kernel_rfl) (by kernel_rfl) (by kernel_rfl) (e := Extern.MathFloor.toIntegral "math.archTrunc" .zero) (by kernel_rfl)]
  have h' : 9218868437227405312 < Flt.rung n := by simpa [Flt.nanB] using h
  show ∃ r k, Result.andThen (Sem.run Try.prog (Extern.MathFloor.toIntegral.match_1 (fun _ => Sem Value) (FloatKind.f64.decode n) _ _) w) _ = _
  rw [show FloatKind.f64.decode n = _ from Flt.read_nan n h']
  dsimp only
  split
  · exact ⟨n, 0, rfl⟩
  · simp only [Sem.run_bind, run_choose_drew]
    split
    · exact ⟨_, 0, rfl⟩
    · exact ⟨_, 1, rfl⟩

theorem trunc_nan (m : Nat) (h : Flt.nanB m = false) : Flt.nanB (truncB m) = false := by
  refine Flt.encode_nan _ ?_
  have h' : Flt.rung m ≤ 9218868437227405312 := by simpa [Flt.nanB] using h
  rcases Nat.lt_or_ge (Flt.rung m) 9218868437227405312 with h1 | h1
  · rw [show FloatKind.f64.decode m = _ from Flt.read_number m h1]; rfl
  · rw [show FloatKind.f64.decode m = _ from Flt.read_inf m (by omega)]; rfl

theorem nan_is (m : Nat) : nan m = Flt.nanB m := by
  unfold nan ord
  cases h : Flt.nanB m
  · rw [show FloatKind.f64.format.order m m = Flt.ord m m from rfl, Flt.ord_skey m m h h, Flt.cmp_eq rfl]; rfl
  · rw [show FloatKind.f64.format.order m m = Flt.ord m m from rfl, Flt.ord_nan_left m m h]; rfl

set_option maxHeartbeats 400000 in
theorem within_any (n : Int) (m : Nat) (w : World) :
    Calls Try.prog 23 #[.int .i64 n, .float .f64 m] w fun e w' => e = .returned (.bool (within n m)) ∧ w' = w := by
  go_enter Try.func23, Try.ntmps23
  go_wp2
  go_ret
  exact ⟨rfl, rfl⟩
set_option maxHeartbeats 400000 in
theorem rwithin_any (n : Int) (m : Nat) (w : World) :
    Calls Try.prog 24 #[.int .i64 n, .float .f64 m] w fun e w' => e = .returned (.bool (within n m)) ∧ w' = w := by
  go_enter Try.func24, Try.ntmps24
  go_wp2
  go_ret
  exact ⟨rfl, rfl⟩
set_option maxHeartbeats 400000 in
theorem isNaN_any (m : Nat) (w : World) :
    Calls Try.prog 80 #[.float .f64 m] w fun e w' => e = .returned (.bool (nan m)) ∧ w' = w := by
  go_enter Try.func80, Try.ntmps80
  go_wp2
  go_ret
  exact ⟨rfl, rfl⟩
set_option maxHeartbeats 400000 in
theorem isInf_any (m : Nat) (w : World) :
    Calls Try.prog 81 #[.float .f64 m, .int .i64 1] w fun e w' => e = .returned (.bool (isInf m)) ∧ w' = w := by
  go_enter Try.func81, Try.ntmps81
  go_wp2
  go_ret
  exact ⟨rfl, rfl⟩
set_option maxRecDepth 100000 in
set_option maxHeartbeats 400000 in
theorem trunc_any (m : Nat) (h : Flt.nanB m = false) (w : World) :
    Calls Try.prog 82 #[.float .f64 m] w fun e w' => e = .returned (.float .f64 (truncB m)) ∧ w' = w := by
  have h1 := trunc_run m h
  go_enter Try.func82, Try.ntmps82
  go_wp2
  go_ret
  exact ⟨rfl, rfl⟩
set_option maxHeartbeats 400000 in
theorem trunc_any_nan (m : Nat) (h : Flt.nanB m = true) (w : World) :
    ∃ r, Calls Try.prog 82 #[.float .f64 m] w fun e w' => e = .returned (.float .f64 r) ∧ ∃ k, w' = w.drewN k := by
  obtain ⟨F, h1⟩ : ∃ F : World → Nat × World, ∀ w, (callFunc 127 #[.float .f64 m]).run Try.prog w = .ok (.value (.float .f64 (F w).1)) (F w).2 ∧ ∃ k, (F w).2 = w.drewN k := by
    refine ⟨fun w => (Classical.choose (trunc_run_nan m h w), w.drewN (Classical.choose (Classical.choose_spec (trunc_run_nan m h w)))), fun w => ?_⟩
    exact ⟨Classical.choose_spec (Classical.choose_spec (trunc_run_nan m h w)), _, rfl⟩
  have h2 := fun w => (h1 w).1
  refine ⟨(F w).1, ?_⟩
  go_enter Try.func82, Try.ntmps82
  go_wp2
  go_ret
  exact ⟨rfl, (h1 w).2⟩
set_option maxHeartbeats 400000 in
theorem nan_any (w : World) :
    Calls Try.prog 84 #[] w fun e w' => e = .returned (.float .f64 9221120237041090561) ∧ w' = w := by
  have h := frombits_run 9221120237041090561
  go_enter Try.func84, Try.ntmps84
  go_wp2
  go_ret
  exact ⟨rfl, rfl⟩
set_option maxHeartbeats 400000 in
theorem inf_any (w : World) :
    Calls Try.prog 85 #[.int .i64 1] w fun e w' => e = .returned (.float .f64 9218868437227405312) ∧ w' = w := by
  have h := frombits_run 9218868437227405312
  go_enter Try.func85, Try.ntmps85
  go_wp2
  go_ret
  exact ⟨rfl, rfl⟩
set_option maxHeartbeats 400000 in
theorem bits_any (m : Nat) (w : World) :
    Calls Try.prog 19 #[.float .f64 m, .float .f64 m] w fun e w' => e = .returned (.bool true) ∧ w' = w := by
  have h := tobits_run m
  cases hn : nan m
  · have hn' : (FloatKind.f64.format.order m m != some Ordering.eq) = false := hn
    go_enter Try.func19, Try.ntmps19
    go_wp2
    go_ret
    exact ⟨rfl, rfl⟩
  · have hn' : (FloatKind.f64.format.order m m != some Ordering.eq) = true := hn
    go_enter Try.func19, Try.ntmps19
    go_wp2
    go_ret
    exact ⟨rfl, rfl⟩
set_option maxHeartbeats 400000 in
theorem new_any (m : Nat) (w : World) :
    Calls Try.prog 15 #[.float .f64 m] w fun e w' => e = .returned (.pointer (some ⟨w.heap.size, 0, none⟩)) ∧ w' = w.alloc (.cells #[.float .f64 m, .int .i64 0] 39) := by
  go_enter Try.func15, Try.ntmps15
  go_wp2
  go_ret
  exact ⟨rfl, rfl⟩
end Go.Proofs.Ytadmdmhocglkfaa.Bud
