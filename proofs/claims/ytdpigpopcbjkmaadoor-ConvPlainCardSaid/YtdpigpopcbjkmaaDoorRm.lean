/- The doors: what conv.Same and quick call, by the kit's own walk. -/
import Derived.Test.YtdpigpopcbjkmaaDoorProg
import Derived.Test.YtdpigpopcbjkmaaDoorChecked
import Derived.WalkKit
import Derived.WalkLawsBesides
import Derived.Defers
import Derived.Recover
set_option linter.unusedSimpArgs false
set_option linter.unusedVariables false
namespace Go.Proofs.YtdpigpopcbjkmaaDoor.Nrm
open Go Go.RowKit

theorem two_of' (cap : Array Value) (h : cap.size = 2) : ∃ x y, cap = #[x, y] := by
  obtain ⟨l⟩ := cap
  match l, h with
  | [x, y], _ => exact ⟨x, y, rfl⟩

theorem idle_conv (cap : Array Value) (w : World) (h : cap.size = 2) : CallsD Tryd.prog 26 cap .returning w fun e u' w' => u' = .returning ∧ e = .returned (.tuple #[]) ∧ w' = w := by
  obtain ⟨x, y, rfl⟩ := two_of' cap h
  refine callsD_of_wpS Tryd.func26 rfl fun c₀ cs hu => ?_
  apply wpS_seq
  apply wpS_region
  simp [wpOpsS, go_sem, recoverD, hu, Tryd.ntmps26, Exit.thenS]
  apply wpS_seq
  apply wpS_region
  simp [wpOpsS, go_sem, recoverD, hu, Exit.thenS]
  refine wpS_cond (t := false) (by simp [Act.eval, Array.replicate]) ?_
  simp only [Bool.false_eq_true, if_false]
  refine wpS_of_wp (wp_skip ?_)
  cases c₀
  simp_all [bodyPostS, results, Tryd.results26]

theorem idle_quick (cap : Array Value) (w : World) (h : cap.size = 2) : CallsD Tryd.prog 61 cap .returning w fun e u' w' => u' = .returning ∧ e = .returned (.tuple #[]) ∧ w' = w := by
  obtain ⟨x, y, rfl⟩ := two_of' cap h
  refine callsD_of_wpS Tryd.func61 rfl fun c₀ cs hu => ?_
  apply wpS_seq
  apply wpS_region
  simp [wpOpsS, go_sem, recoverD, hu, Tryd.ntmps61, Exit.thenS]
  apply wpS_seq
  apply wpS_region
  simp [wpOpsS, go_sem, recoverD, hu, Exit.thenS]
  refine wpS_cond (t := false) (by simp [Act.eval, Array.replicate]) ?_
  simp only [Bool.false_eq_true, if_false]
  refine wpS_of_wp (wp_skip ?_)
  cases c₀
  simp_all [bodyPostS, results, Tryd.results61]

set_option maxRecDepth 100000 in
theorem limit_zero (w : World) : Calls Tryd.prog 19 #[.float .f64 0] w fun e w' => e = .returned (.int .i64 0) ∧ w' = w := by
  go_enter Tryd.func19, Tryd.ntmps19
  go_wp2
  all_goals
    go_ret
    exact ⟨rfl, rfl⟩
end Go.Proofs.YtdpigpopcbjkmaaDoor.Nrm
