/- The readings of the laws' arguments: terms. -/
import Derived.Test.YtdpigpopcbjkmaaDoorArg
set_option linter.unusedSimpArgs false
set_option linter.unusedVariables false
namespace Go.Proofs.YtdpigpopcbjkmaaDoor.Abs
open Go Go.RowKit Go.Proofs.YtdpigpopcbjkmaaDoor

theorem tmT : TmT Tryd.prog 24 22 3 := ⟨by kernel_rfl, by kernel_rfl, by kernel_rfl, by kernel_rfl, by kernel_rfl⟩

theorem arg_tm {x : SV} (h : TyArg Tryd.prog 24 x) : ∃ t, x = .agg true (tv t) ∧ TOk t := by
  cases h with
  | agg svs _ h2 =>
    obtain ⟨t, ht, rfl⟩ := (ty_tm tmT h2).1 rfl
    exact ⟨t, rfl, ht⟩
  | one x h1 _ => have e : isAggT Tryd.prog 24 = some true := by kernel_rfl
                  rw [e] at h1; cases h1
end Go.Proofs.YtdpigpopcbjkmaaDoor.Abs
