/- The budget laws as contracts. -/
import Derived.Test.YtadmdmhocglkfaaBudN
import Derived.Test.YtadmdmhocglkfaaArg
set_option linter.unusedSimpArgs false
set_option linter.unusedVariables false
namespace Go.Proofs.Ytadmdmhocglkfaa.Abs
open Go Go.RowKit Go.Proofs.Ytadmdmhocglkfaa Bud

theorem law_BudgetNone (n : Int) (hn : fit n) : Contract Try.prog 6 [.int .i64 n] (.bool true) := by
  refine con_of_below fun m w vs _ hl hr => ?_
  match vs, hl with
  | [v], _ =>
    obtain rfl := rep_int (hr 0 v _ rfl rfl)
    exact none_any n hn.1 hn.2 w
theorem law_BudgetWithin (n k : Int) (most more : Nat) : Contract Try.prog 4 [.int .i64 n, .int .i64 k, .float .f64 most, .float .f64 more] (.bool true) := by
  refine con_of_below fun m w vs _ hl hr => ?_
  match vs, hl with
  | [v0, v1, v2, v3], _ =>
    obtain rfl := rep_int (hr 0 v0 _ rfl rfl)
    obtain rfl := rep_int (hr 1 v1 _ rfl rfl)
    obtain rfl := rep_float (hr 2 v2 _ rfl rfl)
    obtain rfl := rep_float (hr 3 v3 _ rfl rfl)
    exact budwithin_any n k most more w
theorem law_BudgetParts (most : Nat) (a b : Int) : Contract Try.prog 5 [.float .f64 most, .int .i64 a, .int .i64 b] (.bool true) := by
  refine con_of_below fun m w vs _ hl hr => ?_
  match vs, hl with
  | [v0, v1, v2], _ =>
    obtain rfl := rep_float (hr 0 v0 _ rfl rfl)
    obtain rfl := rep_int (hr 1 v1 _ rfl rfl)
    obtain rfl := rep_int (hr 2 v2 _ rfl rfl)
    by_cases h : a < 0 ∨ b < 0 ∨ 2305843009213693952 < a ∨ 2305843009213693952 < b
    · exact parts_out most a b h w
    · exact parts_in most a b (by omega) (by omega) (by omega) (by omega) w
end Go.Proofs.Ytadmdmhocglkfaa.Abs
