/- term.numbers, whole. -/
import Derived.Test.YtdpigpopcbjkmaaDoorFe
set_option linter.unusedSimpArgs false
set_option linter.unusedVariables false
namespace Go.Proofs.YtdpigpopcbjkmaaDoor.Abs
open Go Go.RowKit Go.Proofs.YtdpigpopcbjkmaaDoor

theorem con_numbers (k i j n : Int) (rows : List (List SV)) : Con 49 [.agg true [.int .i64 k, .int .i64 i, .int .i64 j, .int .i64 n, .dsl 5 rows]] (.bool (numsB k i j n)) := by
  unfold numsB
  by_cases h1 : k = 1 ∨ k = 10 ∨ k = 11 ∨ k = 12
  · rw [if_pos h1]; exact con_nums1 k i j n rows h1
  · rw [if_neg h1]
    by_cases h2 : k = 2
    · subst h2; rw [if_pos rfl]; exact con_nums2 i j n rows
    · rw [if_neg h2]
      by_cases h3 : 3 ≤ k ∧ k ≤ 9
      · rw [if_pos h3]; exact con_nums3 k i j n rows (by omega)
      · rw [if_neg h3]
        by_cases h4 : k = 23
        · subst h4; rw [if_pos rfl]; exact con_nums23 i j n rows
        · rw [if_neg h4]; exact con_nums0 k i j n rows (by omega)
end Go.Proofs.YtdpigpopcbjkmaaDoor.Abs
