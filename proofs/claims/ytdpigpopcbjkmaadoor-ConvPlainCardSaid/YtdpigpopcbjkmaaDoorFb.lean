/- Weights, sameness, and the small functions on Hets. -/
import Derived.Test.YtdpigpopcbjkmaaDoorFa
set_option linter.unusedSimpArgs false
set_option linter.unusedVariables false
namespace Go.Proofs.YtdpigpopcbjkmaaDoor.Abs
open Go Go.RowKit Go.Proofs.YtdpigpopcbjkmaaDoor

theorem con_weigh (t : Tm) : TOk t → ∀ m d, ∃ z, Con 13 [.agg true (tv t), .int .i64 m, .int .i64 d] (.int .i64 z) := by
  induction t using Tm.ind with
  | h k i j n l ih =>
    intro hok m d
    cases hok with
    | mk _ _ _ _ _ f1 f2 f3 f4 hb hl =>
    rw [tv_mk]
    have H : ∀ r : List SV, ∀ m d : Int, ∃ z : Int, r ∈ l.map tv → Con 13 [.agg true r, .int .i64 m, .int .i64 d] (.int .i64 z) := by
      intro r m d
      by_cases hr : r ∈ l.map tv
      · obtain ⟨t, ht, rfl⟩ := List.mem_map.1 hr
        obtain ⟨z, hz⟩ := ih t ht (hl t ht) m d
        exact ⟨z, fun _ => hz⟩
      · exact ⟨0, fun h => absurd h hr⟩
    exact con_weigh_rows k i j n m d (l.map tv) (fun r m d => Classical.choose (H r m d)) (by simpa using hb) (fun r hr => by obtain ⟨t, _, rfl⟩ := List.mem_map.1 hr; exact tv_len t) (fun r hr m d => Classical.choose_spec (H r m d) hr)

def sums0 (W : List SV → Int → Int → Int) (rows : List (List SV)) (most deep : Int) : Nat → Int
  | 0 => 0
  | x + 1 => IntKind.i64.wrap (sums0 W rows most deep x + W (rows[x]?.getD []) (IntKind.i64.wrap (most - sums0 W rows most deep x)) deep)

end Go.Proofs.YtdpigpopcbjkmaaDoor.Abs
