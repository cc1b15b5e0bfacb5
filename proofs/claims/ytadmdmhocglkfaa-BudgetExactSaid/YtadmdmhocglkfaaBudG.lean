/- The law BudgetExact, where nothing is taken; both as a contract. -/
import Derived.Test.YtadmdmhocglkfaaBudF
import Derived.Test.YtadmdmhocglkfaaArg
set_option linter.unusedSimpArgs false
set_option linter.unusedVariables false
namespace Go.Proofs.Ytadmdmhocglkfaa.Bud
open Go Go.RowKit

set_option maxRecDepth 100000 in
set_option maxHeartbeats 4000000 in
theorem exact_none (most : Nat) (A : Option Addr) (cap : Nat) (w : World) :
    Calls Try.prog 3 #[.float .f64 most, .slice A 0 cap] w fun e w' => e = .returned (.bool true) ∧ Below w.heap.size w w' := by
  generalize hB : w.heap.size = B at *
  go_enter Try.func3, Try.ntmps3
  go_wp2_with fail
  refine (new_has _ _).mono ?_
  rw [hB]
  rintro e w1 ⟨rfl, h1, b1, s1⟩
  go_wp2_with fail
  have h2 : Has (w1.alloc (.cells #[.float .f64 most, .int .i64 0] 28)) B most 0 := h1.below ((Below.refl w1.heap.size _).alloc (Nat.le_refl _) _) (by omega)
  have k2 : Has (w1.alloc (.cells #[.float .f64 most, .int .i64 0] 28)) (B + 1) most 0 := by
    rw [← s1]
    exact ⟨by go_simp, by go_simp, by go_simp⟩
  have b2 : Below B w (w1.alloc (.cells #[.float .f64 most, .int .i64 0] 28)) := b1.alloc (by omega) _
  generalize w1.alloc (.cells #[.float .f64 most, .int .i64 0] 28) = w2 at *
  go_loopw [7] (fun i wr => ∃ (k : Nat) (u : Int), k ≤ 0 ∧ i = .int .i64 k ∧ Has wr B most u ∧ Has wr (B + 1) most u ∧ Below B w wr)
    (fun i _ => 0 - (intOf i).toNat)
  case atStart => exact ⟨0, 0, Nat.zero_le _, rfl, h2, k2, b2⟩
  case round =>
    clear h1 b1 s1 h2 k2 b2
    obtain ⟨k, u, hk, rfl, ha, hr, hbw⟩ := hrel
    obtain rfl : k = 0 := by omega
    go_wp2_with fail
    have hii := bne_e u
    have hn3 := hr.c1
    go_region_with (first
      | (go_at_call 18
         refine (used_has (m := most) (by exact ⟨ha.c0, ha.c1, ha.fz⟩)).mono ?_
         rintro e wc ⟨rfl, ha4, oc⟩
         have hr4 : Has wc (B + 1) most u := Has.oth (by exact ⟨hr.c0, hr.c1, hr.fz⟩) oc (by omega)
         have hn4 := hr4.c1
         have q4 : Below B w wc := Below.trans (by exact ⟨hbw.os, hbw.tape, hbw.output, hbw.size, hbw.block⟩) (Oth.below oc (by omega)))
      | (go_at_call 20
         refine (left_has (m := most) (by exact ⟨ha4.c0, ha4.c1, ha4.fz⟩)).mono ?_
         rintro e wd ⟨rfl, ha5, od⟩
         have hr5 : Has wd (B + 1) most u := Has.oth (by exact ⟨hr4.c0, hr4.c1, hr4.fz⟩) od (by omega)
         have q5 : Below B w wd := Below.trans (by exact ⟨q4.os, q4.tape, q4.output, q4.size, q4.block⟩) (Oth.below od (by omega)))
      | (go_at_call 21
         refine (rleft_has (m := most) (by exact ⟨hr5.c0, hr5.c1, hr5.fz⟩)).mono ?_
         rintro e we ⟨rfl, hr6, oe⟩
         have q6 : Below B w we := Below.trans (by exact ⟨q5.os, q5.tape, q5.output, q5.size, q5.block⟩) (Oth.below oe (by omega)))
      | (go_at_call 19
         refine (bits_any _ _).mono ?_
         rintro e wf ⟨rfl, rfl⟩)
      | (go_at_call 22
         refine (wakes_any _).mono ?_
         rintro e wf ⟨rfl, b9⟩
         have q9 : Below B w wf := Below.trans (by exact ⟨q6.os, q6.tape, q6.output, q6.size, q6.block⟩) (b9.mono (by have q7 := q6.size; rw [hB] at q7; exact q7))))
    all_goals
      clear hii
      go_wp2_with fail
      go_ret
      exact ⟨rfl, by exact ⟨q9.os, q9.tape, q9.output, q9.size, q9.block⟩⟩
end Go.Proofs.Ytadmdmhocglkfaa.Bud
namespace Go.Proofs.Ytadmdmhocglkfaa.Abs
open Go Go.RowKit Go.Proofs.Ytadmdmhocglkfaa Bud

theorem flat1 (l : List Int) : (l.map fun n => [SV.int .i64 n]).flatten = l.map fun n => SV.int .i64 n := by
  induction l with
  | nil => rfl
  | cons a l ih => simp [ih]

theorem law_BudgetExact (most : Nat) (l : List Int) (hf : ∀ n ∈ l, fit n) : Contract Try.prog 3 [.float .f64 most, .dsl 1 (l.map fun n => [.int .i64 n])] (.bool true) := by
  refine con_of_below fun m w vs hm hl hr => ?_
  match vs, hl with
  | [v0, v1], _ =>
    obtain rfl := rep_float (hr 0 v0 _ rfl rfl)
    have h1 := hr 1 v1 _ rfl rfl
    generalize hz : SV.dsl 1 (l.map fun n => [SV.int .i64 n]) = z at h1
    cases h1 with
    | dsl0 sz A cap => exact exact_none most A cap w
    | dsl sz rows cap b off vs g0 g1 g2 g3 g4 g5 g6 =>
      cases hz
      have e1 : (l.map fun n => [SV.int .i64 n]).length = l.length := by simp
      have e2 := flat1 l
      rw [e2, List.length_map] at g4
      rw [e2] at g6
      rw [e1] at g2 ⊢
      have hc : ∀ j, j < l.length → w.cell? ⟨b, off + j, none⟩ = some (.int .i64 (l[j]?.getD 0)) := fun j hj => by
        have hv : vs[j]? = some (vs[j]'(by omega)) := List.getElem?_eq_getElem (by omega)
        have hx : (l.map fun n => SV.int .i64 n)[j]? = some (.int .i64 (l[j]?.getD 0)) := by
          rw [List.getElem?_map, List.getElem?_eq_getElem hj]; rfl
        have := rep_int (g6 j _ _ hv hx)
        have h5 := hm _ _ _ (g5 j _ hv)
        rw [this] at h5
        exact h5
      by_cases h0 : l.length = 0
      · rw [h0]
        exact exact_none most _ cap w
      · exact exact_any most l b off cap w (mem_lt (hc 0 (by omega))) g2 hc
    | _ => cases hz
end Go.Proofs.Ytadmdmhocglkfaa.Abs
