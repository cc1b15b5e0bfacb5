/- The law BudgetExact. -/
import Derived.Test.YtadmdmhocglkfaaBudE
import Derived.Deep.RegionWith
set_option linter.unusedSimpArgs false
set_option linter.unusedVariables false
namespace Go.Proofs.Ytadmdmhocglkfaa.Bud
open Go Go.RowKit

theorem bne_b (b : Bool) : (b != b) = false := by simp
theorem bne_i (n : Int) : (n != n) = false := by simp

theorem bne_e (n : Int) : (n == n) = true := by simp

theorem cell_keep {w w' : World} {b c o : Nat} {v : Value} (h : w.cell? ⟨c, o, none⟩ = some v) (q : Oth b w w') (hc : c ≠ b) : w'.cell? ⟨c, o, none⟩ = some v := by
  rw [World.cell?_of_block (w := w) (q.block c hc)]; exact h
theorem cell_below {w w' : World} {B c o : Nat} {v : Value} (h : w.cell? ⟨c, o, none⟩ = some v) (q : Below B w w') (hc : c < B) : w'.cell? ⟨c, o, none⟩ = some v := by
  rw [q.cell hc]; exact h

set_option maxRecDepth 100000 in
set_option maxHeartbeats 4000000 in
theorem exact_any (most : Nat) (l : List Int) (b off cap : Nat) (w : World) (hb : b < w.heap.size) (hl : l.length ≤ 140737488355328) (hc : ∀ j, j < l.length → w.cell? ⟨b, off + j, none⟩ = some (.int .i64 (l[j]?.getD 0))) :
    Calls Try.prog 3 #[.float .f64 most, .slice (some ⟨b, off, none⟩) l.length cap] w fun e w' => e = .returned (.bool true) ∧ Below w.heap.size w w' := by
  generalize hB : w.heap.size = B at *
  go_enter Try.func3, Try.ntmps3
  go_wp2_with fail
  refine (new_has _ _).mono ?_
  rw [hB]
  rintro e w1 ⟨rfl, h1, b1, s1⟩
  go_wp2_with fail
  have h2 : Has (w1.alloc (.cells #[.float .f64 most, .int .i64 0] 28)) B most 0 := h1.below ((Below.refl w1.heap.size _).alloc (Nat.le_refl _) _) (by omega)
  have k2 : Has (w1.alloc (.cells #[.float .f64 most, .int .i64 0] 28)) (B + 1) most 0 := by
    rw [← s1]
    exact ⟨by go_simp, by go_simp, by go_simp⟩
  have b2 : Below B w (w1.alloc (.cells #[.float .f64 most, .int .i64 0] 28)) := b1.alloc (by omega) _
  generalize w1.alloc (.cells #[.float .f64 most, .int .i64 0] 28) = w2 at *
  go_loopw [7] (fun i wr => ∃ (k : Nat) (u : Int), k ≤ l.length ∧ i = .int .i64 k ∧ Has wr B most u ∧ Has wr (B + 1) most u ∧ Below B w wr)
    (fun i _ => l.length - (intOf i).toNat)
  case atStart => exact ⟨0, 0, Nat.zero_le _, rfl, h2, k2, b2⟩
  case round =>
    clear h1 b1 s1 h2 k2 b2
    obtain ⟨k, u, hk, rfl, ha, hr, hbw⟩ := hrel
    by_cases hkl : k < l.length
    · have hlt : (k : Int) < (l.length : Int) := by omega
      have hd : wr.cell? ⟨b, off + k, none⟩ = some (.int .i64 (l[k]?.getD 0)) := cell_below (hc k hkl) hbw hb
      generalize l[k]?.getD 0 = n at *
      have hbb := bne_b (takeOk most u n)
      have hii := bne_i (takeU most u n)
      by_cases hk2 : k < 200
      · have hlt2 : (k : Int) < 200 := by omega
        clear hc
        go_wp2_with fail
        go_region_with (first
          | (go_at_call 16
             refine (take_has (m := most) (u := u) (by exact ⟨ha.c0, ha.c1, ha.fz⟩) _).mono ?_
             rintro e wa ⟨rfl, ha2, oa⟩
             have hr2 : Has wa (B + 1) most u := Has.oth (by exact ⟨hr.c0, hr.c1, hr.fz⟩) oa (by omega)
             have hd2 : wa.cell? ⟨b, off + k, none⟩ = some (.int .i64 n) := cell_keep (by exact hd) oa (by omega)
             have q2 : Below B w wa := Below.trans (by exact ⟨hbw.os, hbw.tape, hbw.output, hbw.size, hbw.block⟩) (Oth.below oa (by omega)))
          | (go_at_call 17
             refine (rtake_has (m := most) (u := u) (by exact ⟨hr2.c0, hr2.c1, hr2.fz⟩) _).mono ?_
             rintro e wb ⟨rfl, hr3, ob⟩
             have ha3 : Has wb B most (takeU most u n) := Has.oth (by exact ⟨ha2.c0, ha2.c1, ha2.fz⟩) ob (by omega)
             have hn3 := hr3.c1
             have q3 : Below B w wb := Below.trans (by exact ⟨q2.os, q2.tape, q2.output, q2.size, q2.block⟩) (Oth.below ob (by omega)))
          | (go_at_call 18
             refine (used_has (m := most) (by exact ⟨ha3.c0, ha3.c1, ha3.fz⟩)).mono ?_
             rintro e wc ⟨rfl, ha4, oc⟩
             have hr4 : Has wc (B + 1) most (takeU most u n) := Has.oth (by exact ⟨hr3.c0, hr3.c1, hr3.fz⟩) oc (by omega)
             have hn4 := hr4.c1
             have q4 : Below B w wc := Below.trans (by exact ⟨q3.os, q3.tape, q3.output, q3.size, q3.block⟩) (Oth.below oc (by omega)))
          | (go_at_call 20
             refine (left_has (m := most) (by exact ⟨ha4.c0, ha4.c1, ha4.fz⟩)).mono ?_
             rintro e wd ⟨rfl, ha5, od⟩
             have hr5 : Has wd (B + 1) most (takeU most u n) := Has.oth (by exact ⟨hr4.c0, hr4.c1, hr4.fz⟩) od (by omega)
             have q5 : Below B w wd := Below.trans (by exact ⟨q4.os, q4.tape, q4.output, q4.size, q4.block⟩) (Oth.below od (by omega)))
          | (go_at_call 21
             refine (rleft_has (m := most) (by exact ⟨hr5.c0, hr5.c1, hr5.fz⟩)).mono ?_
             rintro e we ⟨rfl, hr6, oe⟩
             have ha6 : Has we B most (takeU most u n) := Has.oth (by exact ⟨ha5.c0, ha5.c1, ha5.fz⟩) oe (by omega)
             have q6 : Below B w we := Below.trans (by exact ⟨q5.os, q5.tape, q5.output, q5.size, q5.block⟩) (Oth.below oe (by omega)))
          | (go_at_call 19
             refine (bits_any _ _).mono ?_
             rintro e wf ⟨rfl, rfl⟩))
        all_goals
          clear hbb hii hd
          go_wp2_with fail
          go_roundw
          case rel => exact ⟨k + 1, takeU most u n, by omega, by go_num, by exact ⟨ha6.c0, ha6.c1, ha6.fz⟩, by exact ⟨hr6.c0, hr6.c1, hr6.fz⟩, by exact ⟨q6.os, q6.tape, q6.output, q6.size, q6.block⟩⟩
          case measure => simp [intOf]; omega
      · have hlt2 : decide ((k : Int) < 200) = false := by simp; omega
        clear hc hd hbb hii
        go_wp2_with fail
        have hii := bne_e u
        have hn3 := hr.c1
        go_region_with (first
          | (go_at_call 18
             refine (used_has (m := most) (by exact ⟨ha.c0, ha.c1, ha.fz⟩)).mono ?_
             rintro e wc ⟨rfl, ha4, oc⟩
             have hr4 : Has wc (B + 1) most u := Has.oth (by exact ⟨hr.c0, hr.c1, hr.fz⟩) oc (by omega)
             have hn4 := hr4.c1
             have q4 : Below B w wc := Below.trans (by exact ⟨hbw.os, hbw.tape, hbw.output, hbw.size, hbw.block⟩) (Oth.below oc (by omega)))
          | (go_at_call 20
             refine (left_has (m := most) (by exact ⟨ha4.c0, ha4.c1, ha4.fz⟩)).mono ?_
             rintro e wd ⟨rfl, ha5, od⟩
             have hr5 : Has wd (B + 1) most u := Has.oth (by exact ⟨hr4.c0, hr4.c1, hr4.fz⟩) od (by omega)
             have q5 : Below B w wd := Below.trans (by exact ⟨q4.os, q4.tape, q4.output, q4.size, q4.block⟩) (Oth.below od (by omega)))
          | (go_at_call 21
             refine (rleft_has (m := most) (by exact ⟨hr5.c0, hr5.c1, hr5.fz⟩)).mono ?_
             rintro e we ⟨rfl, hr6, oe⟩
             have q6 : Below B w we := Below.trans (by exact ⟨q5.os, q5.tape, q5.output, q5.size, q5.block⟩) (Oth.below oe (by omega)))
          | (go_at_call 19
             refine (bits_any _ _).mono ?_
             rintro e wf ⟨rfl, rfl⟩)
          | (go_at_call 22
             refine (wakes_any _).mono ?_
             rintro e wf ⟨rfl, b9⟩
             have q9 : Below B w wf := Below.trans (by exact ⟨q6.os, q6.tape, q6.output, q6.size, q6.block⟩) (b9.mono (by have q7 := q6.size; rw [hB] at q7; exact q7))))
        all_goals
          clear hii
          go_wp2_with fail
          go_ret
          exact ⟨rfl, by exact ⟨q9.os, q9.tape, q9.output, q9.size, q9.block⟩⟩
    · have hlt : decide ((k : Int) < (l.length : Int)) = false := by simp; omega
      clear hc
      go_wp2_with fail
      have hii := bne_e u
      have hn3 := hr.c1
      go_region_with (first
        | (go_at_call 18
           refine (used_has (m := most) (by exact ⟨ha.c0, ha.c1, ha.fz⟩)).mono ?_
           rintro e wc ⟨rfl, ha4, oc⟩
           have hr4 : Has wc (B + 1) most u := Has.oth (by exact ⟨hr.c0, hr.c1, hr.fz⟩) oc (by omega)
           have hn4 := hr4.c1
           have q4 : Below B w wc := Below.trans (by exact ⟨hbw.os, hbw.tape, hbw.output, hbw.size, hbw.block⟩) (Oth.below oc (by omega)))
        | (go_at_call 20
           refine (left_has (m := most) (by exact ⟨ha4.c0, ha4.c1, ha4.fz⟩)).mono ?_
           rintro e wd ⟨rfl, ha5, od⟩
           have hr5 : Has wd (B + 1) most u := Has.oth (by exact ⟨hr4.c0, hr4.c1, hr4.fz⟩) od (by omega)
           have q5 : Below B w wd := Below.trans (by exact ⟨q4.os, q4.tape, q4.output, q4.size, q4.block⟩) (Oth.below od (by omega)))
        | (go_at_call 21
           refine (rleft_has (m := most) (by exact ⟨hr5.c0, hr5.c1, hr5.fz⟩)).mono ?_
           rintro e we ⟨rfl, hr6, oe⟩
           have q6 : Below B w we := Below.trans (by exact ⟨q5.os, q5.tape, q5.output, q5.size, q5.block⟩) (Oth.below oe (by omega)))
        | (go_at_call 19
           refine (bits_any _ _).mono ?_
           rintro e wf ⟨rfl, rfl⟩)
        | (go_at_call 22
           refine (wakes_any _).mono ?_
           rintro e wf ⟨rfl, b9⟩
           have q9 : Below B w wf := Below.trans (by exact ⟨q6.os, q6.tape, q6.output, q6.size, q6.block⟩) (b9.mono (by have q7 := q6.size; rw [hB] at q7; exact q7))))
      all_goals
        clear hii
        go_wp2_with fail
        go_ret
        exact ⟨rfl, by exact ⟨q9.os, q9.tape, q9.output, q9.size, q9.block⟩⟩
end Go.Proofs.Ytadmdmhocglkfaa.Bud
