/- A budget in memory; what its methods do to it, and leave. -/
import Derived.Test.YtadmdmhocglkfaaBudX
import Derived.WalkSmall
set_option linter.unusedSimpArgs false
set_option linter.unusedVariables false
namespace Go.Proofs.Ytadmdmhocglkfaa.Bud
open Go Go.RowKit

/-- A budget lies in the block b. -/
structure Has (w : World) (b : Nat) (m : Nat) (u : Int) : Prop where
  c0 : w.cell? ⟨b, 0, none⟩ = some (.float .f64 m)
  c1 : w.cell? ⟨b, 1, none⟩ = some (.int .i64 u)
  fz : w.frozen? ⟨b, 1, none⟩ = false

/-- Nothing has turned but, maybe, the block b. -/
structure Oth (b : Nat) (w w' : World) : Prop where
  os : w'.os = w.os
  tape : w'.tape = w.tape
  output : w'.output = w.output
  size : w.heap.size = w'.heap.size
  block : ∀ k, k ≠ b → w'.heap[k]? = w.heap[k]?

theorem Oth.refl (b : Nat) (w : World) : Oth b w w := ⟨rfl, rfl, rfl, rfl, fun _ _ => rfl⟩
theorem Oth.drew {b : Nat} {w : World} (k : Nat) : Oth b w (w.drewN k) := ⟨rfl, rfl, rfl, rfl, fun _ _ => rfl⟩
theorem Has.drew {w : World} {b m : Nat} {u : Int} (h : Has w b m u) (k : Nat) : Has (w.drewN k) b m u := ⟨h.c0, h.c1, h.fz⟩
theorem Has.oth {w w' : World} {b c m : Nat} {u : Int} (h : Has w c m u) (o : Oth b w w') (hc : c ≠ b) : Has w' c m u := by
  have hb := o.block c hc
  refine ⟨?_, ?_, ?_⟩
  · rw [World.cell?_of_block (w := w) hb]; exact h.c0
  · rw [World.cell?_of_block (w := w) hb]; exact h.c1
  · rw [World.frozen?_of_block (w := w) hb]; exact h.fz
theorem Oth.below {w w' : World} {b B : Nat} (o : Oth b w w') (h : B ≤ b) : Below B w w' := ⟨o.os, o.tape, o.output, Nat.le_of_eq o.size, fun k hk => o.block k (by omega)⟩

theorem Has.set {w : World} {b m : Nat} {u : Int} (h : Has w b m u) (v : Int) : Has (w.setCell ⟨b, 1, none⟩ (.int .i64 v)) b m v ∧ Oth b w (w.setCell ⟨b, 1, none⟩ (.int .i64 v)) := by
  have h0 := h.c0
  have h1 := h.c1
  have h2 := h.fz
  refine ⟨⟨?_, ?_, ?_⟩, ⟨rfl, rfl, rfl, ?_, fun k hk => Below.heap_setCell _ _ _ _ hk⟩⟩
  · go_simp
  · go_simp
  · go_simp
  · simp [World.setCell]

def takeOk (m : Nat) (u n : Int) : Bool := !decide (n < 0) && (!decide (wrap64 (9223372036854775807 - u) < n) && within (wrap64 (u + n)) m)
def takeU (m : Nat) (u n : Int) : Int := if takeOk m u n then wrap64 (u + n) else u

section
variable {w : World} {b m : Nat} {u : Int}
theorem take_has (h : Has w b m u) (n : Int) : Calls Try.prog 16 #[.pointer (some ⟨b, 0, none⟩), .int .i64 n] w fun e w' => e = .returned (.bool (takeOk m u n)) ∧ Has w' b m (takeU m u n) ∧ Oth b w w' := by
  unfold takeU takeOk
  cases h1 : decide (n < 0)
  · cases h2 : decide (wrap64 (9223372036854775807 - u) < n)
    · cases h3 : within (wrap64 (u + n)) m
      · refine (take_out b u n m w h.c0 h.c1 h1 h2 h3).mono ?_
        rintro e w' ⟨rfl, k, rfl⟩
        exact ⟨rfl, h.drew k, .drew k⟩
      · refine (take_in b u n m w h.c0 h.c1 h.fz h1 h2 h3).mono ?_
        rintro e w' ⟨rfl, k, rfl⟩
        obtain ⟨g1, g2⟩ := (h.drew k).set (wrap64 (u + n))
        exact ⟨rfl, g1, ⟨g2.os, g2.tape, g2.output, g2.size, g2.block⟩⟩
    · refine (take_big b u n m w h.c0 h.c1 h1 (of_decide_eq_true h2)).mono ?_
      rintro e w' ⟨rfl, k, rfl⟩
      exact ⟨rfl, h.drew k, .drew k⟩
  · refine (take_neg b u n m w h.c0 h.c1 (of_decide_eq_true h1)).mono ?_
    rintro e w' ⟨rfl, k, rfl⟩
    exact ⟨rfl, h.drew k, .drew k⟩
theorem rtake_has (h : Has w b m u) (n : Int) : Calls Try.prog 17 #[.pointer (some ⟨b, 0, none⟩), .int .i64 n] w fun e w' => e = .returned (.bool (takeOk m u n)) ∧ Has w' b m (takeU m u n) ∧ Oth b w w' := by
  unfold takeU takeOk
  cases h1 : decide (n < 0)
  · cases h2 : decide (wrap64 (9223372036854775807 - u) < n)
    · cases h3 : within (wrap64 (u + n)) m
      · refine (rtake_out b u n m w h.c0 h.c1 h1 h2 h3).mono ?_
        rintro e w' ⟨rfl, k, rfl⟩
        exact ⟨rfl, h.drew k, .drew k⟩
      · refine (rtake_in b u n m w h.c0 h.c1 h.fz h1 h2 h3).mono ?_
        rintro e w' ⟨rfl, k, rfl⟩
        obtain ⟨g1, g2⟩ := (h.drew k).set (wrap64 (u + n))
        exact ⟨rfl, g1, ⟨g2.os, g2.tape, g2.output, g2.size, g2.block⟩⟩
    · refine (rtake_big b u n m w h.c0 h.c1 h1 (of_decide_eq_true h2)).mono ?_
      rintro e w' ⟨rfl, k, rfl⟩
      exact ⟨rfl, h.drew k, .drew k⟩
  · refine (rtake_neg b u n m w h.c0 h.c1 (of_decide_eq_true h1)).mono ?_
    rintro e w' ⟨rfl, k, rfl⟩
    exact ⟨rfl, h.drew k, .drew k⟩
theorem used_has (h : Has w b m u) : Calls Try.prog 18 #[.pointer (some ⟨b, 0, none⟩)] w fun e w' => e = .returned (.int .i64 u) ∧ Has w' b m u ∧ Oth b w w' := by
  refine (used_any b u w h.c1).mono ?_
  rintro e w' ⟨rfl, k, rfl⟩
  exact ⟨rfl, h.drew k, .drew k⟩
theorem left_has (h : Has w b m u) : Calls Try.prog 20 #[.pointer (some ⟨b, 0, none⟩)] w fun e w' => e = .returned (.float .f64 (leftB m u)) ∧ Has w' b m u ∧ Oth b w w' := by
  refine (left_any b u m w h.c0 h.c1).mono ?_
  rintro e w' ⟨rfl, k, rfl⟩
  exact ⟨rfl, h.drew k, .drew k⟩

theorem new_has (m : Nat) (w : World) : Calls Try.prog 15 #[.float .f64 m] w fun e w' => e = .returned (.pointer (some ⟨w.heap.size, 0, none⟩)) ∧ Has w' w.heap.size m 0 ∧ Below w.heap.size w w' ∧ w'.heap.size = w.heap.size + 1 := by
  refine (new_any m w).mono ?_
  rintro e w' ⟨rfl, rfl⟩
  refine ⟨rfl, ⟨?_, ?_, ?_⟩, (Below.refl _ _).alloc (Nat.le_refl _) _, ?_⟩
  · go_simp
  · go_simp
  · go_simp
  · show (w.heap.push _).size = _; simp
end
end Go.Proofs.Ytadmdmhocglkfaa.Bud
