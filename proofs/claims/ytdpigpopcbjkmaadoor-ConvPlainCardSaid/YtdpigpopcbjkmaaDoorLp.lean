/- Loops that go on while something holds; structs' parts. No program in sight. -/
import Derived.Test.YtdpigpopcbjkmaaDoorEv
set_option linter.unusedSimpArgs false
set_option linter.unusedVariables false
namespace Go.Proofs.YtdpigpopcbjkmaaDoor.Abs
open Go Go.RowKit

/-- What the round i of a loop must come to, that goes on only where p holds. -/
def lqp (S : Nat → St) (n i : Nat) (p : Prop) (Q : AE → St → Prop) : AE → St → Prop := fun e s' => match e with | .normal => i < n ∧ p ∧ Wk s' (S (i + 1)) | e => Q e s'
theorem lqp_n {S : Nat → St} {n i : Nat} {p : Prop} {Q : AE → St → Prop} {s : St} : lqp S n i p Q .normal s = (i < n ∧ p ∧ Wk s (S (i + 1))) := Eq.trans rfl rfl
theorem lqp_e {S : Nat → St} {n i j : Nat} {p : Prop} {Q : AE → St → Prop} {s : St} : lqp S n i p Q (.exit j) s = Q (.exit j) s := Eq.trans rfl rfl
theorem lqp_r {S : Nat → St} {n i : Nat} {p : Prop} {Q : AE → St → Prop} {s : St} : lqp S n i p Q .ret s = Q .ret s := Eq.trans rfl rfl

attribute [go_sem] lqp_n lqp_e lqp_r

/-- A COUNTING LOOP that goes on while p holds: S i stands ahead of the round i, and then p has held in all rounds before. -/
theorem vc_forp {C : CT} {b : AC} {Q : AE → St → Prop} (S : Nat → St) (n : Nat) (p : Nat → Prop) (hstep : ∀ i, i ≤ n → (∀ j, j < i → p j) → vc C b (lqp S n i (p i) Q) (S i)) {s : St} (h0 : Wk s (S 0)) : vc C (.loop b) Q s := by
  refine vc_loop (fun m s => ∃ i, i ≤ n ∧ m = n - i ∧ (∀ j, j < i → p j) ∧ Wk s (S i)) (fun m s hI => ?_) n s ⟨0, Nat.zero_le _, rfl, fun j hj => absurd hj (Nat.not_lt_zero _), h0⟩
  obtain ⟨i, hi, rfl, hp, hw⟩ := hI
  refine ⟨S i, hw, vc_mono (fun e s' he => ?_) (hstep i hi hp)⟩
  cases e with
  | normal => exact ⟨n - (i + 1), by have := he.1; omega, i + 1, he.1, rfl, fun j hj => (by rcases Nat.lt_succ_iff_lt_or_eq.1 hj with h | rfl; exact hp j h; exact he.2.1), he.2.2⟩
  | exit id => exact he
  | ret => exact he

theorem get_lt {α : Type} {l : List α} {i : Nat} {d : α} (h : i < l.length) : l[i]?.getD d ∈ l := by
  rw [List.getElem?_eq_getElem h, Option.getD_some]; exact List.getElem_mem h

/-- All, seen from the places. -/
theorem all_of {α : Type} {l : List α} {f : α → Bool} {d : α} (h : ∀ j, j < l.length → f (l[j]?.getD d) = true) : l.all f = true := by
  rw [List.all_eq_true]
  intro x hx
  obtain ⟨i, hi, rfl⟩ := List.getElem_of_mem hx
  have := h i hi
  rwa [List.getElem?_eq_getElem hi, Option.getD_some] at this
theorem all_no {α : Type} {l : List α} {f : α → Bool} {d : α} {i : Nat} (hi : i < l.length) (h : f (l[i]?.getD d) = false) : l.all f = false := by
  rw [List.all_eq_false]
  exact ⟨_, get_lt (d := d) hi, by simp [h]⟩

/-- The first place from which on f, at its place, is asked. -/
def allI {α : Type} (f : Nat → α → Bool) : Nat → List α → Bool
  | _, [] => true
  | i, x :: l => f i x && allI f (i + 1) l
theorem allI_of {α : Type} {f : Nat → α → Bool} {d : α} : ∀ {l : List α} {k : Nat}, (∀ j, j < l.length → f (k + j) (l[j]?.getD d) = true) → allI f k l = true := by
  intro l
  induction l with
  | nil => intro k _; rfl
  | cons x l ih =>
    intro k h
    simp only [allI, Bool.and_eq_true]
    refine ⟨by simpa using h 0 (by simp), ih fun j hj => ?_⟩
    have := h (j + 1) (by simp; omega)
    rw [show k + 1 + j = k + (j + 1) by omega]
    simpa using this
theorem allI_no {α : Type} {f : Nat → α → Bool} {d : α} : ∀ {l : List α} {k i : Nat}, i < l.length → f (k + i) (l[i]?.getD d) = false → allI f k l = false := by
  intro l
  induction l with
  | nil => intro k i h; simp at h
  | cons x l ih =>
    intro k i hi h
    simp only [allI]
    cases i with
    | zero => have h' : f k x = false := by simpa using h
              rw [h']; rfl
    | succ i =>
      rw [ih (k := k + 1) (i := i) (by simpa using hi) (by rw [show k + 1 + i = k + (i + 1) by omega]; simpa using h), Bool.and_false]
theorem allI_map {α β : Type} {f : Nat → β → Bool} {g : α → β} : ∀ {l : List α} {k : Nat}, allI f k (l.map g) = allI (fun i x => f i (g x)) k l := by
  intro l
  induction l with
  | nil => intro k; rfl
  | cons x l ih => intro k; simp only [List.map_cons, allI, ih]
theorem allI_congr {α : Type} {f g : Nat → α → Bool} : ∀ {l : List α} {k : Nat}, (∀ i, ∀ x ∈ l, f i x = g i x) → allI f k l = allI g k l := by
  intro l
  induction l with
  | nil => intro k _; rfl
  | cons x l ih =>
    intro k h
    simp only [allI]
    rw [h k x (by simp), ih (fun i y hy => h i y (by simp [hy]))]
end Go.Proofs.YtdpigpopcbjkmaaDoor.Abs
