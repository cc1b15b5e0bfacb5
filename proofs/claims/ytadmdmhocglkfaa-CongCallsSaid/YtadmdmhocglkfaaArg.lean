/- The readings of a law's arguments: numbers. -/
import Derived.Test.YtadmdmhocglkfaaTm
import Derived.Test.YtadmdmhocglkfaaProg
import Derived.KernelRfl
set_option linter.unusedSimpArgs false
set_option linter.unusedVariables false
namespace Go.Proofs.Ytadmdmhocglkfaa.Abs
open Go Go.RowKit Go.Proofs.Ytadmdmhocglkfaa

theorem u_int : Try.prog.underlying 3 = some (.int .i64) := by kernel_rfl
theorem arg_int {x : SV} (h : TyArg Try.prog 3 x) : ∃ n, x = .int .i64 n ∧ fit n := by
  cases h with
  | agg svs h1 _ => have e : isAggT Try.prog 3 = some false := by kernel_rfl
                    rw [e] at h1; cases h1
  | one x _ h2 =>
    obtain ⟨n, e, hn⟩ := ty_int u_int h2
    cases e
    exact ⟨n, rfl, hn⟩
theorem u_float : Try.prog.underlying 22 = some (.float .f64) := by kernel_rfl
theorem ty_float {svs : List SV} (h : TySV Try.prog 22 svs) : ∃ b, svs = [.float .f64 b] := by
  have hu := u_float
  cases h with
  | float _ k b h1 _ => rw [hu] at h1; cases h1; exact ⟨b, rfl⟩
  | bool _ _ h1 => rw [hu] at h1; cases h1
  | int _ _ _ h1 => rw [hu] at h1; cases h1
  | str _ _ h1 => rw [hu] at h1; cases h1
  | slice _ _ _ h1 => rw [hu] at h1; cases h1
  | struct _ _ _ h1 => rw [hu] at h1; cases h1
theorem arg_float {x : SV} (h : TyArg Try.prog 22 x) : ∃ b, x = .float .f64 b := by
  cases h with
  | agg svs h1 _ => have e : isAggT Try.prog 22 = some false := by kernel_rfl
                    rw [e] at h1; cases h1
  | one x _ h2 =>
    obtain ⟨b, e⟩ := ty_float h2
    cases e
    exact ⟨b, rfl⟩
theorem arg_ints {x : SV} (h : TyArg Try.prog 23 x) : ∃ l : List Int, x = .dsl 1 (l.map fun n => [.int .i64 n]) ∧ (∀ n ∈ l, fit n) := by
  cases h with
  | agg svs h1 _ => have e : isAggT Try.prog 23 = some false := by kernel_rfl
                    rw [e] at h1; cases h1
  | one x _ h2 =>
    obtain ⟨l, e, _, hl⟩ := ty_slice (e := 3) (by kernel_rfl) h2
    have e1 : Try.prog.cellsOf 3 = 1 := by kernel_rfl
    rw [e1] at e
    obtain ⟨xs, rfl, hx⟩ := map_of (f := fun n => [SV.int .i64 n]) (p := fit) (l := l) (fun r hr => by obtain ⟨n, h1, h2⟩ := ty_int u_int (hl r hr); exact ⟨n, h2, h1⟩)
    cases e
    exact ⟨xs, rfl, hx⟩
theorem arg_floats {x : SV} (h : TyArg Try.prog 41 x) : ∃ l : List Nat, x = .dsl 1 (l.map fun n => [.float .f64 n]) := by
  cases h with
  | agg svs h1 _ => have e : isAggT Try.prog 41 = some false := by kernel_rfl
                    rw [e] at h1; cases h1
  | one x _ h2 =>
    obtain ⟨l, e, _, hl⟩ := ty_slice (e := 22) (by kernel_rfl) h2
    have e1 : Try.prog.cellsOf 22 = 1 := by kernel_rfl
    rw [e1] at e
    obtain ⟨xs, rfl, hx⟩ := map_of (f := fun n => [SV.float .f64 n]) (p := fun _ => True) (l := l) (fun r hr => by obtain ⟨n, h1⟩ := ty_float (hl r hr); exact ⟨n, trivial, h1⟩)
    cases e
    exact ⟨xs, rfl⟩
theorem tyArgs_cons {P : Program} {t : TypeId} {ts : List TypeId} {args : List SV} (h : TyArgs P (t :: ts) args) : ∃ x xs, args = x :: xs ∧ TyArg P t x ∧ TyArgs P ts xs := by
  cases args with
  | nil => exact h.elim
  | cons x xs => exact ⟨x, xs, rfl, h.1, h.2⟩
theorem tyArgs_nil {P : Program} {args : List SV} (h : TyArgs P [] args) : args = [] := by
  cases args with
  | nil => rfl
  | cons x xs => exact h.elim
theorem own : ownKnob Try.prog.godebug = none := by kernel_rfl
theorem laid : laidOutB Try.prog = true := by kernel_rfl
end Go.Proofs.Ytadmdmhocglkfaa.Abs
