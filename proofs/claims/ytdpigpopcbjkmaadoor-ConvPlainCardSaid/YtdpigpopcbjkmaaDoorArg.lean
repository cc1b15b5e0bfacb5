/- The readings of a law's arguments: numbers. -/
import Derived.Test.YtdpigpopcbjkmaaDoorTm
import Derived.Test.YtdpigpopcbjkmaaDoorProg
import Derived.KernelRfl
set_option linter.unusedSimpArgs false
set_option linter.unusedVariables false
namespace Go.Proofs.YtdpigpopcbjkmaaDoor.Abs
open Go Go.RowKit Go.Proofs.YtdpigpopcbjkmaaDoor

theorem u_int : Tryd.prog.underlying 3 = some (.int .i64) := by kernel_rfl
theorem arg_int {x : SV} (h : TyArg Tryd.prog 3 x) : ∃ n, x = .int .i64 n ∧ fit n := by
  cases h with
  | agg svs h1 _ => have e : isAggT Tryd.prog 3 = some false := by kernel_rfl
                    rw [e] at h1; cases h1
  | one x _ h2 =>
    obtain ⟨n, e, hn⟩ := ty_int u_int h2
    cases e
    exact ⟨n, rfl, hn⟩
theorem u_float : Tryd.prog.underlying 25 = some (.float .f64) := by kernel_rfl
theorem ty_float {svs : List SV} (h : TySV Tryd.prog 25 svs) : ∃ b, svs = [.float .f64 b] := by
  have hu := u_float
  cases h with
  | float _ k b h1 _ => rw [hu] at h1; cases h1; exact ⟨b, rfl⟩
  | bool _ _ h1 => rw [hu] at h1; cases h1
  | int _ _ _ h1 => rw [hu] at h1; cases h1
  | str _ _ h1 => rw [hu] at h1; cases h1
  | slice _ _ _ h1 => rw [hu] at h1; cases h1
  | struct _ _ _ h1 => rw [hu] at h1; cases h1
theorem arg_float {x : SV} (h : TyArg Tryd.prog 25 x) : ∃ b, x = .float .f64 b := by
  cases h with
  | agg svs h1 _ => have e : isAggT Tryd.prog 25 = some false := by kernel_rfl
                    rw [e] at h1; cases h1
  | one x _ h2 =>
    obtain ⟨b, e⟩ := ty_float h2
    cases e
    exact ⟨b, rfl⟩
theorem arg_ints {x : SV} (h : TyArg Tryd.prog 73 x) : ∃ l : List Int, x = .dsl 1 (l.map fun n => [.int .i64 n]) ∧ (∀ n ∈ l, fit n) := by
  cases h with
  | agg svs h1 _ => have e : isAggT Tryd.prog 73 = some false := by kernel_rfl
                    rw [e] at h1; cases h1
  | one x _ h2 =>
    obtain ⟨l, e, _, hl⟩ := ty_slice (e := 3) (by kernel_rfl) h2
    have e1 : Tryd.prog.cellsOf 3 = 1 := by kernel_rfl
    rw [e1] at e
    obtain ⟨xs, rfl, hx⟩ := map_of (f := fun n => [SV.int .i64 n]) (p := fit) (l := l) (fun r hr => by obtain ⟨n, h1, h2⟩ := ty_int u_int (hl r hr); exact ⟨n, h2, h1⟩)
    cases e
    exact ⟨xs, rfl, hx⟩
theorem tyArgs_cons {P : Program} {t : TypeId} {ts : List TypeId} {args : List SV} (h : TyArgs P (t :: ts) args) : ∃ x xs, args = x :: xs ∧ TyArg P t x ∧ TyArgs P ts xs := by
  cases args with
  | nil => exact h.elim
  | cons x xs => exact ⟨x, xs, rfl, h.1, h.2⟩
theorem tyArgs_nil {P : Program} {args : List SV} (h : TyArgs P [] args) : args = [] := by
  cases args with
  | nil => rfl
  | cons x xs => exact h.elim
theorem own : ownKnob Tryd.prog.godebug = none := by kernel_rfl
theorem laid : laidOutB Tryd.prog = true := by kernel_rfl
end Go.Proofs.YtdpigpopcbjkmaaDoor.Abs
