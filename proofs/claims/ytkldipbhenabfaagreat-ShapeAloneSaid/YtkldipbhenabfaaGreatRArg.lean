/- The readings of a law's arguments: numbers. -/
import Derived.Test.YtkldipbhenabfaaGreatRTm
import Derived.Test.YtkldipbhenabfaaGreatProg
import Derived.KernelRfl
set_option linter.unusedSimpArgs false
set_option linter.unusedVariables false
namespace Go.Proofs.YtkldipbhenabfaaGreat.Abs
open Go Go.RowKit Go.Proofs.YtkldipbhenabfaaGreat

theorem u_int : Tryz.prog.underlying 3 = some (.int .i64) := by kernel_rfl
theorem arg_int {x : SV} (h : TyArg Tryz.prog 3 x) : ∃ n, x = .int .i64 n ∧ fit n := by
  cases h with
  | agg svs h1 _ => have e : isAggT Tryz.prog 3 = some false := by kernel_rfl
                    rw [e] at h1; cases h1
  | one x _ h2 =>
    obtain ⟨n, e, hn⟩ := ty_int u_int h2
    cases e
    exact ⟨n, rfl, hn⟩
theorem tyArgs_cons {P : Program} {t : TypeId} {ts : List TypeId} {args : List SV} (h : TyArgs P (t :: ts) args) : ∃ x xs, args = x :: xs ∧ TyArg P t x ∧ TyArgs P ts xs := by
  cases args with
  | nil => exact h.elim
  | cons x xs => exact ⟨x, xs, rfl, h.1, h.2⟩
theorem tyArgs_nil {P : Program} {args : List SV} (h : TyArgs P [] args) : args = [] := by
  cases args with
  | nil => rfl
  | cons x xs => exact h.elim
theorem own : ownKnob Tryz.prog.godebug = none := by kernel_rfl
theorem laid : laidOutB Tryz.prog = true := by kernel_rfl
end Go.Proofs.YtkldipbhenabfaaGreat.Abs

