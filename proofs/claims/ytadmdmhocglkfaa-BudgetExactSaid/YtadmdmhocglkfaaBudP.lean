/- What the budget functions compute, as plain Lean functions of floats' bits: no program in sight. -/
import Derived.Laws.FloatArith
import Derived.Laws.OwnMore
import Derived.Deep.Draws
import Derived.Below
set_option linter.unusedSimpArgs false
set_option linter.unusedVariables false
namespace Go.Proofs.Ytadmdmhocglkfaa.Bud
open Go.RowKit

/-- The order of two float64 by their bits. -/
def ord (x y : Nat) : Option Ordering := FloatKind.f64.format.order x y
def fle (x y : Nat) : Bool := ord x y == some .lt || ord x y == some .eq
def fge (x y : Nat) : Bool := ord x y == some .gt || ord x y == some .eq
def nan (x : Nat) : Bool := ord x x != some .eq
def within (n : Int) (m : Nat) : Bool := fle (floatOfInt .f64 n) m
def isInf (x : Nat) : Bool := ord x 9218868437227405311 == some .gt
end Go.Proofs.Ytadmdmhocglkfaa.Bud
