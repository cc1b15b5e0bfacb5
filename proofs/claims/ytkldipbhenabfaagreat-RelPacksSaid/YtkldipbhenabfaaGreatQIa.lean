/- Putting a term for the variable 0: by the program. -/
import Derived.Test.YtkldipbhenabfaaGreatQAfE
import Derived.Test.YtkldipbhenabfaaGreatQHf
set_option linter.unusedSimpArgs false
set_option linter.unusedVariables false
namespace Go.Proofs.YtkldipbhenabfaaGreat.Abs
open Go Go.RowKit Go.Proofs.YtkldipbhenabfaaGreat

/-- What is put, as the program keeps it. -/
abbrev pv (u : Tm) : SV := .dref 3 [.dsl 5 [tv u], .dsl 5 [tv u], .bool true] 0

end Go.Proofs.YtkldipbhenabfaaGreat.Abs

