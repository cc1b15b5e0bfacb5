/-
  NARROWER THAN 'FOR EVERY INPUT', by the rows' own cells (each row's printed sentence says how): HetPoints: loops · HetThen: loops · CongTypes: loops · CongEqs: loops · HetEnds: loops · HetMakes: loops · CongCalls: loops.
  DERIVED. THE GIVEN ROWS OF THIS SEAT. 12 by the template 'for every input the law returns true; each argument reads behind the call as it read before'; 0 by the template 'total and deterministic' (their statements: YtadmdmhocglkfaaTotals.lean).
  GIVEN WITH THE SEED: the statements are not yours to turn. If you find one false, say at which input.
  Laid BY PROGRAM, IN A SANDBOX (cutbox-rows.mjs): the forced cells as the released guide's own fill.sh prints them over the translation 50dfe00d66bf6cff… (all of the seat's roots in one cut). By AI agents, Wed Nov 11 2026. No macro, syntax, notation, axiom, sorry.
-/
import Derived.Test.YtadmdmhocglkfaaChecked
import GoSem.Claim
import GoSem.ClaimJoined
import GoSem.ClaimMapViews
import Derived.JoinedTies
import Derived.KernelRfl
namespace Go.Proofs.Ytadmdmhocglkfaa
/- THE CELL 'sum', in the pinned program and in every row, IS THE sha256 OF THE DUMP (.gsa) THAT YtadmdmhocglkfaaProg.lean LOADS. Nothing in Lean hashes anything: it is a label: what it is worth is what the hold of that sum in a sandbox is worth. -/
noncomputable def Try.pinned : Pinned := { name := "ytadmdmhocglkfaa", sum := "50dfe00d66bf6cff68fb71aec488a7ccaf2731921b46827c4aaec144f33cbabc", checked := Try.checked }
namespace Rows
def none {H : Type} : Left H := { results := [], args := [] }

/-- 'transhiplaw03.BudgetExact': WHATEVER THE INPUT: true; the input reads as it did. -/
def budgetExactSpec : ChangeSpec := { name := "budgetExact", fn := fun _ => fun
  | [d1, d2] => { results := [.lit (.bool true)], args := [d1, d2] }
  | _ => none }
def budgetExactRow : OpenClaim := { program := "ytadmdmhocglkfaa", sum := "50dfe00d66bf6cff68fb71aec488a7ccaf2731921b46827c4aaec144f33cbabc", func := "tranship/transhiplaw03.BudgetExact", spec := "budgetExact", inPlace := ["math.Float64bits", "math.Float64frombits", "math.archTrunc"], apart := false }
def BudgetExactSaid : Prop := budgetExactRow.holds Try.pinned (OpenSpec.ofChange budgetExactSpec)

/-- ITS FALSE NEIGHBOUR: 'it returns false'. Refute it at one input. -/
def budgetExactWrong : ChangeSpec := { name := "budgetExact", fn := fun _ => fun
  | [d1, d2] => { results := [.lit (.bool false)], args := [d1, d2] }
  | _ => none }
def BudgetExactWrongFalsely : Prop := budgetExactRow.holds Try.pinned (OpenSpec.ofChange budgetExactWrong)

/-- 'transhiplaw03.BudgetWithin': WHATEVER THE INPUT: true; the input reads as it did. -/
def budgetWithinSpec : ChangeSpec := { name := "budgetWithin", fn := fun _ => fun
  | [d1, d2, d3, d4] => { results := [.lit (.bool true)], args := [d1, d2, d3, d4] }
  | _ => none }
def budgetWithinRow : OpenClaim := { program := "ytadmdmhocglkfaa", sum := "50dfe00d66bf6cff68fb71aec488a7ccaf2731921b46827c4aaec144f33cbabc", func := "tranship/transhiplaw03.BudgetWithin", spec := "budgetWithin", inPlace := ["math.Float64bits", "math.Float64frombits", "math.archTrunc"], apart := false }
def BudgetWithinSaid : Prop := budgetWithinRow.holds Try.pinned (OpenSpec.ofChange budgetWithinSpec)

/-- ITS FALSE NEIGHBOUR: 'it returns false'. Refute it at one input. -/
def budgetWithinWrong : ChangeSpec := { name := "budgetWithin", fn := fun _ => fun
  | [d1, d2, d3, d4] => { results := [.lit (.bool false)], args := [d1, d2, d3, d4] }
  | _ => none }
def BudgetWithinWrongFalsely : Prop := budgetWithinRow.holds Try.pinned (OpenSpec.ofChange budgetWithinWrong)

/-- 'transhiplaw03.BudgetParts': WHATEVER THE INPUT: true; the input reads as it did. -/
def budgetPartsSpec : ChangeSpec := { name := "budgetParts", fn := fun _ => fun
  | [d1, d2, d3] => { results := [.lit (.bool true)], args := [d1, d2, d3] }
  | _ => none }
def budgetPartsRow : OpenClaim := { program := "ytadmdmhocglkfaa", sum := "50dfe00d66bf6cff68fb71aec488a7ccaf2731921b46827c4aaec144f33cbabc", func := "tranship/transhiplaw03.BudgetParts", spec := "budgetParts", inPlace := ["math.Float64bits", "math.Float64frombits", "math.archTrunc"], apart := false }
def BudgetPartsSaid : Prop := budgetPartsRow.holds Try.pinned (OpenSpec.ofChange budgetPartsSpec)

/-- ITS FALSE NEIGHBOUR: 'it returns false'. Refute it at one input. -/
def budgetPartsWrong : ChangeSpec := { name := "budgetParts", fn := fun _ => fun
  | [d1, d2, d3] => { results := [.lit (.bool false)], args := [d1, d2, d3] }
  | _ => none }
def BudgetPartsWrongFalsely : Prop := budgetPartsRow.holds Try.pinned (OpenSpec.ofChange budgetPartsWrong)

/-- 'transhiplaw03.BudgetNone': WHATEVER THE INPUT: true; the input reads as it did. -/
def budgetNoneSpec : ChangeSpec := { name := "budgetNone", fn := fun _ => fun
  | [d] => { results := [.lit (.bool true)], args := [d] }
  | _ => none }
def budgetNoneRow : OpenClaim := { program := "ytadmdmhocglkfaa", sum := "50dfe00d66bf6cff68fb71aec488a7ccaf2731921b46827c4aaec144f33cbabc", func := "tranship/transhiplaw03.BudgetNone", spec := "budgetNone", inPlace := ["math.Float64bits", "math.Float64frombits", "math.archTrunc"], apart := false }
def BudgetNoneSaid : Prop := budgetNoneRow.holds Try.pinned (OpenSpec.ofChange budgetNoneSpec)

/-- ITS FALSE NEIGHBOUR: 'it returns false'. Refute it at one input. -/
def budgetNoneWrong : ChangeSpec := { name := "budgetNone", fn := fun _ => fun
  | [d] => { results := [.lit (.bool false)], args := [d] }
  | _ => none }
def BudgetNoneWrongFalsely : Prop := budgetNoneRow.holds Try.pinned (OpenSpec.ofChange budgetNoneWrong)

/-- 'transhiplaw03.BudgetLeast': WHATEVER THE INPUT: true; the input reads as it did. -/
def budgetLeastSpec : ChangeSpec := { name := "budgetLeast", fn := fun _ => fun
  | [d1, d2] => { results := [.lit (.bool true)], args := [d1, d2] }
  | _ => none }
def budgetLeastRow : OpenClaim := { program := "ytadmdmhocglkfaa", sum := "50dfe00d66bf6cff68fb71aec488a7ccaf2731921b46827c4aaec144f33cbabc", func := "tranship/transhiplaw03.BudgetLeast", spec := "budgetLeast", inPlace := ["math.Float64frombits", "math.Float64bits", "math.archTrunc"], apart := false }
def BudgetLeastSaid : Prop := budgetLeastRow.holds Try.pinned (OpenSpec.ofChange budgetLeastSpec)

/-- ITS FALSE NEIGHBOUR: 'it returns false'. Refute it at one input. -/
def budgetLeastWrong : ChangeSpec := { name := "budgetLeast", fn := fun _ => fun
  | [d1, d2] => { results := [.lit (.bool false)], args := [d1, d2] }
  | _ => none }
def BudgetLeastWrongFalsely : Prop := budgetLeastRow.holds Try.pinned (OpenSpec.ofChange budgetLeastWrong)

/-- 'transhiplaw23.HetPoints': WHATEVER THE INPUT: true; the input reads as it did. -/
def hetPointsSpec : ChangeSpec := { name := "hetPoints", fn := fun _ => fun
  | [d1, d2, d3, d4] => { results := [.lit (.bool true)], args := [d1, d2, d3, d4] }
  | _ => none }
def hetPointsRow : OpenClaim := { program := "ytadmdmhocglkfaa", sum := "50dfe00d66bf6cff68fb71aec488a7ccaf2731921b46827c4aaec144f33cbabc", func := "tranship/transhiplaw23.HetPoints", spec := "hetPoints", recurses := true, loops := true, apart := false }
def HetPointsSaid : Prop := hetPointsRow.holds Try.pinned (OpenSpec.ofChange hetPointsSpec)

/-- ITS FALSE NEIGHBOUR: 'it returns false'. Refute it at one input. -/
def hetPointsWrong : ChangeSpec := { name := "hetPoints", fn := fun _ => fun
  | [d1, d2, d3, d4] => { results := [.lit (.bool false)], args := [d1, d2, d3, d4] }
  | _ => none }
def HetPointsWrongFalsely : Prop := hetPointsRow.holds Try.pinned (OpenSpec.ofChange hetPointsWrong)

/-- 'transhiplaw23.HetThen': WHATEVER THE INPUT: true; the input reads as it did. -/
def hetThenSpec : ChangeSpec := { name := "hetThen", fn := fun _ => fun
  | [d1, d2] => { results := [.lit (.bool true)], args := [d1, d2] }
  | _ => none }
def hetThenRow : OpenClaim := { program := "ytadmdmhocglkfaa", sum := "50dfe00d66bf6cff68fb71aec488a7ccaf2731921b46827c4aaec144f33cbabc", func := "tranship/transhiplaw23.HetThen", spec := "hetThen", recurses := true, loops := true, apart := false }
def HetThenSaid : Prop := hetThenRow.holds Try.pinned (OpenSpec.ofChange hetThenSpec)

/-- ITS FALSE NEIGHBOUR: 'it returns false'. Refute it at one input. -/
def hetThenWrong : ChangeSpec := { name := "hetThen", fn := fun _ => fun
  | [d1, d2] => { results := [.lit (.bool false)], args := [d1, d2] }
  | _ => none }
def HetThenWrongFalsely : Prop := hetThenRow.holds Try.pinned (OpenSpec.ofChange hetThenWrong)

/-- 'transhiplaw24.CongTypes': WHATEVER THE INPUT: true; the input reads as it did. -/
def congTypesSpec : ChangeSpec := { name := "congTypes", fn := fun _ => fun
  | [d1, d2, d3, d4] => { results := [.lit (.bool true)], args := [d1, d2, d3, d4] }
  | _ => none }
def congTypesRow : OpenClaim := { program := "ytadmdmhocglkfaa", sum := "50dfe00d66bf6cff68fb71aec488a7ccaf2731921b46827c4aaec144f33cbabc", func := "tranship/transhiplaw24.CongTypes", spec := "congTypes", recurses := true, loops := true, apart := false }
def CongTypesSaid : Prop := congTypesRow.holds Try.pinned (OpenSpec.ofChange congTypesSpec)

/-- ITS FALSE NEIGHBOUR: 'it returns false'. Refute it at one input. -/
def congTypesWrong : ChangeSpec := { name := "congTypes", fn := fun _ => fun
  | [d1, d2, d3, d4] => { results := [.lit (.bool false)], args := [d1, d2, d3, d4] }
  | _ => none }
def CongTypesWrongFalsely : Prop := congTypesRow.holds Try.pinned (OpenSpec.ofChange congTypesWrong)

/-- 'transhiplaw24.CongEqs': WHATEVER THE INPUT: true; the input reads as it did. -/
def congEqsSpec : ChangeSpec := { name := "congEqs", fn := fun _ => fun
  | [d1, d2, d3, d4, d5, d6] => { results := [.lit (.bool true)], args := [d1, d2, d3, d4, d5, d6] }
  | _ => none }
def congEqsRow : OpenClaim := { program := "ytadmdmhocglkfaa", sum := "50dfe00d66bf6cff68fb71aec488a7ccaf2731921b46827c4aaec144f33cbabc", func := "tranship/transhiplaw24.CongEqs", spec := "congEqs", unfollowed := true, recurses := true, loops := true, apart := false }
def CongEqsSaid : Prop := congEqsRow.holds Try.pinned (OpenSpec.ofChange congEqsSpec)

/-- ITS FALSE NEIGHBOUR: 'it returns false'. Refute it at one input. -/
def congEqsWrong : ChangeSpec := { name := "congEqs", fn := fun _ => fun
  | [d1, d2, d3, d4, d5, d6] => { results := [.lit (.bool false)], args := [d1, d2, d3, d4, d5, d6] }
  | _ => none }
def CongEqsWrongFalsely : Prop := congEqsRow.holds Try.pinned (OpenSpec.ofChange congEqsWrong)

/-- 'transhiplaw23.HetEnds': WHATEVER THE INPUT: true; the input reads as it did. -/
def hetEndsSpec : ChangeSpec := { name := "hetEnds", fn := fun _ => fun
  | [d1, d2] => { results := [.lit (.bool true)], args := [d1, d2] }
  | _ => none }
def hetEndsRow : OpenClaim := { program := "ytadmdmhocglkfaa", sum := "50dfe00d66bf6cff68fb71aec488a7ccaf2731921b46827c4aaec144f33cbabc", func := "tranship/transhiplaw23.HetEnds", spec := "hetEnds", recurses := true, loops := true, apart := false }
def HetEndsSaid : Prop := hetEndsRow.holds Try.pinned (OpenSpec.ofChange hetEndsSpec)

/-- ITS FALSE NEIGHBOUR: 'it returns false'. Refute it at one input. -/
def hetEndsWrong : ChangeSpec := { name := "hetEnds", fn := fun _ => fun
  | [d1, d2] => { results := [.lit (.bool false)], args := [d1, d2] }
  | _ => none }
def HetEndsWrongFalsely : Prop := hetEndsRow.holds Try.pinned (OpenSpec.ofChange hetEndsWrong)

/-- 'transhiplaw23.HetMakes': WHATEVER THE INPUT: true; the input reads as it did. -/
def hetMakesSpec : ChangeSpec := { name := "hetMakes", fn := fun _ => fun
  | [d1, d2, d3] => { results := [.lit (.bool true)], args := [d1, d2, d3] }
  | _ => none }
def hetMakesRow : OpenClaim := { program := "ytadmdmhocglkfaa", sum := "50dfe00d66bf6cff68fb71aec488a7ccaf2731921b46827c4aaec144f33cbabc", func := "tranship/transhiplaw23.HetMakes", spec := "hetMakes", recurses := true, loops := true, apart := false }
def HetMakesSaid : Prop := hetMakesRow.holds Try.pinned (OpenSpec.ofChange hetMakesSpec)

/-- ITS FALSE NEIGHBOUR: 'it returns false'. Refute it at one input. -/
def hetMakesWrong : ChangeSpec := { name := "hetMakes", fn := fun _ => fun
  | [d1, d2, d3] => { results := [.lit (.bool false)], args := [d1, d2, d3] }
  | _ => none }
def HetMakesWrongFalsely : Prop := hetMakesRow.holds Try.pinned (OpenSpec.ofChange hetMakesWrong)

/-- 'transhiplaw24.CongCalls': WHATEVER THE INPUT: true; the input reads as it did. -/
def congCallsSpec : ChangeSpec := { name := "congCalls", fn := fun _ => fun
  | [d1, d2, d3] => { results := [.lit (.bool true)], args := [d1, d2, d3] }
  | _ => none }
def congCallsRow : OpenClaim := { program := "ytadmdmhocglkfaa", sum := "50dfe00d66bf6cff68fb71aec488a7ccaf2731921b46827c4aaec144f33cbabc", func := "tranship/transhiplaw24.CongCalls", spec := "congCalls", recurses := true, loops := true, apart := false }
def CongCallsSaid : Prop := congCallsRow.holds Try.pinned (OpenSpec.ofChange congCallsSpec)

/-- ITS FALSE NEIGHBOUR: 'it returns false'. Refute it at one input. -/
def congCallsWrong : ChangeSpec := { name := "congCalls", fn := fun _ => fun
  | [d1, d2, d3] => { results := [.lit (.bool false)], args := [d1, d2, d3] }
  | _ => none }
def CongCallsWrongFalsely : Prop := congCallsRow.holds Try.pinned (OpenSpec.ofChange congCallsWrong)

/- THE SECOND FORM. 'bulk': how many values and letters a reading holds, each counted each time it is reached (what is shared counts as often as it is met; a slice's spare places count too). A statement '..UptoSaid' is the law's where the arguments, and the package variables that the reading takes, are together of bulk at most 1048576: NARROWER than '..Said'. Prove '..Said' where nothing that the law and all that it calls make is longer than what came in: it says more and counts as full. Else prove '..UptoSaid'. A law counts once. -/
mutual
def uptoBulk {H : Type} : DataW H → Nat
  | .lit (.string bytes) => bytes.length + 1
  | .lit _ => 1
  | .nil => 1
  | .ptr d => uptoBulk d + 1
  | .slice elems spare => uptoBulkAll elems + uptoBulkAll spare + 1
  | .agg parts => uptoBulkAll parts + 1
  | .iface _ d => uptoBulk d + 1
  | .map entries => uptoBulkEntries entries + 1
  | .held _ => 1
def uptoBulkAll {H : Type} : List (DataW H) → Nat
  | [] => 0
  | d :: r => uptoBulk d + uptoBulkAll r
def uptoBulkEntries {H : Type} : List (Lit × DataW H) → Nat
  | [] => 0
  | x :: r => uptoBulkEntry x + uptoBulkEntries r
def uptoBulkEntry {H : Type} : Lit × DataW H → Nat
  | (.string bytes, d) => bytes.length + uptoBulk d + 1
  | (_, d) => uptoBulk d + 1
 end
def uptoSmall : (H : Type) → List (DataW H) → Bool := fun _ ds => decide (uptoBulkAll ds ≤ 1048576)
def OpenSpec.upto (s : _root_.Go.ChangeSpec) : _root_.Go.OpenSpec := { _root_.Go.OpenSpec.ofChange s with cond := some uptoSmall }

/-- 'transhiplaw03.BudgetExact', WHERE WHAT IT READS IS OF BULK AT MOST 1048576: true; the input reads as it did. -/
def budgetExactUptoRow : OpenClaim := { program := "ytadmdmhocglkfaa", sum := "50dfe00d66bf6cff68fb71aec488a7ccaf2731921b46827c4aaec144f33cbabc", func := "tranship/transhiplaw03.BudgetExact", spec := "budgetExact", inPlace := ["math.Float64bits", "math.Float64frombits", "math.archTrunc"], apart := false, narrowed := true }
def BudgetExactUptoSaid : Prop := budgetExactUptoRow.holds Try.pinned (OpenSpec.upto budgetExactSpec)

/-- 'transhiplaw03.BudgetWithin', WHERE WHAT IT READS IS OF BULK AT MOST 1048576: true; the input reads as it did. -/
def budgetWithinUptoRow : OpenClaim := { program := "ytadmdmhocglkfaa", sum := "50dfe00d66bf6cff68fb71aec488a7ccaf2731921b46827c4aaec144f33cbabc", func := "tranship/transhiplaw03.BudgetWithin", spec := "budgetWithin", inPlace := ["math.Float64bits", "math.Float64frombits", "math.archTrunc"], apart := false, narrowed := true }
def BudgetWithinUptoSaid : Prop := budgetWithinUptoRow.holds Try.pinned (OpenSpec.upto budgetWithinSpec)

/-- 'transhiplaw03.BudgetParts', WHERE WHAT IT READS IS OF BULK AT MOST 1048576: true; the input reads as it did. -/
def budgetPartsUptoRow : OpenClaim := { program := "ytadmdmhocglkfaa", sum := "50dfe00d66bf6cff68fb71aec488a7ccaf2731921b46827c4aaec144f33cbabc", func := "tranship/transhiplaw03.BudgetParts", spec := "budgetParts", inPlace := ["math.Float64bits", "math.Float64frombits", "math.archTrunc"], apart := false, narrowed := true }
def BudgetPartsUptoSaid : Prop := budgetPartsUptoRow.holds Try.pinned (OpenSpec.upto budgetPartsSpec)

/-- 'transhiplaw03.BudgetNone', WHERE WHAT IT READS IS OF BULK AT MOST 1048576: true; the input reads as it did. -/
def budgetNoneUptoRow : OpenClaim := { program := "ytadmdmhocglkfaa", sum := "50dfe00d66bf6cff68fb71aec488a7ccaf2731921b46827c4aaec144f33cbabc", func := "tranship/transhiplaw03.BudgetNone", spec := "budgetNone", inPlace := ["math.Float64bits", "math.Float64frombits", "math.archTrunc"], apart := false, narrowed := true }
def BudgetNoneUptoSaid : Prop := budgetNoneUptoRow.holds Try.pinned (OpenSpec.upto budgetNoneSpec)

/-- 'transhiplaw03.BudgetLeast', WHERE WHAT IT READS IS OF BULK AT MOST 1048576: true; the input reads as it did. -/
def budgetLeastUptoRow : OpenClaim := { program := "ytadmdmhocglkfaa", sum := "50dfe00d66bf6cff68fb71aec488a7ccaf2731921b46827c4aaec144f33cbabc", func := "tranship/transhiplaw03.BudgetLeast", spec := "budgetLeast", inPlace := ["math.Float64frombits", "math.Float64bits", "math.archTrunc"], apart := false, narrowed := true }
def BudgetLeastUptoSaid : Prop := budgetLeastUptoRow.holds Try.pinned (OpenSpec.upto budgetLeastSpec)

/-- 'transhiplaw23.HetPoints', WHERE WHAT IT READS IS OF BULK AT MOST 1048576: true; the input reads as it did. -/
def hetPointsUptoRow : OpenClaim := { program := "ytadmdmhocglkfaa", sum := "50dfe00d66bf6cff68fb71aec488a7ccaf2731921b46827c4aaec144f33cbabc", func := "tranship/transhiplaw23.HetPoints", spec := "hetPoints", recurses := true, loops := true, apart := false, narrowed := true }
def HetPointsUptoSaid : Prop := hetPointsUptoRow.holds Try.pinned (OpenSpec.upto hetPointsSpec)

/-- 'transhiplaw23.HetThen', WHERE WHAT IT READS IS OF BULK AT MOST 1048576: true; the input reads as it did. -/
def hetThenUptoRow : OpenClaim := { program := "ytadmdmhocglkfaa", sum := "50dfe00d66bf6cff68fb71aec488a7ccaf2731921b46827c4aaec144f33cbabc", func := "tranship/transhiplaw23.HetThen", spec := "hetThen", recurses := true, loops := true, apart := false, narrowed := true }
def HetThenUptoSaid : Prop := hetThenUptoRow.holds Try.pinned (OpenSpec.upto hetThenSpec)

/-- 'transhiplaw24.CongTypes', WHERE WHAT IT READS IS OF BULK AT MOST 1048576: true; the input reads as it did. -/
def congTypesUptoRow : OpenClaim := { program := "ytadmdmhocglkfaa", sum := "50dfe00d66bf6cff68fb71aec488a7ccaf2731921b46827c4aaec144f33cbabc", func := "tranship/transhiplaw24.CongTypes", spec := "congTypes", recurses := true, loops := true, apart := false, narrowed := true }
def CongTypesUptoSaid : Prop := congTypesUptoRow.holds Try.pinned (OpenSpec.upto congTypesSpec)

/-- 'transhiplaw24.CongEqs', WHERE WHAT IT READS IS OF BULK AT MOST 1048576: true; the input reads as it did. -/
def congEqsUptoRow : OpenClaim := { program := "ytadmdmhocglkfaa", sum := "50dfe00d66bf6cff68fb71aec488a7ccaf2731921b46827c4aaec144f33cbabc", func := "tranship/transhiplaw24.CongEqs", spec := "congEqs", unfollowed := true, recurses := true, loops := true, apart := false, narrowed := true }
def CongEqsUptoSaid : Prop := congEqsUptoRow.holds Try.pinned (OpenSpec.upto congEqsSpec)

/-- 'transhiplaw23.HetEnds', WHERE WHAT IT READS IS OF BULK AT MOST 1048576: true; the input reads as it did. -/
def hetEndsUptoRow : OpenClaim := { program := "ytadmdmhocglkfaa", sum := "50dfe00d66bf6cff68fb71aec488a7ccaf2731921b46827c4aaec144f33cbabc", func := "tranship/transhiplaw23.HetEnds", spec := "hetEnds", recurses := true, loops := true, apart := false, narrowed := true }
def HetEndsUptoSaid : Prop := hetEndsUptoRow.holds Try.pinned (OpenSpec.upto hetEndsSpec)

/-- 'transhiplaw23.HetMakes', WHERE WHAT IT READS IS OF BULK AT MOST 1048576: true; the input reads as it did. -/
def hetMakesUptoRow : OpenClaim := { program := "ytadmdmhocglkfaa", sum := "50dfe00d66bf6cff68fb71aec488a7ccaf2731921b46827c4aaec144f33cbabc", func := "tranship/transhiplaw23.HetMakes", spec := "hetMakes", recurses := true, loops := true, apart := false, narrowed := true }
def HetMakesUptoSaid : Prop := hetMakesUptoRow.holds Try.pinned (OpenSpec.upto hetMakesSpec)

/-- 'transhiplaw24.CongCalls', WHERE WHAT IT READS IS OF BULK AT MOST 1048576: true; the input reads as it did. -/
def congCallsUptoRow : OpenClaim := { program := "ytadmdmhocglkfaa", sum := "50dfe00d66bf6cff68fb71aec488a7ccaf2731921b46827c4aaec144f33cbabc", func := "tranship/transhiplaw24.CongCalls", spec := "congCalls", recurses := true, loops := true, apart := false, narrowed := true }
def CongCallsUptoSaid : Prop := congCallsUptoRow.holds Try.pinned (OpenSpec.upto congCallsSpec)

end Rows
end Go.Proofs.Ytadmdmhocglkfaa
