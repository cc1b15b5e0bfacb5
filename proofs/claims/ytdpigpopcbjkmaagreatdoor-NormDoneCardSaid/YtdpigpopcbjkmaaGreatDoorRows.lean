/-
  NARROWER THAN 'FOR EVERY INPUT', by the rows' own cells (each row's printed sentence says how): NormExact: loops, laid · HeadExact: loops, laid · NormDone: loops, laid · NormMore: loops, laid · NormHead: loops, laid · NormOrder: loops, laid · ConvExact: loops, laid · ConvTurn: loops, laid · ConvSteps: loops, laid · ConvMore: loops, laid.
  DERIVED. THE GIVEN ROWS OF THIS SEAT. 10 by the template 'for every input the law returns true; each argument reads behind the call as it read before'; 0 by the template 'total and deterministic' (their statements: YtdpigpopcbjkmaaGreatDoorTotals.lean).
  GIVEN WITH THE SEED: the statements are not yours to turn. If you find one false, say at which input.
  Laid BY PROGRAM, IN A SANDBOX (cutbox-rows.mjs): the forced cells as the released guide's own fill.sh prints them over the translation 05a73afa0d26391d… (all of the seat's roots in one cut). By AI agents, Wed Nov 11 2026. No macro, syntax, notation, axiom, sorry.
-/
import Derived.Test.YtdpigpopcbjkmaaGreatDoorChecked
import GoSem.Claim
import GoSem.ClaimJoined
import GoSem.ClaimMapViews
import Derived.JoinedTies
import Derived.KernelRfl
namespace Go.Proofs.YtdpigpopcbjkmaaGreatDoor
/- THE CELL 'sum', in the pinned program and in every row, IS THE sha256 OF THE DUMP (.gsa) THAT YtdpigpopcbjkmaaGreatDoorProg.lean LOADS. Nothing in Lean hashes anything: it is a label: what it is worth is what the hold of that sum in a sandbox is worth. -/
noncomputable def Tryz.pinned : Pinned := { name := "ytdpigpopcbjkmaagreatdoor", sum := "05a73afa0d26391d8744bb5e299c381b41803d95a6c4db063e2e0ed6a4417335", checked := Tryz.checked }
namespace Rows
def none {H : Type} : Left H := { results := [], args := [] }

/- WHAT THE LISTED PACKAGE-LEVEL VARIABLES READ AS WHEN THE CALL BEGINS. Each datum BY PROGRAM (the guide's laid-datum.mjs) off the statement by which the dump's own 'gosem.cut.vars' lays the variable. In a bare row this is a premise. The card (YtdpigpopcbjkmaaGreatDoorCards.lean) ties it to the program's text. -/
def laid_math_bits_deBruijn32tab {H : Type} : DataW H := .agg [.lit (.int .u8 0), .lit (.int .u8 1), .lit (.int .u8 28), .lit (.int .u8 2), .lit (.int .u8 29), .lit (.int .u8 14), .lit (.int .u8 24), .lit (.int .u8 3), .lit (.int .u8 30), .lit (.int .u8 22), .lit (.int .u8 20), .lit (.int .u8 15), .lit (.int .u8 25), .lit (.int .u8 17), .lit (.int .u8 4), .lit (.int .u8 8), .lit (.int .u8 31), .lit (.int .u8 27), .lit (.int .u8 13), .lit (.int .u8 23), .lit (.int .u8 21), .lit (.int .u8 19), .lit (.int .u8 16), .lit (.int .u8 7), .lit (.int .u8 26), .lit (.int .u8 12), .lit (.int .u8 18), .lit (.int .u8 6), .lit (.int .u8 11), .lit (.int .u8 5), .lit (.int .u8 10), .lit (.int .u8 9)]
def laid_math_bits_deBruijn64tab {H : Type} : DataW H := .agg [.lit (.int .u8 0), .lit (.int .u8 1), .lit (.int .u8 56), .lit (.int .u8 2), .lit (.int .u8 57), .lit (.int .u8 49), .lit (.int .u8 28), .lit (.int .u8 3), .lit (.int .u8 61), .lit (.int .u8 58), .lit (.int .u8 42), .lit (.int .u8 50), .lit (.int .u8 38), .lit (.int .u8 29), .lit (.int .u8 17), .lit (.int .u8 4), .lit (.int .u8 62), .lit (.int .u8 47), .lit (.int .u8 59), .lit (.int .u8 36), .lit (.int .u8 45), .lit (.int .u8 43), .lit (.int .u8 51), .lit (.int .u8 22), .lit (.int .u8 53), .lit (.int .u8 39), .lit (.int .u8 33), .lit (.int .u8 30), .lit (.int .u8 24), .lit (.int .u8 18), .lit (.int .u8 12), .lit (.int .u8 5), .lit (.int .u8 63), .lit (.int .u8 55), .lit (.int .u8 48), .lit (.int .u8 27), .lit (.int .u8 60), .lit (.int .u8 41), .lit (.int .u8 37), .lit (.int .u8 16), .lit (.int .u8 46), .lit (.int .u8 35), .lit (.int .u8 44), .lit (.int .u8 21), .lit (.int .u8 52), .lit (.int .u8 32), .lit (.int .u8 23), .lit (.int .u8 11), .lit (.int .u8 54), .lit (.int .u8 26), .lit (.int .u8 40), .lit (.int .u8 15), .lit (.int .u8 34), .lit (.int .u8 20), .lit (.int .u8 31), .lit (.int .u8 10), .lit (.int .u8 25), .lit (.int .u8 14), .lit (.int .u8 19), .lit (.int .u8 9), .lit (.int .u8 13), .lit (.int .u8 8), .lit (.int .u8 7), .lit (.int .u8 6)]
def laid_internal_strconv_uint64pow10 {H : Type} : DataW H := .agg [.lit (.int .u64 1), .lit (.int .u64 10), .lit (.int .u64 100), .lit (.int .u64 1000), .lit (.int .u64 10000), .lit (.int .u64 100000), .lit (.int .u64 1000000), .lit (.int .u64 10000000), .lit (.int .u64 100000000), .lit (.int .u64 1000000000), .lit (.int .u64 10000000000), .lit (.int .u64 100000000000), .lit (.int .u64 1000000000000), .lit (.int .u64 10000000000000), .lit (.int .u64 100000000000000), .lit (.int .u64 1000000000000000), .lit (.int .u64 10000000000000000), .lit (.int .u64 100000000000000000), .lit (.int .u64 1000000000000000000), .lit (.int .u64 10000000000000000000)]

/-- 'transhiplaw18.NormExact': WHATEVER THE INPUT: true; the input reads as it did. -/
def normExactSpec : ChangeSpec := { name := "normExact", fn := fun _ => fun
  | [d1, d2] => { results := [.lit (.bool true)], args := [d1, d2] }
  | _ => none }
def normExactRow : OpenClaim := { program := "ytdpigpopcbjkmaagreatdoor", sum := "05a73afa0d26391d8744bb5e299c381b41803d95a6c4db063e2e0ed6a4417335", func := "tranship/transhiplaw18.NormExact", spec := "normExact", unfollowed := true, recurses := true, named := ["internal/strconv.uint64pow10", "math/bits.deBruijn32tab", "math/bits.deBruijn64tab"], loops := true, plainKeys := false, apart := false, laid := [("math/bits.deBruijn32tab", laid_math_bits_deBruijn32tab), ("math/bits.deBruijn64tab", laid_math_bits_deBruijn64tab), ("internal/strconv.uint64pow10", laid_internal_strconv_uint64pow10)] }
def NormExactSaid : Prop := normExactRow.holds Tryz.pinned (OpenSpec.ofChange normExactSpec)

/-- ITS FALSE NEIGHBOUR: 'it returns false'. Refute it at one input. -/
def normExactWrong : ChangeSpec := { name := "normExact", fn := fun _ => fun
  | [d1, d2] => { results := [.lit (.bool false)], args := [d1, d2] }
  | _ => none }
def NormExactWrongFalsely : Prop := normExactRow.holds Tryz.pinned (OpenSpec.ofChange normExactWrong)

/-- 'transhiplaw18.HeadExact': WHATEVER THE INPUT: true; the input reads as it did. -/
def headExactSpec : ChangeSpec := { name := "headExact", fn := fun _ => fun
  | [d1, d2] => { results := [.lit (.bool true)], args := [d1, d2] }
  | _ => none }
def headExactRow : OpenClaim := { program := "ytdpigpopcbjkmaagreatdoor", sum := "05a73afa0d26391d8744bb5e299c381b41803d95a6c4db063e2e0ed6a4417335", func := "tranship/transhiplaw18.HeadExact", spec := "headExact", unfollowed := true, recurses := true, named := ["internal/strconv.uint64pow10", "math/bits.deBruijn32tab", "math/bits.deBruijn64tab"], loops := true, plainKeys := false, apart := false, laid := [("math/bits.deBruijn32tab", laid_math_bits_deBruijn32tab), ("math/bits.deBruijn64tab", laid_math_bits_deBruijn64tab), ("internal/strconv.uint64pow10", laid_internal_strconv_uint64pow10)] }
def HeadExactSaid : Prop := headExactRow.holds Tryz.pinned (OpenSpec.ofChange headExactSpec)

/-- ITS FALSE NEIGHBOUR: 'it returns false'. Refute it at one input. -/
def headExactWrong : ChangeSpec := { name := "headExact", fn := fun _ => fun
  | [d1, d2] => { results := [.lit (.bool false)], args := [d1, d2] }
  | _ => none }
def HeadExactWrongFalsely : Prop := headExactRow.holds Tryz.pinned (OpenSpec.ofChange headExactWrong)

/-- 'transhiplaw18.NormDone': WHATEVER THE INPUT: true; the input reads as it did. -/
def normDoneSpec : ChangeSpec := { name := "normDone", fn := fun _ => fun
  | [d1, d2] => { results := [.lit (.bool true)], args := [d1, d2] }
  | _ => none }
def normDoneRow : OpenClaim := { program := "ytdpigpopcbjkmaagreatdoor", sum := "05a73afa0d26391d8744bb5e299c381b41803d95a6c4db063e2e0ed6a4417335", func := "tranship/transhiplaw18.NormDone", spec := "normDone", unfollowed := true, recurses := true, named := ["internal/strconv.uint64pow10", "math/bits.deBruijn32tab", "math/bits.deBruijn64tab"], loops := true, plainKeys := false, apart := false, laid := [("math/bits.deBruijn32tab", laid_math_bits_deBruijn32tab), ("math/bits.deBruijn64tab", laid_math_bits_deBruijn64tab), ("internal/strconv.uint64pow10", laid_internal_strconv_uint64pow10)] }
def NormDoneSaid : Prop := normDoneRow.holds Tryz.pinned (OpenSpec.ofChange normDoneSpec)

/-- ITS FALSE NEIGHBOUR: 'it returns false'. Refute it at one input. -/
def normDoneWrong : ChangeSpec := { name := "normDone", fn := fun _ => fun
  | [d1, d2] => { results := [.lit (.bool false)], args := [d1, d2] }
  | _ => none }
def NormDoneWrongFalsely : Prop := normDoneRow.holds Tryz.pinned (OpenSpec.ofChange normDoneWrong)

/-- 'transhiplaw18.NormMore': WHATEVER THE INPUT: true; the input reads as it did. -/
def normMoreSpec : ChangeSpec := { name := "normMore", fn := fun _ => fun
  | [d1, d2, d3] => { results := [.lit (.bool true)], args := [d1, d2, d3] }
  | _ => none }
def normMoreRow : OpenClaim := { program := "ytdpigpopcbjkmaagreatdoor", sum := "05a73afa0d26391d8744bb5e299c381b41803d95a6c4db063e2e0ed6a4417335", func := "tranship/transhiplaw18.NormMore", spec := "normMore", unfollowed := true, recurses := true, named := ["internal/strconv.uint64pow10", "math/bits.deBruijn32tab", "math/bits.deBruijn64tab"], loops := true, plainKeys := false, apart := false, laid := [("math/bits.deBruijn32tab", laid_math_bits_deBruijn32tab), ("math/bits.deBruijn64tab", laid_math_bits_deBruijn64tab), ("internal/strconv.uint64pow10", laid_internal_strconv_uint64pow10)] }
def NormMoreSaid : Prop := normMoreRow.holds Tryz.pinned (OpenSpec.ofChange normMoreSpec)

/-- ITS FALSE NEIGHBOUR: 'it returns false'. Refute it at one input. -/
def normMoreWrong : ChangeSpec := { name := "normMore", fn := fun _ => fun
  | [d1, d2, d3] => { results := [.lit (.bool false)], args := [d1, d2, d3] }
  | _ => none }
def NormMoreWrongFalsely : Prop := normMoreRow.holds Tryz.pinned (OpenSpec.ofChange normMoreWrong)

/-- 'transhiplaw18.NormHead': WHATEVER THE INPUT: true; the input reads as it did. -/
def normHeadSpec : ChangeSpec := { name := "normHead", fn := fun _ => fun
  | [d1, d2] => { results := [.lit (.bool true)], args := [d1, d2] }
  | _ => none }
def normHeadRow : OpenClaim := { program := "ytdpigpopcbjkmaagreatdoor", sum := "05a73afa0d26391d8744bb5e299c381b41803d95a6c4db063e2e0ed6a4417335", func := "tranship/transhiplaw18.NormHead", spec := "normHead", unfollowed := true, recurses := true, named := ["internal/strconv.uint64pow10", "math/bits.deBruijn32tab", "math/bits.deBruijn64tab"], loops := true, plainKeys := false, apart := false, laid := [("math/bits.deBruijn32tab", laid_math_bits_deBruijn32tab), ("math/bits.deBruijn64tab", laid_math_bits_deBruijn64tab), ("internal/strconv.uint64pow10", laid_internal_strconv_uint64pow10)] }
def NormHeadSaid : Prop := normHeadRow.holds Tryz.pinned (OpenSpec.ofChange normHeadSpec)

/-- ITS FALSE NEIGHBOUR: 'it returns false'. Refute it at one input. -/
def normHeadWrong : ChangeSpec := { name := "normHead", fn := fun _ => fun
  | [d1, d2] => { results := [.lit (.bool false)], args := [d1, d2] }
  | _ => none }
def NormHeadWrongFalsely : Prop := normHeadRow.holds Tryz.pinned (OpenSpec.ofChange normHeadWrong)

/-- 'transhiplaw18.NormOrder': WHATEVER THE INPUT: true; the input reads as it did. -/
def normOrderSpec : ChangeSpec := { name := "normOrder", fn := fun _ => fun
  | [d1, d2] => { results := [.lit (.bool true)], args := [d1, d2] }
  | _ => none }
def normOrderRow : OpenClaim := { program := "ytdpigpopcbjkmaagreatdoor", sum := "05a73afa0d26391d8744bb5e299c381b41803d95a6c4db063e2e0ed6a4417335", func := "tranship/transhiplaw18.NormOrder", spec := "normOrder", unfollowed := true, recurses := true, named := ["internal/strconv.uint64pow10", "math/bits.deBruijn32tab", "math/bits.deBruijn64tab"], loops := true, plainKeys := false, apart := false, laid := [("math/bits.deBruijn32tab", laid_math_bits_deBruijn32tab), ("math/bits.deBruijn64tab", laid_math_bits_deBruijn64tab), ("internal/strconv.uint64pow10", laid_internal_strconv_uint64pow10)] }
def NormOrderSaid : Prop := normOrderRow.holds Tryz.pinned (OpenSpec.ofChange normOrderSpec)

/-- ITS FALSE NEIGHBOUR: 'it returns false'. Refute it at one input. -/
def normOrderWrong : ChangeSpec := { name := "normOrder", fn := fun _ => fun
  | [d1, d2] => { results := [.lit (.bool false)], args := [d1, d2] }
  | _ => none }
def NormOrderWrongFalsely : Prop := normOrderRow.holds Tryz.pinned (OpenSpec.ofChange normOrderWrong)

/-- 'transhiplaw19.ConvExact': WHATEVER THE INPUT: true; the input reads as it did. -/
def convExactSpec : ChangeSpec := { name := "convExact", fn := fun _ => fun
  | [d1, d2, d3] => { results := [.lit (.bool true)], args := [d1, d2, d3] }
  | _ => none }
def convExactRow : OpenClaim := { program := "ytdpigpopcbjkmaagreatdoor", sum := "05a73afa0d26391d8744bb5e299c381b41803d95a6c4db063e2e0ed6a4417335", func := "tranship/transhiplaw19.ConvExact", spec := "convExact", unfollowed := true, recurses := true, named := ["internal/strconv.uint64pow10", "math/bits.deBruijn32tab", "math/bits.deBruijn64tab"], loops := true, plainKeys := false, apart := false, laid := [("math/bits.deBruijn32tab", laid_math_bits_deBruijn32tab), ("math/bits.deBruijn64tab", laid_math_bits_deBruijn64tab), ("internal/strconv.uint64pow10", laid_internal_strconv_uint64pow10)] }
def ConvExactSaid : Prop := convExactRow.holds Tryz.pinned (OpenSpec.ofChange convExactSpec)

/-- ITS FALSE NEIGHBOUR: 'it returns false'. Refute it at one input. -/
def convExactWrong : ChangeSpec := { name := "convExact", fn := fun _ => fun
  | [d1, d2, d3] => { results := [.lit (.bool false)], args := [d1, d2, d3] }
  | _ => none }
def ConvExactWrongFalsely : Prop := convExactRow.holds Tryz.pinned (OpenSpec.ofChange convExactWrong)

/-- 'transhiplaw19.ConvTurn': WHATEVER THE INPUT: true; the input reads as it did. -/
def convTurnSpec : ChangeSpec := { name := "convTurn", fn := fun _ => fun
  | [d1, d2, d3, d4] => { results := [.lit (.bool true)], args := [d1, d2, d3, d4] }
  | _ => none }
def convTurnRow : OpenClaim := { program := "ytdpigpopcbjkmaagreatdoor", sum := "05a73afa0d26391d8744bb5e299c381b41803d95a6c4db063e2e0ed6a4417335", func := "tranship/transhiplaw19.ConvTurn", spec := "convTurn", unfollowed := true, recurses := true, named := ["internal/strconv.uint64pow10", "math/bits.deBruijn32tab", "math/bits.deBruijn64tab"], loops := true, plainKeys := false, apart := false, laid := [("math/bits.deBruijn32tab", laid_math_bits_deBruijn32tab), ("math/bits.deBruijn64tab", laid_math_bits_deBruijn64tab), ("internal/strconv.uint64pow10", laid_internal_strconv_uint64pow10)] }
def ConvTurnSaid : Prop := convTurnRow.holds Tryz.pinned (OpenSpec.ofChange convTurnSpec)

/-- ITS FALSE NEIGHBOUR: 'it returns false'. Refute it at one input. -/
def convTurnWrong : ChangeSpec := { name := "convTurn", fn := fun _ => fun
  | [d1, d2, d3, d4] => { results := [.lit (.bool false)], args := [d1, d2, d3, d4] }
  | _ => none }
def ConvTurnWrongFalsely : Prop := convTurnRow.holds Tryz.pinned (OpenSpec.ofChange convTurnWrong)

/-- 'transhiplaw19.ConvSteps': WHATEVER THE INPUT: true; the input reads as it did. -/
def convStepsSpec : ChangeSpec := { name := "convSteps", fn := fun _ => fun
  | [d1, d2, d3] => { results := [.lit (.bool true)], args := [d1, d2, d3] }
  | _ => none }
def convStepsRow : OpenClaim := { program := "ytdpigpopcbjkmaagreatdoor", sum := "05a73afa0d26391d8744bb5e299c381b41803d95a6c4db063e2e0ed6a4417335", func := "tranship/transhiplaw19.ConvSteps", spec := "convSteps", unfollowed := true, recurses := true, named := ["internal/strconv.uint64pow10", "math/bits.deBruijn32tab", "math/bits.deBruijn64tab"], loops := true, plainKeys := false, apart := false, laid := [("math/bits.deBruijn32tab", laid_math_bits_deBruijn32tab), ("math/bits.deBruijn64tab", laid_math_bits_deBruijn64tab), ("internal/strconv.uint64pow10", laid_internal_strconv_uint64pow10)] }
def ConvStepsSaid : Prop := convStepsRow.holds Tryz.pinned (OpenSpec.ofChange convStepsSpec)

/-- ITS FALSE NEIGHBOUR: 'it returns false'. Refute it at one input. -/
def convStepsWrong : ChangeSpec := { name := "convSteps", fn := fun _ => fun
  | [d1, d2, d3] => { results := [.lit (.bool false)], args := [d1, d2, d3] }
  | _ => none }
def ConvStepsWrongFalsely : Prop := convStepsRow.holds Tryz.pinned (OpenSpec.ofChange convStepsWrong)

/-- 'transhiplaw19.ConvMore': WHATEVER THE INPUT: true; the input reads as it did. -/
def convMoreSpec : ChangeSpec := { name := "convMore", fn := fun _ => fun
  | [d1, d2, d3, d4] => { results := [.lit (.bool true)], args := [d1, d2, d3, d4] }
  | _ => none }
def convMoreRow : OpenClaim := { program := "ytdpigpopcbjkmaagreatdoor", sum := "05a73afa0d26391d8744bb5e299c381b41803d95a6c4db063e2e0ed6a4417335", func := "tranship/transhiplaw19.ConvMore", spec := "convMore", unfollowed := true, recurses := true, named := ["internal/strconv.uint64pow10", "math/bits.deBruijn32tab", "math/bits.deBruijn64tab"], loops := true, plainKeys := false, apart := false, laid := [("math/bits.deBruijn32tab", laid_math_bits_deBruijn32tab), ("math/bits.deBruijn64tab", laid_math_bits_deBruijn64tab), ("internal/strconv.uint64pow10", laid_internal_strconv_uint64pow10)] }
def ConvMoreSaid : Prop := convMoreRow.holds Tryz.pinned (OpenSpec.ofChange convMoreSpec)

/-- ITS FALSE NEIGHBOUR: 'it returns false'. Refute it at one input. -/
def convMoreWrong : ChangeSpec := { name := "convMore", fn := fun _ => fun
  | [d1, d2, d3, d4] => { results := [.lit (.bool false)], args := [d1, d2, d3, d4] }
  | _ => none }
def ConvMoreWrongFalsely : Prop := convMoreRow.holds Tryz.pinned (OpenSpec.ofChange convMoreWrong)

/- THE SECOND FORM. 'bulk': how many values and letters a reading holds, each counted each time it is reached (what is shared counts as often as it is met; a slice's spare places count too). A statement '..UptoSaid' is the law's where the arguments, and the package variables that the reading takes, are together of bulk at most 1048576: NARROWER than '..Said'. Prove '..Said' where nothing that the law and all that it calls make is longer than what came in: it says more and counts as full. Else prove '..UptoSaid'. A law counts once. -/
mutual
def uptoBulk {H : Type} : DataW H → Nat
  | .lit (.string bytes) => bytes.length + 1
  | .lit _ => 1
  | .nil => 1
  | .ptr d => uptoBulk d + 1
  | .slice elems spare => uptoBulkAll elems + uptoBulkAll spare + 1
  | .agg parts => uptoBulkAll parts + 1
  | .iface _ d => uptoBulk d + 1
  | .map entries => uptoBulkEntries entries + 1
  | .held _ => 1
def uptoBulkAll {H : Type} : List (DataW H) → Nat
  | [] => 0
  | d :: r => uptoBulk d + uptoBulkAll r
def uptoBulkEntries {H : Type} : List (Lit × DataW H) → Nat
  | [] => 0
  | x :: r => uptoBulkEntry x + uptoBulkEntries r
def uptoBulkEntry {H : Type} : Lit × DataW H → Nat
  | (.string bytes, d) => bytes.length + uptoBulk d + 1
  | (_, d) => uptoBulk d + 1
 end
def uptoSmall : (H : Type) → List (DataW H) → Bool := fun _ ds => decide (uptoBulkAll ds ≤ 1048576)
def OpenSpec.upto (s : _root_.Go.ChangeSpec) : _root_.Go.OpenSpec := { _root_.Go.OpenSpec.ofChange s with cond := some uptoSmall }

/-- 'transhiplaw18.NormExact', WHERE WHAT IT READS IS OF BULK AT MOST 1048576: true; the input reads as it did. -/
def normExactUptoRow : OpenClaim := { program := "ytdpigpopcbjkmaagreatdoor", sum := "05a73afa0d26391d8744bb5e299c381b41803d95a6c4db063e2e0ed6a4417335", func := "tranship/transhiplaw18.NormExact", spec := "normExact", unfollowed := true, recurses := true, named := ["internal/strconv.uint64pow10", "math/bits.deBruijn32tab", "math/bits.deBruijn64tab"], loops := true, plainKeys := false, apart := false, laid := [("math/bits.deBruijn32tab", laid_math_bits_deBruijn32tab), ("math/bits.deBruijn64tab", laid_math_bits_deBruijn64tab), ("internal/strconv.uint64pow10", laid_internal_strconv_uint64pow10)], narrowed := true }
def NormExactUptoSaid : Prop := normExactUptoRow.holds Tryz.pinned (OpenSpec.upto normExactSpec)

/-- 'transhiplaw18.HeadExact', WHERE WHAT IT READS IS OF BULK AT MOST 1048576: true; the input reads as it did. -/
def headExactUptoRow : OpenClaim := { program := "ytdpigpopcbjkmaagreatdoor", sum := "05a73afa0d26391d8744bb5e299c381b41803d95a6c4db063e2e0ed6a4417335", func := "tranship/transhiplaw18.HeadExact", spec := "headExact", unfollowed := true, recurses := true, named := ["internal/strconv.uint64pow10", "math/bits.deBruijn32tab", "math/bits.deBruijn64tab"], loops := true, plainKeys := false, apart := false, laid := [("math/bits.deBruijn32tab", laid_math_bits_deBruijn32tab), ("math/bits.deBruijn64tab", laid_math_bits_deBruijn64tab), ("internal/strconv.uint64pow10", laid_internal_strconv_uint64pow10)], narrowed := true }
def HeadExactUptoSaid : Prop := headExactUptoRow.holds Tryz.pinned (OpenSpec.upto headExactSpec)

/-- 'transhiplaw18.NormDone', WHERE WHAT IT READS IS OF BULK AT MOST 1048576: true; the input reads as it did. -/
def normDoneUptoRow : OpenClaim := { program := "ytdpigpopcbjkmaagreatdoor", sum := "05a73afa0d26391d8744bb5e299c381b41803d95a6c4db063e2e0ed6a4417335", func := "tranship/transhiplaw18.NormDone", spec := "normDone", unfollowed := true, recurses := true, named := ["internal/strconv.uint64pow10", "math/bits.deBruijn32tab", "math/bits.deBruijn64tab"], loops := true, plainKeys := false, apart := false, laid := [("math/bits.deBruijn32tab", laid_math_bits_deBruijn32tab), ("math/bits.deBruijn64tab", laid_math_bits_deBruijn64tab), ("internal/strconv.uint64pow10", laid_internal_strconv_uint64pow10)], narrowed := true }
def NormDoneUptoSaid : Prop := normDoneUptoRow.holds Tryz.pinned (OpenSpec.upto normDoneSpec)

/-- 'transhiplaw18.NormMore', WHERE WHAT IT READS IS OF BULK AT MOST 1048576: true; the input reads as it did. -/
def normMoreUptoRow : OpenClaim := { program := "ytdpigpopcbjkmaagreatdoor", sum := "05a73afa0d26391d8744bb5e299c381b41803d95a6c4db063e2e0ed6a4417335", func := "tranship/transhiplaw18.NormMore", spec := "normMore", unfollowed := true, recurses := true, named := ["internal/strconv.uint64pow10", "math/bits.deBruijn32tab", "math/bits.deBruijn64tab"], loops := true, plainKeys := false, apart := false, laid := [("math/bits.deBruijn32tab", laid_math_bits_deBruijn32tab), ("math/bits.deBruijn64tab", laid_math_bits_deBruijn64tab), ("internal/strconv.uint64pow10", laid_internal_strconv_uint64pow10)], narrowed := true }
def NormMoreUptoSaid : Prop := normMoreUptoRow.holds Tryz.pinned (OpenSpec.upto normMoreSpec)

/-- 'transhiplaw18.NormHead', WHERE WHAT IT READS IS OF BULK AT MOST 1048576: true; the input reads as it did. -/
def normHeadUptoRow : OpenClaim := { program := "ytdpigpopcbjkmaagreatdoor", sum := "05a73afa0d26391d8744bb5e299c381b41803d95a6c4db063e2e0ed6a4417335", func := "tranship/transhiplaw18.NormHead", spec := "normHead", unfollowed := true, recurses := true, named := ["internal/strconv.uint64pow10", "math/bits.deBruijn32tab", "math/bits.deBruijn64tab"], loops := true, plainKeys := false, apart := false, laid := [("math/bits.deBruijn32tab", laid_math_bits_deBruijn32tab), ("math/bits.deBruijn64tab", laid_math_bits_deBruijn64tab), ("internal/strconv.uint64pow10", laid_internal_strconv_uint64pow10)], narrowed := true }
def NormHeadUptoSaid : Prop := normHeadUptoRow.holds Tryz.pinned (OpenSpec.upto normHeadSpec)

/-- 'transhiplaw18.NormOrder', WHERE WHAT IT READS IS OF BULK AT MOST 1048576: true; the input reads as it did. -/
def normOrderUptoRow : OpenClaim := { program := "ytdpigpopcbjkmaagreatdoor", sum := "05a73afa0d26391d8744bb5e299c381b41803d95a6c4db063e2e0ed6a4417335", func := "tranship/transhiplaw18.NormOrder", spec := "normOrder", unfollowed := true, recurses := true, named := ["internal/strconv.uint64pow10", "math/bits.deBruijn32tab", "math/bits.deBruijn64tab"], loops := true, plainKeys := false, apart := false, laid := [("math/bits.deBruijn32tab", laid_math_bits_deBruijn32tab), ("math/bits.deBruijn64tab", laid_math_bits_deBruijn64tab), ("internal/strconv.uint64pow10", laid_internal_strconv_uint64pow10)], narrowed := true }
def NormOrderUptoSaid : Prop := normOrderUptoRow.holds Tryz.pinned (OpenSpec.upto normOrderSpec)

/-- 'transhiplaw19.ConvExact', WHERE WHAT IT READS IS OF BULK AT MOST 1048576: true; the input reads as it did. -/
def convExactUptoRow : OpenClaim := { program := "ytdpigpopcbjkmaagreatdoor", sum := "05a73afa0d26391d8744bb5e299c381b41803d95a6c4db063e2e0ed6a4417335", func := "tranship/transhiplaw19.ConvExact", spec := "convExact", unfollowed := true, recurses := true, named := ["internal/strconv.uint64pow10", "math/bits.deBruijn32tab", "math/bits.deBruijn64tab"], loops := true, plainKeys := false, apart := false, laid := [("math/bits.deBruijn32tab", laid_math_bits_deBruijn32tab), ("math/bits.deBruijn64tab", laid_math_bits_deBruijn64tab), ("internal/strconv.uint64pow10", laid_internal_strconv_uint64pow10)], narrowed := true }
def ConvExactUptoSaid : Prop := convExactUptoRow.holds Tryz.pinned (OpenSpec.upto convExactSpec)

/-- 'transhiplaw19.ConvTurn', WHERE WHAT IT READS IS OF BULK AT MOST 1048576: true; the input reads as it did. -/
def convTurnUptoRow : OpenClaim := { program := "ytdpigpopcbjkmaagreatdoor", sum := "05a73afa0d26391d8744bb5e299c381b41803d95a6c4db063e2e0ed6a4417335", func := "tranship/transhiplaw19.ConvTurn", spec := "convTurn", unfollowed := true, recurses := true, named := ["internal/strconv.uint64pow10", "math/bits.deBruijn32tab", "math/bits.deBruijn64tab"], loops := true, plainKeys := false, apart := false, laid := [("math/bits.deBruijn32tab", laid_math_bits_deBruijn32tab), ("math/bits.deBruijn64tab", laid_math_bits_deBruijn64tab), ("internal/strconv.uint64pow10", laid_internal_strconv_uint64pow10)], narrowed := true }
def ConvTurnUptoSaid : Prop := convTurnUptoRow.holds Tryz.pinned (OpenSpec.upto convTurnSpec)

/-- 'transhiplaw19.ConvSteps', WHERE WHAT IT READS IS OF BULK AT MOST 1048576: true; the input reads as it did. -/
def convStepsUptoRow : OpenClaim := { program := "ytdpigpopcbjkmaagreatdoor", sum := "05a73afa0d26391d8744bb5e299c381b41803d95a6c4db063e2e0ed6a4417335", func := "tranship/transhiplaw19.ConvSteps", spec := "convSteps", unfollowed := true, recurses := true, named := ["internal/strconv.uint64pow10", "math/bits.deBruijn32tab", "math/bits.deBruijn64tab"], loops := true, plainKeys := false, apart := false, laid := [("math/bits.deBruijn32tab", laid_math_bits_deBruijn32tab), ("math/bits.deBruijn64tab", laid_math_bits_deBruijn64tab), ("internal/strconv.uint64pow10", laid_internal_strconv_uint64pow10)], narrowed := true }
def ConvStepsUptoSaid : Prop := convStepsUptoRow.holds Tryz.pinned (OpenSpec.upto convStepsSpec)

/-- 'transhiplaw19.ConvMore', WHERE WHAT IT READS IS OF BULK AT MOST 1048576: true; the input reads as it did. -/
def convMoreUptoRow : OpenClaim := { program := "ytdpigpopcbjkmaagreatdoor", sum := "05a73afa0d26391d8744bb5e299c381b41803d95a6c4db063e2e0ed6a4417335", func := "tranship/transhiplaw19.ConvMore", spec := "convMore", unfollowed := true, recurses := true, named := ["internal/strconv.uint64pow10", "math/bits.deBruijn32tab", "math/bits.deBruijn64tab"], loops := true, plainKeys := false, apart := false, laid := [("math/bits.deBruijn32tab", laid_math_bits_deBruijn32tab), ("math/bits.deBruijn64tab", laid_math_bits_deBruijn64tab), ("internal/strconv.uint64pow10", laid_internal_strconv_uint64pow10)], narrowed := true }
def ConvMoreUptoSaid : Prop := convMoreUptoRow.holds Tryz.pinned (OpenSpec.upto convMoreSpec)

end Rows
end Go.Proofs.YtdpigpopcbjkmaaGreatDoor
