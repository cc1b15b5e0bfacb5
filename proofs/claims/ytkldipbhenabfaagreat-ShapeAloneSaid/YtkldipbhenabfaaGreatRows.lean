/-
  NARROWER THAN 'FOR EVERY INPUT', by the rows' own cells (each row's printed sentence says how): RelPacks: loops · ShapeWays: loops · ShapeAlone: loops · ShapeHeads: loops.
  DERIVED. THE GIVEN ROWS OF THIS SEAT. 4 by the template 'for every input the law returns true; each argument reads behind the call as it read before'; 0 by the template 'total and deterministic' (their statements: YtkldipbhenabfaaGreatTotals.lean).
  GIVEN WITH THE SEED: the statements are not yours to turn. If you find one false, say at which input.
  Laid BY PROGRAM, IN A SANDBOX (cutbox-rows.mjs): the forced cells as the released guide's own fill.sh prints them over the translation 20cb69a703fb2b85… (all of the seat's roots in one cut). By AI agents, Wed Nov 11 2026. No macro, syntax, notation, axiom, sorry.
-/
import Derived.Test.YtkldipbhenabfaaGreatChecked
import GoSem.Claim
import GoSem.ClaimJoined
import GoSem.ClaimMapViews
import Derived.JoinedTies
import Derived.KernelRfl
namespace Go.Proofs.YtkldipbhenabfaaGreat
/- THE CELL 'sum', in the pinned program and in every row, IS THE sha256 OF THE DUMP (.gsa) THAT YtkldipbhenabfaaGreatProg.lean LOADS. Nothing in Lean hashes anything: it is a label: what it is worth is what the hold of that sum in a sandbox is worth. -/
noncomputable def Tryz.pinned : Pinned := { name := "ytkldipbhenabfaagreat", sum := "20cb69a703fb2b854e49819bea2c988fe276bf18582b1eb9da36f61f5963cbd3", checked := Tryz.checked }
namespace Rows
def none {H : Type} : Left H := { results := [], args := [] }

/-- 'transhiplaw25.RelPacks': WHATEVER THE INPUT: true; the input reads as it did. -/
def relPacksSpec : ChangeSpec := { name := "relPacks", fn := fun _ => fun
  | [d1, d2] => { results := [.lit (.bool true)], args := [d1, d2] }
  | _ => none }
def relPacksRow : OpenClaim := { program := "ytkldipbhenabfaagreat", sum := "20cb69a703fb2b854e49819bea2c988fe276bf18582b1eb9da36f61f5963cbd3", func := "tranship/transhiplaw25.RelPacks", spec := "relPacks", unfollowed := true, recurses := true, loops := true, apart := false }
def RelPacksSaid : Prop := relPacksRow.holds Tryz.pinned (OpenSpec.ofChange relPacksSpec)

/-- ITS FALSE NEIGHBOUR: 'it returns false'. Refute it at one input. -/
def relPacksWrong : ChangeSpec := { name := "relPacks", fn := fun _ => fun
  | [d1, d2] => { results := [.lit (.bool false)], args := [d1, d2] }
  | _ => none }
def RelPacksWrongFalsely : Prop := relPacksRow.holds Tryz.pinned (OpenSpec.ofChange relPacksWrong)

/-- 'transhiplaw26.ShapeWays': WHATEVER THE INPUT: true; the input reads as it did. -/
def shapeWaysSpec : ChangeSpec := { name := "shapeWays", fn := fun _ => fun
  | [d1, d2] => { results := [.lit (.bool true)], args := [d1, d2] }
  | _ => none }
def shapeWaysRow : OpenClaim := { program := "ytkldipbhenabfaagreat", sum := "20cb69a703fb2b854e49819bea2c988fe276bf18582b1eb9da36f61f5963cbd3", func := "tranship/transhiplaw26.ShapeWays", spec := "shapeWays", unfollowed := true, recurses := true, loops := true, apart := false }
def ShapeWaysSaid : Prop := shapeWaysRow.holds Tryz.pinned (OpenSpec.ofChange shapeWaysSpec)

/-- ITS FALSE NEIGHBOUR: 'it returns false'. Refute it at one input. -/
def shapeWaysWrong : ChangeSpec := { name := "shapeWays", fn := fun _ => fun
  | [d1, d2] => { results := [.lit (.bool false)], args := [d1, d2] }
  | _ => none }
def ShapeWaysWrongFalsely : Prop := shapeWaysRow.holds Tryz.pinned (OpenSpec.ofChange shapeWaysWrong)

/-- 'transhiplaw26.ShapeAlone': WHATEVER THE INPUT: true; the input reads as it did. -/
def shapeAloneSpec : ChangeSpec := { name := "shapeAlone", fn := fun _ => fun
  | [d1, d2, d3, d4, d5] => { results := [.lit (.bool true)], args := [d1, d2, d3, d4, d5] }
  | _ => none }
def shapeAloneRow : OpenClaim := { program := "ytkldipbhenabfaagreat", sum := "20cb69a703fb2b854e49819bea2c988fe276bf18582b1eb9da36f61f5963cbd3", func := "tranship/transhiplaw26.ShapeAlone", spec := "shapeAlone", unfollowed := true, recurses := true, loops := true, apart := false }
def ShapeAloneSaid : Prop := shapeAloneRow.holds Tryz.pinned (OpenSpec.ofChange shapeAloneSpec)

/-- ITS FALSE NEIGHBOUR: 'it returns false'. Refute it at one input. -/
def shapeAloneWrong : ChangeSpec := { name := "shapeAlone", fn := fun _ => fun
  | [d1, d2, d3, d4, d5] => { results := [.lit (.bool false)], args := [d1, d2, d3, d4, d5] }
  | _ => none }
def ShapeAloneWrongFalsely : Prop := shapeAloneRow.holds Tryz.pinned (OpenSpec.ofChange shapeAloneWrong)

/-- 'transhiplaw26.ShapeHeads': WHATEVER THE INPUT: true; the input reads as it did. -/
def shapeHeadsSpec : ChangeSpec := { name := "shapeHeads", fn := fun _ => fun
  | [d] => { results := [.lit (.bool true)], args := [d] }
  | _ => none }
def shapeHeadsRow : OpenClaim := { program := "ytkldipbhenabfaagreat", sum := "20cb69a703fb2b854e49819bea2c988fe276bf18582b1eb9da36f61f5963cbd3", func := "tranship/transhiplaw26.ShapeHeads", spec := "shapeHeads", unfollowed := true, recurses := true, loops := true, apart := false }
def ShapeHeadsSaid : Prop := shapeHeadsRow.holds Tryz.pinned (OpenSpec.ofChange shapeHeadsSpec)

/-- ITS FALSE NEIGHBOUR: 'it returns false'. Refute it at one input. -/
def shapeHeadsWrong : ChangeSpec := { name := "shapeHeads", fn := fun _ => fun
  | [d] => { results := [.lit (.bool false)], args := [d] }
  | _ => none }
def ShapeHeadsWrongFalsely : Prop := shapeHeadsRow.holds Tryz.pinned (OpenSpec.ofChange shapeHeadsWrong)

/- THE SECOND FORM. 'bulk': how many values and letters a reading holds, each counted each time it is reached (what is shared counts as often as it is met; a slice's spare places count too). A statement '..UptoSaid' is the law's where the arguments, and the package variables that the reading takes, are together of bulk at most 1048576: NARROWER than '..Said'. Prove '..Said' where nothing that the law and all that it calls make is longer than what came in: it says more and counts as full. Else prove '..UptoSaid'. A law counts once. -/
mutual
def uptoBulk {H : Type} : DataW H → Nat
  | .lit (.string bytes) => bytes.length + 1
  | .lit _ => 1
  | .nil => 1
  | .ptr d => uptoBulk d + 1
  | .slice elems spare => uptoBulkAll elems + uptoBulkAll spare + 1
  | .agg parts => uptoBulkAll parts + 1
  | .iface _ d => uptoBulk d + 1
  | .map entries => uptoBulkEntries entries + 1
  | .held _ => 1
def uptoBulkAll {H : Type} : List (DataW H) → Nat
  | [] => 0
  | d :: r => uptoBulk d + uptoBulkAll r
def uptoBulkEntries {H : Type} : List (Lit × DataW H) → Nat
  | [] => 0
  | x :: r => uptoBulkEntry x + uptoBulkEntries r
def uptoBulkEntry {H : Type} : Lit × DataW H → Nat
  | (.string bytes, d) => bytes.length + uptoBulk d + 1
  | (_, d) => uptoBulk d + 1
 end
def uptoSmall : (H : Type) → List (DataW H) → Bool := fun _ ds => decide (uptoBulkAll ds ≤ 1048576)
def OpenSpec.upto (s : _root_.Go.ChangeSpec) : _root_.Go.OpenSpec := { _root_.Go.OpenSpec.ofChange s with cond := some uptoSmall }

/-- 'transhiplaw25.RelPacks', WHERE WHAT IT READS IS OF BULK AT MOST 1048576: true; the input reads as it did. -/
def relPacksUptoRow : OpenClaim := { program := "ytkldipbhenabfaagreat", sum := "20cb69a703fb2b854e49819bea2c988fe276bf18582b1eb9da36f61f5963cbd3", func := "tranship/transhiplaw25.RelPacks", spec := "relPacks", unfollowed := true, recurses := true, loops := true, apart := false, narrowed := true }
def RelPacksUptoSaid : Prop := relPacksUptoRow.holds Tryz.pinned (OpenSpec.upto relPacksSpec)

/-- 'transhiplaw26.ShapeWays', WHERE WHAT IT READS IS OF BULK AT MOST 1048576: true; the input reads as it did. -/
def shapeWaysUptoRow : OpenClaim := { program := "ytkldipbhenabfaagreat", sum := "20cb69a703fb2b854e49819bea2c988fe276bf18582b1eb9da36f61f5963cbd3", func := "tranship/transhiplaw26.ShapeWays", spec := "shapeWays", unfollowed := true, recurses := true, loops := true, apart := false, narrowed := true }
def ShapeWaysUptoSaid : Prop := shapeWaysUptoRow.holds Tryz.pinned (OpenSpec.upto shapeWaysSpec)

/-- 'transhiplaw26.ShapeAlone', WHERE WHAT IT READS IS OF BULK AT MOST 1048576: true; the input reads as it did. -/
def shapeAloneUptoRow : OpenClaim := { program := "ytkldipbhenabfaagreat", sum := "20cb69a703fb2b854e49819bea2c988fe276bf18582b1eb9da36f61f5963cbd3", func := "tranship/transhiplaw26.ShapeAlone", spec := "shapeAlone", unfollowed := true, recurses := true, loops := true, apart := false, narrowed := true }
def ShapeAloneUptoSaid : Prop := shapeAloneUptoRow.holds Tryz.pinned (OpenSpec.upto shapeAloneSpec)

/-- 'transhiplaw26.ShapeHeads', WHERE WHAT IT READS IS OF BULK AT MOST 1048576: true; the input reads as it did. -/
def shapeHeadsUptoRow : OpenClaim := { program := "ytkldipbhenabfaagreat", sum := "20cb69a703fb2b854e49819bea2c988fe276bf18582b1eb9da36f61f5963cbd3", func := "tranship/transhiplaw26.ShapeHeads", spec := "shapeHeads", unfollowed := true, recurses := true, loops := true, apart := false, narrowed := true }
def ShapeHeadsUptoSaid : Prop := shapeHeadsUptoRow.holds Tryz.pinned (OpenSpec.upto shapeHeadsSpec)

end Rows
end Go.Proofs.YtkldipbhenabfaaGreat
