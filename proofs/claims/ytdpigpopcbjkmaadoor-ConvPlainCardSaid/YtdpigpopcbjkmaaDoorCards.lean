/-
  DERIVED. GIVEN WITH THE SEED: THE CARDS: each row of YtdpigpopcbjkmaaDoorRows.lean that lists a variable, with what it lists TIED to the program's text (the seventh form; the later family's looks); each row that meets fmt, with fmt's text TOLD by the authors' own Lean function (tested against real Go, not proved from fmt's source: count such statements apart). THE CARD IS WHAT COUNTS. Prove the row's statement (the work); the ties are given (YtdpigpopcbjkmaaDoorTie.lean); close each card by the builder's one call (the guide's Derived/Test/ToyasCard.lean, 'card_holds'). Laid BY PROGRAM, IN A SANDBOX (cutbox-door.mjs). By AI agents, Wed Nov 11 2026. No macro, syntax, notation, axiom, sorry.
-/
import Derived.Test.YtdpigpopcbjkmaaDoorRows
import GoSem.ClaimSeven
namespace Go.Proofs.YtdpigpopcbjkmaaDoor
namespace Rows

/-- THE TIED CARD OF 'transhiplaw18.NormPlain'. -/
def normPlainCard : Claim7 := { stood := { row := normPlainRow, standIns := [], harness := (true, "ad87d7bcd1b996e6f876595ed34111e8f6a52ca2473d33a490076449fe6b9d07"), looks := true }, kinds := [], alts := [], laidByText := true, laidKinds := [.data, .data, .data], laidTests := true, laidLooks := .later }
def NormPlainCardSaid : Prop := Claim7.holds Tryd.pinned (.plain (OpenSpec.ofChange normPlainSpec)) normPlainCard

/-- THE TIED CARD OF 'transhiplaw19.ConvPlain'. -/
def convPlainCard : Claim7 := { stood := { row := convPlainRow, standIns := [], harness := (true, "ad87d7bcd1b996e6f876595ed34111e8f6a52ca2473d33a490076449fe6b9d07"), looks := true }, kinds := [], alts := [], laidByText := true, laidKinds := [.data, .data, .data], laidTests := true, laidLooks := .later }
def ConvPlainCardSaid : Prop := Claim7.holds Tryd.pinned (.plain (OpenSpec.ofChange convPlainSpec)) convPlainCard

/-- THE SECOND FORM's CARD OF 'transhiplaw18.NormPlain'. -/
def normPlainUptoCard : Claim7 := { stood := { row := normPlainUptoRow, standIns := [], harness := (true, "ad87d7bcd1b996e6f876595ed34111e8f6a52ca2473d33a490076449fe6b9d07"), looks := true }, kinds := [], alts := [], laidByText := true, laidKinds := [.data, .data, .data], laidTests := true, laidLooks := .later }
def NormPlainUptoCardSaid : Prop := Claim7.holds Tryd.pinned (.plain (OpenSpec.upto normPlainSpec)) normPlainUptoCard

/-- THE SECOND FORM's CARD OF 'transhiplaw19.ConvPlain'. -/
def convPlainUptoCard : Claim7 := { stood := { row := convPlainUptoRow, standIns := [], harness := (true, "ad87d7bcd1b996e6f876595ed34111e8f6a52ca2473d33a490076449fe6b9d07"), looks := true }, kinds := [], alts := [], laidByText := true, laidKinds := [.data, .data, .data], laidTests := true, laidLooks := .later }
def ConvPlainUptoCardSaid : Prop := Claim7.holds Tryd.pinned (.plain (OpenSpec.upto convPlainSpec)) convPlainUptoCard
end Rows
end Go.Proofs.YtdpigpopcbjkmaaDoor
