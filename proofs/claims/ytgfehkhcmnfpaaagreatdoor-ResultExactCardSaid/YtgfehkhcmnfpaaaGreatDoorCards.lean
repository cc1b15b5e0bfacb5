/-
  DERIVED. GIVEN WITH THE SEED: THE CARDS: each row of YtgfehkhcmnfpaaaGreatDoorRows.lean that lists a variable, with what it lists TIED to the program's text (the seventh form; the later family's looks); each row that meets fmt, with fmt's text TOLD by the authors' own Lean function (tested against real Go, not proved from fmt's source: count such statements apart). THE CARD IS WHAT COUNTS. Prove the row's statement (the work); the ties are given (YtgfehkhcmnfpaaaGreatDoorTie.lean); close each card by the builder's one call (the guide's Derived/Test/ToyasCard.lean, 'card_holds'). Laid BY PROGRAM, IN A SANDBOX (cutbox-door.mjs). By AI agents, Wed Nov 11 2026. No macro, syntax, notation, axiom, sorry.
-/
import Derived.Test.YtgfehkhcmnfpaaaGreatDoorRows
import GoSem.ClaimSeven
namespace Go.Proofs.YtgfehkhcmnfpaaaGreatDoor
namespace Rows

/-- THE TIED CARD OF 'transhiplaw28.ResultExact'. -/
def resultExactCard : Claim7 := { stood := { row := resultExactRow, standIns := [], harness := (true, "374e4a22d3d6ef76d9122116f6d8c9a76f83fdb1653cea722f2f9461629091e0"), looks := true }, kinds := [], alts := [], laidByText := true, laidKinds := [.data, .data, .data], laidTests := true, laidLooks := .later }
def ResultExactCardSaid : Prop := Claim7.holds Tryz.pinned (.plain (OpenSpec.ofChange resultExactSpec)) resultExactCard

/-- THE TIED CARD OF 'transhiplaw28.ResultRead'. -/
def resultReadCard : Claim7 := { stood := { row := resultReadRow, standIns := [], harness := (true, "374e4a22d3d6ef76d9122116f6d8c9a76f83fdb1653cea722f2f9461629091e0"), looks := true }, kinds := [], alts := [], laidByText := true, laidKinds := [.data, .data, .data], laidTests := true, laidLooks := .later }
def ResultReadCardSaid : Prop := Claim7.holds Tryz.pinned (.plain (OpenSpec.ofChange resultReadSpec)) resultReadCard

/-- THE TIED CARD OF 'transhiplaw28.ResultBack'. -/
def resultBackCard : Claim7 := { stood := { row := resultBackRow, standIns := [], harness := (true, "374e4a22d3d6ef76d9122116f6d8c9a76f83fdb1653cea722f2f9461629091e0"), looks := true }, kinds := [], alts := [], laidByText := true, laidKinds := [.data, .data, .data], laidTests := true, laidLooks := .later }
def ResultBackCardSaid : Prop := Claim7.holds Tryz.pinned (.plain (OpenSpec.ofChange resultBackSpec)) resultBackCard

/-- THE TIED CARD OF 'transhiplaw28.ResultRights'. -/
def resultRightsCard : Claim7 := { stood := { row := resultRightsRow, standIns := [], harness := (true, "374e4a22d3d6ef76d9122116f6d8c9a76f83fdb1653cea722f2f9461629091e0"), looks := true }, kinds := [], alts := [], laidByText := true, laidKinds := [.data, .data, .data], laidTests := true, laidLooks := .later }
def ResultRightsCardSaid : Prop := Claim7.holds Tryz.pinned (.plain (OpenSpec.ofChange resultRightsSpec)) resultRightsCard

/-- THE SECOND FORM's CARD OF 'transhiplaw28.ResultExact'. -/
def resultExactUptoCard : Claim7 := { stood := { row := resultExactUptoRow, standIns := [], harness := (true, "374e4a22d3d6ef76d9122116f6d8c9a76f83fdb1653cea722f2f9461629091e0"), looks := true }, kinds := [], alts := [], laidByText := true, laidKinds := [.data, .data, .data], laidTests := true, laidLooks := .later }
def ResultExactUptoCardSaid : Prop := Claim7.holds Tryz.pinned (.plain (OpenSpec.upto resultExactSpec)) resultExactUptoCard

/-- THE SECOND FORM's CARD OF 'transhiplaw28.ResultRead'. -/
def resultReadUptoCard : Claim7 := { stood := { row := resultReadUptoRow, standIns := [], harness := (true, "374e4a22d3d6ef76d9122116f6d8c9a76f83fdb1653cea722f2f9461629091e0"), looks := true }, kinds := [], alts := [], laidByText := true, laidKinds := [.data, .data, .data], laidTests := true, laidLooks := .later }
def ResultReadUptoCardSaid : Prop := Claim7.holds Tryz.pinned (.plain (OpenSpec.upto resultReadSpec)) resultReadUptoCard

/-- THE SECOND FORM's CARD OF 'transhiplaw28.ResultBack'. -/
def resultBackUptoCard : Claim7 := { stood := { row := resultBackUptoRow, standIns := [], harness := (true, "374e4a22d3d6ef76d9122116f6d8c9a76f83fdb1653cea722f2f9461629091e0"), looks := true }, kinds := [], alts := [], laidByText := true, laidKinds := [.data, .data, .data], laidTests := true, laidLooks := .later }
def ResultBackUptoCardSaid : Prop := Claim7.holds Tryz.pinned (.plain (OpenSpec.upto resultBackSpec)) resultBackUptoCard

/-- THE SECOND FORM's CARD OF 'transhiplaw28.ResultRights'. -/
def resultRightsUptoCard : Claim7 := { stood := { row := resultRightsUptoRow, standIns := [], harness := (true, "374e4a22d3d6ef76d9122116f6d8c9a76f83fdb1653cea722f2f9461629091e0"), looks := true }, kinds := [], alts := [], laidByText := true, laidKinds := [.data, .data, .data], laidTests := true, laidLooks := .later }
def ResultRightsUptoCardSaid : Prop := Claim7.holds Tryz.pinned (.plain (OpenSpec.upto resultRightsSpec)) resultRightsUptoCard
end Rows
end Go.Proofs.YtgfehkhcmnfpaaaGreatDoor
