/-
  DERIVED. GIVEN WITH THE SEED: THE CARDS: each row of YtgdkddjdhijfnaaGreatDoorRows.lean that lists a variable, with what it lists TIED to the program's text (the seventh form; the later family's looks); each row that meets fmt, with fmt's text TOLD by the authors' own Lean function (tested against real Go, not proved from fmt's source: count such statements apart). THE CARD IS WHAT COUNTS. Prove the row's statement (the work); the ties are given (YtgdkddjdhijfnaaGreatDoorTie.lean); close each card by the builder's one call (the guide's Derived/Test/ToyasCard.lean, 'card_holds'). Laid BY PROGRAM, IN A SANDBOX (cutbox-door.mjs). By AI agents, Wed Nov 11 2026. No macro, syntax, notation, axiom, sorry.
-/
import Derived.Test.YtgdkddjdhijfnaaGreatDoorRows
import GoSem.ClaimSeven
namespace Go.Proofs.YtgdkddjdhijfnaaGreatDoor
namespace Rows

/-- THE TIED CARD OF 'transhiplaw19.ConvExact'. -/
def convExactCard : Claim7 := { stood := { row := convExactRow, standIns := [], harness := (true, "d21734b8bc6e99c594a5513cb6c7f1e98b23079ef6b4374bb44cc83c2fb91ceb"), looks := true }, kinds := [], alts := [], laidByText := true, laidKinds := [.data, .data, .data], laidTests := true, laidLooks := .later }
def ConvExactCardSaid : Prop := Claim7.holds Tryz.pinned (.plain (OpenSpec.ofChange convExactSpec)) convExactCard

/-- THE TIED CARD OF 'transhiplaw19.ConvTurn'. -/
def convTurnCard : Claim7 := { stood := { row := convTurnRow, standIns := [], harness := (true, "d21734b8bc6e99c594a5513cb6c7f1e98b23079ef6b4374bb44cc83c2fb91ceb"), looks := true }, kinds := [], alts := [], laidByText := true, laidKinds := [.data, .data, .data], laidTests := true, laidLooks := .later }
def ConvTurnCardSaid : Prop := Claim7.holds Tryz.pinned (.plain (OpenSpec.ofChange convTurnSpec)) convTurnCard

/-- THE TIED CARD OF 'transhiplaw19.ConvSteps'. -/
def convStepsCard : Claim7 := { stood := { row := convStepsRow, standIns := [], harness := (true, "d21734b8bc6e99c594a5513cb6c7f1e98b23079ef6b4374bb44cc83c2fb91ceb"), looks := true }, kinds := [], alts := [], laidByText := true, laidKinds := [.data, .data, .data], laidTests := true, laidLooks := .later }
def ConvStepsCardSaid : Prop := Claim7.holds Tryz.pinned (.plain (OpenSpec.ofChange convStepsSpec)) convStepsCard

/-- THE TIED CARD OF 'transhiplaw19.ConvMore'. -/
def convMoreCard : Claim7 := { stood := { row := convMoreRow, standIns := [], harness := (true, "d21734b8bc6e99c594a5513cb6c7f1e98b23079ef6b4374bb44cc83c2fb91ceb"), looks := true }, kinds := [], alts := [], laidByText := true, laidKinds := [.data, .data, .data], laidTests := true, laidLooks := .later }
def ConvMoreCardSaid : Prop := Claim7.holds Tryz.pinned (.plain (OpenSpec.ofChange convMoreSpec)) convMoreCard

/-- THE TIED CARD OF 'transhiplaw19.ConvWithin'. -/
def convWithinCard : Claim7 := { stood := { row := convWithinRow, standIns := [], harness := (true, "d21734b8bc6e99c594a5513cb6c7f1e98b23079ef6b4374bb44cc83c2fb91ceb"), looks := true }, kinds := [], alts := [], laidByText := true, laidKinds := [.data, .data, .data], laidTests := true, laidLooks := .later }
def ConvWithinCardSaid : Prop := Claim7.holds Tryz.pinned (.plain (OpenSpec.ofChange convWithinSpec)) convWithinCard

/-- THE SECOND FORM's CARD OF 'transhiplaw19.ConvExact'. -/
def convExactUptoCard : Claim7 := { stood := { row := convExactUptoRow, standIns := [], harness := (true, "d21734b8bc6e99c594a5513cb6c7f1e98b23079ef6b4374bb44cc83c2fb91ceb"), looks := true }, kinds := [], alts := [], laidByText := true, laidKinds := [.data, .data, .data], laidTests := true, laidLooks := .later }
def ConvExactUptoCardSaid : Prop := Claim7.holds Tryz.pinned (.plain (OpenSpec.upto convExactSpec)) convExactUptoCard

/-- THE SECOND FORM's CARD OF 'transhiplaw19.ConvTurn'. -/
def convTurnUptoCard : Claim7 := { stood := { row := convTurnUptoRow, standIns := [], harness := (true, "d21734b8bc6e99c594a5513cb6c7f1e98b23079ef6b4374bb44cc83c2fb91ceb"), looks := true }, kinds := [], alts := [], laidByText := true, laidKinds := [.data, .data, .data], laidTests := true, laidLooks := .later }
def ConvTurnUptoCardSaid : Prop := Claim7.holds Tryz.pinned (.plain (OpenSpec.upto convTurnSpec)) convTurnUptoCard

/-- THE SECOND FORM's CARD OF 'transhiplaw19.ConvSteps'. -/
def convStepsUptoCard : Claim7 := { stood := { row := convStepsUptoRow, standIns := [], harness := (true, "d21734b8bc6e99c594a5513cb6c7f1e98b23079ef6b4374bb44cc83c2fb91ceb"), looks := true }, kinds := [], alts := [], laidByText := true, laidKinds := [.data, .data, .data], laidTests := true, laidLooks := .later }
def ConvStepsUptoCardSaid : Prop := Claim7.holds Tryz.pinned (.plain (OpenSpec.upto convStepsSpec)) convStepsUptoCard

/-- THE SECOND FORM's CARD OF 'transhiplaw19.ConvMore'. -/
def convMoreUptoCard : Claim7 := { stood := { row := convMoreUptoRow, standIns := [], harness := (true, "d21734b8bc6e99c594a5513cb6c7f1e98b23079ef6b4374bb44cc83c2fb91ceb"), looks := true }, kinds := [], alts := [], laidByText := true, laidKinds := [.data, .data, .data], laidTests := true, laidLooks := .later }
def ConvMoreUptoCardSaid : Prop := Claim7.holds Tryz.pinned (.plain (OpenSpec.upto convMoreSpec)) convMoreUptoCard

/-- THE SECOND FORM's CARD OF 'transhiplaw19.ConvWithin'. -/
def convWithinUptoCard : Claim7 := { stood := { row := convWithinUptoRow, standIns := [], harness := (true, "d21734b8bc6e99c594a5513cb6c7f1e98b23079ef6b4374bb44cc83c2fb91ceb"), looks := true }, kinds := [], alts := [], laidByText := true, laidKinds := [.data, .data, .data], laidTests := true, laidLooks := .later }
def ConvWithinUptoCardSaid : Prop := Claim7.holds Tryz.pinned (.plain (OpenSpec.upto convWithinSpec)) convWithinUptoCard
end Rows
end Go.Proofs.YtgdkddjdhijfnaaGreatDoor
