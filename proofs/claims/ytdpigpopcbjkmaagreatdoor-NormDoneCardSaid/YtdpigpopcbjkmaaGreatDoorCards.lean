/-
  DERIVED. GIVEN WITH THE SEED: THE CARDS: each row of YtdpigpopcbjkmaaGreatDoorRows.lean that lists a variable, with what it lists TIED to the program's text (the seventh form; the later family's looks); each row that meets fmt, with fmt's text TOLD by the authors' own Lean function (tested against real Go, not proved from fmt's source: count such statements apart). THE CARD IS WHAT COUNTS. Prove the row's statement (the work); the ties are given (YtdpigpopcbjkmaaGreatDoorTie.lean); close each card by the builder's one call (the guide's Derived/Test/ToyasCard.lean, 'card_holds'). Laid BY PROGRAM, IN A SANDBOX (cutbox-door.mjs). By AI agents, Wed Nov 11 2026. No macro, syntax, notation, axiom, sorry.
-/
import Derived.Test.YtdpigpopcbjkmaaGreatDoorRows
import GoSem.ClaimSeven
namespace Go.Proofs.YtdpigpopcbjkmaaGreatDoor
namespace Rows

/-- THE TIED CARD OF 'transhiplaw18.NormExact'. -/
def normExactCard : Claim7 := { stood := { row := normExactRow, standIns := [], harness := (true, "0aff3fcd6ed8f90a429ee624abfe0c5c5b0d0751f35272b2bb42415acb0ac5ce"), looks := true }, kinds := [], alts := [], laidByText := true, laidKinds := [.data, .data, .data], laidTests := true, laidLooks := .later }
def NormExactCardSaid : Prop := Claim7.holds Tryz.pinned (.plain (OpenSpec.ofChange normExactSpec)) normExactCard

/-- THE TIED CARD OF 'transhiplaw18.HeadExact'. -/
def headExactCard : Claim7 := { stood := { row := headExactRow, standIns := [], harness := (true, "0aff3fcd6ed8f90a429ee624abfe0c5c5b0d0751f35272b2bb42415acb0ac5ce"), looks := true }, kinds := [], alts := [], laidByText := true, laidKinds := [.data, .data, .data], laidTests := true, laidLooks := .later }
def HeadExactCardSaid : Prop := Claim7.holds Tryz.pinned (.plain (OpenSpec.ofChange headExactSpec)) headExactCard

/-- THE TIED CARD OF 'transhiplaw18.NormDone'. -/
def normDoneCard : Claim7 := { stood := { row := normDoneRow, standIns := [], harness := (true, "0aff3fcd6ed8f90a429ee624abfe0c5c5b0d0751f35272b2bb42415acb0ac5ce"), looks := true }, kinds := [], alts := [], laidByText := true, laidKinds := [.data, .data, .data], laidTests := true, laidLooks := .later }
def NormDoneCardSaid : Prop := Claim7.holds Tryz.pinned (.plain (OpenSpec.ofChange normDoneSpec)) normDoneCard

/-- THE TIED CARD OF 'transhiplaw18.NormMore'. -/
def normMoreCard : Claim7 := { stood := { row := normMoreRow, standIns := [], harness := (true, "0aff3fcd6ed8f90a429ee624abfe0c5c5b0d0751f35272b2bb42415acb0ac5ce"), looks := true }, kinds := [], alts := [], laidByText := true, laidKinds := [.data, .data, .data], laidTests := true, laidLooks := .later }
def NormMoreCardSaid : Prop := Claim7.holds Tryz.pinned (.plain (OpenSpec.ofChange normMoreSpec)) normMoreCard

/-- THE TIED CARD OF 'transhiplaw18.NormHead'. -/
def normHeadCard : Claim7 := { stood := { row := normHeadRow, standIns := [], harness := (true, "0aff3fcd6ed8f90a429ee624abfe0c5c5b0d0751f35272b2bb42415acb0ac5ce"), looks := true }, kinds := [], alts := [], laidByText := true, laidKinds := [.data, .data, .data], laidTests := true, laidLooks := .later }
def NormHeadCardSaid : Prop := Claim7.holds Tryz.pinned (.plain (OpenSpec.ofChange normHeadSpec)) normHeadCard

/-- THE TIED CARD OF 'transhiplaw18.NormOrder'. -/
def normOrderCard : Claim7 := { stood := { row := normOrderRow, standIns := [], harness := (true, "0aff3fcd6ed8f90a429ee624abfe0c5c5b0d0751f35272b2bb42415acb0ac5ce"), looks := true }, kinds := [], alts := [], laidByText := true, laidKinds := [.data, .data, .data], laidTests := true, laidLooks := .later }
def NormOrderCardSaid : Prop := Claim7.holds Tryz.pinned (.plain (OpenSpec.ofChange normOrderSpec)) normOrderCard

/-- THE TIED CARD OF 'transhiplaw19.ConvExact'. -/
def convExactCard : Claim7 := { stood := { row := convExactRow, standIns := [], harness := (true, "0aff3fcd6ed8f90a429ee624abfe0c5c5b0d0751f35272b2bb42415acb0ac5ce"), looks := true }, kinds := [], alts := [], laidByText := true, laidKinds := [.data, .data, .data], laidTests := true, laidLooks := .later }
def ConvExactCardSaid : Prop := Claim7.holds Tryz.pinned (.plain (OpenSpec.ofChange convExactSpec)) convExactCard

/-- THE TIED CARD OF 'transhiplaw19.ConvTurn'. -/
def convTurnCard : Claim7 := { stood := { row := convTurnRow, standIns := [], harness := (true, "0aff3fcd6ed8f90a429ee624abfe0c5c5b0d0751f35272b2bb42415acb0ac5ce"), looks := true }, kinds := [], alts := [], laidByText := true, laidKinds := [.data, .data, .data], laidTests := true, laidLooks := .later }
def ConvTurnCardSaid : Prop := Claim7.holds Tryz.pinned (.plain (OpenSpec.ofChange convTurnSpec)) convTurnCard

/-- THE TIED CARD OF 'transhiplaw19.ConvSteps'. -/
def convStepsCard : Claim7 := { stood := { row := convStepsRow, standIns := [], harness := (true, "0aff3fcd6ed8f90a429ee624abfe0c5c5b0d0751f35272b2bb42415acb0ac5ce"), looks := true }, kinds := [], alts := [], laidByText := true, laidKinds := [.data, .data, .data], laidTests := true, laidLooks := .later }
def ConvStepsCardSaid : Prop := Claim7.holds Tryz.pinned (.plain (OpenSpec.ofChange convStepsSpec)) convStepsCard

/-- THE TIED CARD OF 'transhiplaw19.ConvMore'. -/
def convMoreCard : Claim7 := { stood := { row := convMoreRow, standIns := [], harness := (true, "0aff3fcd6ed8f90a429ee624abfe0c5c5b0d0751f35272b2bb42415acb0ac5ce"), looks := true }, kinds := [], alts := [], laidByText := true, laidKinds := [.data, .data, .data], laidTests := true, laidLooks := .later }
def ConvMoreCardSaid : Prop := Claim7.holds Tryz.pinned (.plain (OpenSpec.ofChange convMoreSpec)) convMoreCard

/-- THE SECOND FORM's CARD OF 'transhiplaw18.NormExact'. -/
def normExactUptoCard : Claim7 := { stood := { row := normExactUptoRow, standIns := [], harness := (true, "0aff3fcd6ed8f90a429ee624abfe0c5c5b0d0751f35272b2bb42415acb0ac5ce"), looks := true }, kinds := [], alts := [], laidByText := true, laidKinds := [.data, .data, .data], laidTests := true, laidLooks := .later }
def NormExactUptoCardSaid : Prop := Claim7.holds Tryz.pinned (.plain (OpenSpec.upto normExactSpec)) normExactUptoCard

/-- THE SECOND FORM's CARD OF 'transhiplaw18.HeadExact'. -/
def headExactUptoCard : Claim7 := { stood := { row := headExactUptoRow, standIns := [], harness := (true, "0aff3fcd6ed8f90a429ee624abfe0c5c5b0d0751f35272b2bb42415acb0ac5ce"), looks := true }, kinds := [], alts := [], laidByText := true, laidKinds := [.data, .data, .data], laidTests := true, laidLooks := .later }
def HeadExactUptoCardSaid : Prop := Claim7.holds Tryz.pinned (.plain (OpenSpec.upto headExactSpec)) headExactUptoCard

/-- THE SECOND FORM's CARD OF 'transhiplaw18.NormDone'. -/
def normDoneUptoCard : Claim7 := { stood := { row := normDoneUptoRow, standIns := [], harness := (true, "0aff3fcd6ed8f90a429ee624abfe0c5c5b0d0751f35272b2bb42415acb0ac5ce"), looks := true }, kinds := [], alts := [], laidByText := true, laidKinds := [.data, .data, .data], laidTests := true, laidLooks := .later }
def NormDoneUptoCardSaid : Prop := Claim7.holds Tryz.pinned (.plain (OpenSpec.upto normDoneSpec)) normDoneUptoCard

/-- THE SECOND FORM's CARD OF 'transhiplaw18.NormMore'. -/
def normMoreUptoCard : Claim7 := { stood := { row := normMoreUptoRow, standIns := [], harness := (true, "0aff3fcd6ed8f90a429ee624abfe0c5c5b0d0751f35272b2bb42415acb0ac5ce"), looks := true }, kinds := [], alts := [], laidByText := true, laidKinds := [.data, .data, .data], laidTests := true, laidLooks := .later }
def NormMoreUptoCardSaid : Prop := Claim7.holds Tryz.pinned (.plain (OpenSpec.upto normMoreSpec)) normMoreUptoCard

/-- THE SECOND FORM's CARD OF 'transhiplaw18.NormHead'. -/
def normHeadUptoCard : Claim7 := { stood := { row := normHeadUptoRow, standIns := [], harness := (true, "0aff3fcd6ed8f90a429ee624abfe0c5c5b0d0751f35272b2bb42415acb0ac5ce"), looks := true }, kinds := [], alts := [], laidByText := true, laidKinds := [.data, .data, .data], laidTests := true, laidLooks := .later }
def NormHeadUptoCardSaid : Prop := Claim7.holds Tryz.pinned (.plain (OpenSpec.upto normHeadSpec)) normHeadUptoCard

/-- THE SECOND FORM's CARD OF 'transhiplaw18.NormOrder'. -/
def normOrderUptoCard : Claim7 := { stood := { row := normOrderUptoRow, standIns := [], harness := (true, "0aff3fcd6ed8f90a429ee624abfe0c5c5b0d0751f35272b2bb42415acb0ac5ce"), looks := true }, kinds := [], alts := [], laidByText := true, laidKinds := [.data, .data, .data], laidTests := true, laidLooks := .later }
def NormOrderUptoCardSaid : Prop := Claim7.holds Tryz.pinned (.plain (OpenSpec.upto normOrderSpec)) normOrderUptoCard

/-- THE SECOND FORM's CARD OF 'transhiplaw19.ConvExact'. -/
def convExactUptoCard : Claim7 := { stood := { row := convExactUptoRow, standIns := [], harness := (true, "0aff3fcd6ed8f90a429ee624abfe0c5c5b0d0751f35272b2bb42415acb0ac5ce"), looks := true }, kinds := [], alts := [], laidByText := true, laidKinds := [.data, .data, .data], laidTests := true, laidLooks := .later }
def ConvExactUptoCardSaid : Prop := Claim7.holds Tryz.pinned (.plain (OpenSpec.upto convExactSpec)) convExactUptoCard

/-- THE SECOND FORM's CARD OF 'transhiplaw19.ConvTurn'. -/
def convTurnUptoCard : Claim7 := { stood := { row := convTurnUptoRow, standIns := [], harness := (true, "0aff3fcd6ed8f90a429ee624abfe0c5c5b0d0751f35272b2bb42415acb0ac5ce"), looks := true }, kinds := [], alts := [], laidByText := true, laidKinds := [.data, .data, .data], laidTests := true, laidLooks := .later }
def ConvTurnUptoCardSaid : Prop := Claim7.holds Tryz.pinned (.plain (OpenSpec.upto convTurnSpec)) convTurnUptoCard

/-- THE SECOND FORM's CARD OF 'transhiplaw19.ConvSteps'. -/
def convStepsUptoCard : Claim7 := { stood := { row := convStepsUptoRow, standIns := [], harness := (true, "0aff3fcd6ed8f90a429ee624abfe0c5c5b0d0751f35272b2bb42415acb0ac5ce"), looks := true }, kinds := [], alts := [], laidByText := true, laidKinds := [.data, .data, .data], laidTests := true, laidLooks := .later }
def ConvStepsUptoCardSaid : Prop := Claim7.holds Tryz.pinned (.plain (OpenSpec.upto convStepsSpec)) convStepsUptoCard

/-- THE SECOND FORM's CARD OF 'transhiplaw19.ConvMore'. -/
def convMoreUptoCard : Claim7 := { stood := { row := convMoreUptoRow, standIns := [], harness := (true, "0aff3fcd6ed8f90a429ee624abfe0c5c5b0d0751f35272b2bb42415acb0ac5ce"), looks := true }, kinds := [], alts := [], laidByText := true, laidKinds := [.data, .data, .data], laidTests := true, laidLooks := .later }
def ConvMoreUptoCardSaid : Prop := Claim7.holds Tryz.pinned (.plain (OpenSpec.upto convMoreSpec)) convMoreUptoCard
end Rows
end Go.Proofs.YtdpigpopcbjkmaaGreatDoor
