/-
  DERIVED. GIVEN WITH THE SEED: THE CARDS: each row of YtcgghcicnanliaaGreatDoorRows.lean that lists a variable, with what it lists TIED to the program's text (the seventh form; the later family's looks); each row that meets fmt, with fmt's text TOLD by the authors' own Lean function (tested against real Go, not proved from fmt's source: count such statements apart). THE CARD IS WHAT COUNTS. Prove the row's statement (the work); the ties are given (YtcgghcicnanliaaGreatDoorTie.lean); close each card by the builder's one call (the guide's Derived/Test/ToyasCard.lean, 'card_holds'). Laid BY PROGRAM, IN A SANDBOX (cutbox-door.mjs). By AI agents, Wed Nov 11 2026. No macro, syntax, notation, axiom, sorry.
-/
import Derived.Test.YtcgghcicnanliaaGreatDoorRows
import GoSem.ClaimSeven
namespace Go.Proofs.YtcgghcicnanliaaGreatDoor
namespace Rows

/-- THE TIED CARD OF 'landfalllaw21.SenseMatchesReference'. -/
def senseMatchesReferenceCard : Claim7 := { stood := { row := senseMatchesReferenceRow, standIns := [], harness := (true, "5d7ee8c626d824a57c1c5bead1643e2d6b7ed6dc484a12811bbb17dae0eb4e11"), looks := true }, kinds := [], alts := [], goes := true, laidByText := true, laidKinds := [.data], laidTests := true, laidLooks := .later }
def SenseMatchesReferenceCardSaid : Prop := Claim7.holds Tryz.pinned (.plain (OpenSpec.ofChange senseMatchesReferenceSpec)) senseMatchesReferenceCard

/-- THE TIED CARD OF 'landfalllaw21.SenseKeeps'. -/
def senseKeepsCard : Claim7 := { stood := { row := senseKeepsRow, standIns := [], harness := (true, "5d7ee8c626d824a57c1c5bead1643e2d6b7ed6dc484a12811bbb17dae0eb4e11"), looks := true }, kinds := [], alts := [], goes := true, laidByText := true, laidKinds := [.data], laidTests := true, laidLooks := .later }
def SenseKeepsCardSaid : Prop := Claim7.holds Tryz.pinned (.plain (OpenSpec.ofChange senseKeepsSpec)) senseKeepsCard

/-- THE TIED CARD OF 'landfalllaw21.SenseGiven'. -/
def senseGivenCard : Claim7 := { stood := { row := senseGivenRow, standIns := [], harness := (true, "5d7ee8c626d824a57c1c5bead1643e2d6b7ed6dc484a12811bbb17dae0eb4e11"), looks := true }, kinds := [], alts := [], goes := true, laidByText := true, laidKinds := [.data], laidTests := true, laidLooks := .later }
def SenseGivenCardSaid : Prop := Claim7.holds Tryz.pinned (.plain (OpenSpec.ofChange senseGivenSpec)) senseGivenCard

/-- THE TIED CARD OF 'landfalllaw21.SenseWithin'. -/
def senseWithinCard : Claim7 := { stood := { row := senseWithinRow, standIns := [], harness := (true, "5d7ee8c626d824a57c1c5bead1643e2d6b7ed6dc484a12811bbb17dae0eb4e11"), looks := true }, kinds := [], alts := [], goes := true, laidByText := true, laidKinds := [.data], laidTests := true, laidLooks := .later }
def SenseWithinCardSaid : Prop := Claim7.holds Tryz.pinned (.plain (OpenSpec.ofChange senseWithinSpec)) senseWithinCard

/-- THE TIED CARD OF 'landfalllaw21.SenseWider'. -/
def senseWiderCard : Claim7 := { stood := { row := senseWiderRow, standIns := [], harness := (true, "5d7ee8c626d824a57c1c5bead1643e2d6b7ed6dc484a12811bbb17dae0eb4e11"), looks := true }, kinds := [], alts := [], goes := true, laidByText := true, laidKinds := [.data], laidTests := true, laidLooks := .later }
def SenseWiderCardSaid : Prop := Claim7.holds Tryz.pinned (.plain (OpenSpec.ofChange senseWiderSpec)) senseWiderCard

/-- THE TIED CARD OF 'landfalllaw21.SenseNoPart'. -/
def senseNoPartCard : Claim7 := { stood := { row := senseNoPartRow, standIns := [], harness := (true, "5d7ee8c626d824a57c1c5bead1643e2d6b7ed6dc484a12811bbb17dae0eb4e11"), looks := true }, kinds := [], alts := [], goes := true, laidByText := true, laidKinds := [.data], laidTests := true, laidLooks := .later }
def SenseNoPartCardSaid : Prop := Claim7.holds Tryz.pinned (.plain (OpenSpec.ofChange senseNoPartSpec)) senseNoPartCard
end Rows
end Go.Proofs.YtcgghcicnanliaaGreatDoor
