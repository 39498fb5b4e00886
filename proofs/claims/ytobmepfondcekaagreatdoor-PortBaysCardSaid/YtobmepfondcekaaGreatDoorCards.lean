/-
  DERIVED. GIVEN WITH THE SEED: THE CARDS: each row of YtobmepfondcekaaGreatDoorRows.lean that lists a variable, with what it lists TIED to the program's text (the seventh form; the later family's looks); each row that meets fmt, with fmt's text TOLD by the authors' own Lean function (tested against real Go, not proved from fmt's source: count such statements apart). THE CARD IS WHAT COUNTS. Prove the row's statement (the work); the ties are given (YtobmepfondcekaaGreatDoorTie.lean); close each card by the builder's one call (the guide's Derived/Test/ToyasCard.lean, 'card_holds'). Laid BY PROGRAM, IN A SANDBOX (cutbox-door.mjs). By AI agents, Wed Nov 11 2026. No macro, syntax, notation, axiom, sorry.
-/
import Derived.Test.YtobmepfondcekaaGreatDoorRows
import GoSem.ClaimSeven
namespace Go.Proofs.YtobmepfondcekaaGreatDoor
namespace Rows

/-- THE TIED CARD OF 'touchmarklaw09.PortNears'. -/
def portNearsCard : Claim7 := { stood := { row := portNearsRow, standIns := [], harness := (true, "a567230e4665c4a57b5bdfc57e723d3ecba9dec4d25fb3be6a8bc39afe29a9ef"), looks := false }, kinds := [], alts := [], goes := true, laidByText := true, laidKinds := [.data, .pinned], laidTests := true, laidLooks := .later }
def PortNearsCardSaid : Prop := Claim7.holds Tryz.pinned (.plain (OpenSpec.ofChange portNearsSpec)) portNearsCard

/-- THE TIED CARD OF 'touchmarklaw09.PortHolds'. -/
def portHoldsCard : Claim7 := { stood := { row := portHoldsRow, standIns := [], harness := (true, "a567230e4665c4a57b5bdfc57e723d3ecba9dec4d25fb3be6a8bc39afe29a9ef"), looks := false }, kinds := [], alts := [], goes := true, laidByText := true, laidKinds := [.data, .pinned], laidTests := true, laidLooks := .later }
def PortHoldsCardSaid : Prop := Claim7.holds Tryz.pinned (.plain (OpenSpec.ofChange portHoldsSpec)) portHoldsCard

/-- THE TIED CARD OF 'touchmarklaw09.PortAsks'. -/
def portAsksCard : Claim7 := { stood := { row := portAsksRow, standIns := [], harness := (true, "a567230e4665c4a57b5bdfc57e723d3ecba9dec4d25fb3be6a8bc39afe29a9ef"), looks := false }, kinds := [], alts := [], goes := true, laidByText := true, laidKinds := [.data, .pinned], laidTests := true, laidLooks := .later }
def PortAsksCardSaid : Prop := Claim7.holds Tryz.pinned (.plain (OpenSpec.ofChange portAsksSpec)) portAsksCard

/-- THE TIED CARD OF 'touchmarklaw09.PortTrue'. -/
def portTrueCard : Claim7 := { stood := { row := portTrueRow, standIns := [], harness := (true, "a567230e4665c4a57b5bdfc57e723d3ecba9dec4d25fb3be6a8bc39afe29a9ef"), looks := false }, kinds := [], alts := [], goes := true, laidByText := true, laidKinds := [.data, .pinned], laidTests := true, laidLooks := .later }
def PortTrueCardSaid : Prop := Claim7.holds Tryz.pinned (.plain (OpenSpec.ofChange portTrueSpec)) portTrueCard

/-- THE TIED CARD OF 'touchmarklaw09.PortReached'. -/
def portReachedCard : Claim7 := { stood := { row := portReachedRow, standIns := [], harness := (true, "a567230e4665c4a57b5bdfc57e723d3ecba9dec4d25fb3be6a8bc39afe29a9ef"), looks := false }, kinds := [], alts := [], goes := true, laidByText := true, laidKinds := [.data, .pinned], laidTests := true, laidLooks := .later }
def PortReachedCardSaid : Prop := Claim7.holds Tryz.pinned (.plain (OpenSpec.ofChange portReachedSpec)) portReachedCard

/-- THE TIED CARD OF 'touchmarklaw09.PortSettled'. -/
def portSettledCard : Claim7 := { stood := { row := portSettledRow, standIns := [], harness := (true, "a567230e4665c4a57b5bdfc57e723d3ecba9dec4d25fb3be6a8bc39afe29a9ef"), looks := false }, kinds := [], alts := [], goes := true, laidByText := true, laidKinds := [.data, .pinned], laidTests := true, laidLooks := .later }
def PortSettledCardSaid : Prop := Claim7.holds Tryz.pinned (.plain (OpenSpec.ofChange portSettledSpec)) portSettledCard

/-- THE TIED CARD OF 'touchmarklaw09.PortNotes'. -/
def portNotesCard : Claim7 := { stood := { row := portNotesRow, standIns := [], harness := (true, "a567230e4665c4a57b5bdfc57e723d3ecba9dec4d25fb3be6a8bc39afe29a9ef"), looks := false }, kinds := [], alts := [], goes := true, laidByText := true, laidKinds := [.data, .pinned], laidTests := true, laidLooks := .later }
def PortNotesCardSaid : Prop := Claim7.holds Tryz.pinned (.plain (OpenSpec.ofChange portNotesSpec)) portNotesCard

/-- THE TIED CARD OF 'touchmarklaw09.PortOnly'. -/
def portOnlyCard : Claim7 := { stood := { row := portOnlyRow, standIns := [], harness := (true, "a567230e4665c4a57b5bdfc57e723d3ecba9dec4d25fb3be6a8bc39afe29a9ef"), looks := false }, kinds := [], alts := [], goes := true, laidByText := true, laidKinds := [.data, .pinned], laidTests := true, laidLooks := .later }
def PortOnlyCardSaid : Prop := Claim7.holds Tryz.pinned (.plain (OpenSpec.ofChange portOnlySpec)) portOnlyCard

/-- THE TIED CARD OF 'touchmarklaw09.PortAnyOrder'. -/
def portAnyOrderCard : Claim7 := { stood := { row := portAnyOrderRow, standIns := [], harness := (true, "a567230e4665c4a57b5bdfc57e723d3ecba9dec4d25fb3be6a8bc39afe29a9ef"), looks := false }, kinds := [], alts := [], goes := true, laidByText := true, laidKinds := [.data, .pinned], laidTests := true, laidLooks := .later }
def PortAnyOrderCardSaid : Prop := Claim7.holds Tryz.pinned (.plain (OpenSpec.ofChange portAnyOrderSpec)) portAnyOrderCard

/-- THE TIED CARD OF 'touchmarklaw09.PortAsked'. -/
def portAskedCard : Claim7 := { stood := { row := portAskedRow, standIns := [], harness := (true, "a567230e4665c4a57b5bdfc57e723d3ecba9dec4d25fb3be6a8bc39afe29a9ef"), looks := false }, kinds := [], alts := [], goes := true, laidByText := true, laidKinds := [.data, .pinned], laidTests := true, laidLooks := .later }
def PortAskedCardSaid : Prop := Claim7.holds Tryz.pinned (.plain (OpenSpec.ofChange portAskedSpec)) portAskedCard

/-- THE TIED CARD OF 'touchmarklaw09.PortWorst'. -/
def portWorstCard : Claim7 := { stood := { row := portWorstRow, standIns := [], harness := (true, "a567230e4665c4a57b5bdfc57e723d3ecba9dec4d25fb3be6a8bc39afe29a9ef"), looks := false }, kinds := [], alts := [], goes := true, laidByText := true, laidKinds := [.data, .pinned], laidTests := true, laidLooks := .later }
def PortWorstCardSaid : Prop := Claim7.holds Tryz.pinned (.plain (OpenSpec.ofChange portWorstSpec)) portWorstCard

/-- THE TIED CARD OF 'touchmarklaw09.PortOpened'. -/
def portOpenedCard : Claim7 := { stood := { row := portOpenedRow, standIns := [], harness := (true, "a567230e4665c4a57b5bdfc57e723d3ecba9dec4d25fb3be6a8bc39afe29a9ef"), looks := false }, kinds := [], alts := [], goes := true, laidByText := true, laidKinds := [.data, .pinned], laidTests := true, laidLooks := .later }
def PortOpenedCardSaid : Prop := Claim7.holds Tryz.pinned (.plain (OpenSpec.ofChange portOpenedSpec)) portOpenedCard

/-- THE TIED CARD OF 'touchmarklaw09.PortBays'. -/
def portBaysCard : Claim7 := { stood := { row := portBaysRow, standIns := [], harness := (true, "a567230e4665c4a57b5bdfc57e723d3ecba9dec4d25fb3be6a8bc39afe29a9ef"), looks := false }, kinds := [], alts := [], goes := true, laidByText := true, laidKinds := [.data, .pinned], laidTests := true, laidLooks := .later }
def PortBaysCardSaid : Prop := Claim7.holds Tryz.pinned (.plain (OpenSpec.ofChange portBaysSpec)) portBaysCard

/-- THE TIED CARD OF 'touchmarklaw09.PortBayed'. -/
def portBayedCard : Claim7 := { stood := { row := portBayedRow, standIns := [], harness := (true, "a567230e4665c4a57b5bdfc57e723d3ecba9dec4d25fb3be6a8bc39afe29a9ef"), looks := false }, kinds := [], alts := [], goes := true, laidByText := true, laidKinds := [.data, .pinned], laidTests := true, laidLooks := .later }
def PortBayedCardSaid : Prop := Claim7.holds Tryz.pinned (.plain (OpenSpec.ofChange portBayedSpec)) portBayedCard

/-- THE TIED CARD OF 'touchmarklaw09.PortProof'. -/
def portProofCard : Claim7 := { stood := { row := portProofRow, standIns := [], harness := (true, "a567230e4665c4a57b5bdfc57e723d3ecba9dec4d25fb3be6a8bc39afe29a9ef"), looks := false }, kinds := [], alts := [], goes := true, laidByText := true, laidKinds := [.data, .pinned], laidTests := true, laidLooks := .later }
def PortProofCardSaid : Prop := Claim7.holds Tryz.pinned (.plain (OpenSpec.ofChange portProofSpec)) portProofCard
end Rows
end Go.Proofs.YtobmepfondcekaaGreatDoor
