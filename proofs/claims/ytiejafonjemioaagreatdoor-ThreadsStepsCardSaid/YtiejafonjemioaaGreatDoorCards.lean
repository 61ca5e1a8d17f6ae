/-
  DERIVED. GIVEN WITH THE SEED: THE CARDS: each row of YtiejafonjemioaaGreatDoorRows.lean that lists a variable, with what it lists TIED to the program's text (the seventh form; the later family's looks); each row that meets fmt, with fmt's text TOLD by the authors' own Lean function (tested against real Go, not proved from fmt's source: count such statements apart). THE CARD IS WHAT COUNTS. Prove the row's statement (the work); the ties are given (YtiejafonjemioaaGreatDoorTie.lean); close each card by the builder's one call (the guide's Derived/Test/ToyasCard.lean, 'card_holds'). Laid BY PROGRAM, IN A SANDBOX (cutbox-door.mjs). By AI agents, Wed Nov 11 2026. No macro, syntax, notation, axiom, sorry.
-/
import Derived.Test.YtiejafonjemioaaGreatDoorRows
import GoSem.ClaimSeven
namespace Go.Proofs.YtiejafonjemioaaGreatDoor
namespace Rows

/-- THE TIED CARD OF 'heartwoodlaw45.ThreadsBegin'. -/
def threadsBeginCard : Claim7 := { stood := { row := threadsBeginRow, standIns := [], harness := (true, "859a644b704b58b5c31194678d66ea2c7fccdfa8e9a2d096555c86d39e46c9a7"), looks := true }, kinds := [], alts := [], laidByText := true, laidKinds := [.data, .listed, .data], laidTests := true, laidLooks := .later }
def ThreadsBeginCardSaid : Prop := Claim7.holds Tryz.pinned (.plain (OpenSpec.ofChange threadsBeginSpec)) threadsBeginCard

/-- THE TIED CARD OF 'heartwoodlaw45.ThreadsSteps'. -/
def threadsStepsCard : Claim7 := { stood := { row := threadsStepsRow, standIns := [], harness := (true, "859a644b704b58b5c31194678d66ea2c7fccdfa8e9a2d096555c86d39e46c9a7"), looks := true }, kinds := [], alts := [], laidByText := true, laidKinds := [.data, .listed, .data], laidTests := true, laidLooks := .later }
def ThreadsStepsCardSaid : Prop := Claim7.holds Tryz.pinned (.plain (OpenSpec.ofChange threadsStepsSpec)) threadsStepsCard

/-- THE TIED CARD OF 'heartwoodlaw45.ThreadsTimes'. -/
def threadsTimesCard : Claim7 := { stood := { row := threadsTimesRow, standIns := [], harness := (true, "859a644b704b58b5c31194678d66ea2c7fccdfa8e9a2d096555c86d39e46c9a7"), looks := true }, kinds := [], alts := [], laidByText := true, laidKinds := [.data, .listed, .data], laidTests := true, laidLooks := .later }
def ThreadsTimesCardSaid : Prop := Claim7.holds Tryz.pinned (.plain (OpenSpec.ofChange threadsTimesSpec)) threadsTimesCard

/-- THE TIED CARD OF 'heartwoodlaw45.ThreadsAlone'. -/
def threadsAloneCard : Claim7 := { stood := { row := threadsAloneRow, standIns := [], harness := (true, "859a644b704b58b5c31194678d66ea2c7fccdfa8e9a2d096555c86d39e46c9a7"), looks := true }, kinds := [], alts := [], laidByText := true, laidKinds := [.data, .listed, .data], laidTests := true, laidLooks := .later }
def ThreadsAloneCardSaid : Prop := Claim7.holds Tryz.pinned (.plain (OpenSpec.ofChange threadsAloneSpec)) threadsAloneCard

/-- THE SECOND FORM's CARD OF 'heartwoodlaw45.ThreadsBegin'. -/
def threadsBeginUptoCard : Claim7 := { stood := { row := threadsBeginUptoRow, standIns := [], harness := (true, "859a644b704b58b5c31194678d66ea2c7fccdfa8e9a2d096555c86d39e46c9a7"), looks := true }, kinds := [], alts := [], laidByText := true, laidKinds := [.data, .listed, .data], laidTests := true, laidLooks := .later }
def ThreadsBeginUptoCardSaid : Prop := Claim7.holds Tryz.pinned (.plain (OpenSpec.upto threadsBeginSpec)) threadsBeginUptoCard

/-- THE SECOND FORM's CARD OF 'heartwoodlaw45.ThreadsSteps'. -/
def threadsStepsUptoCard : Claim7 := { stood := { row := threadsStepsUptoRow, standIns := [], harness := (true, "859a644b704b58b5c31194678d66ea2c7fccdfa8e9a2d096555c86d39e46c9a7"), looks := true }, kinds := [], alts := [], laidByText := true, laidKinds := [.data, .listed, .data], laidTests := true, laidLooks := .later }
def ThreadsStepsUptoCardSaid : Prop := Claim7.holds Tryz.pinned (.plain (OpenSpec.upto threadsStepsSpec)) threadsStepsUptoCard

/-- THE SECOND FORM's CARD OF 'heartwoodlaw45.ThreadsTimes'. -/
def threadsTimesUptoCard : Claim7 := { stood := { row := threadsTimesUptoRow, standIns := [], harness := (true, "859a644b704b58b5c31194678d66ea2c7fccdfa8e9a2d096555c86d39e46c9a7"), looks := true }, kinds := [], alts := [], laidByText := true, laidKinds := [.data, .listed, .data], laidTests := true, laidLooks := .later }
def ThreadsTimesUptoCardSaid : Prop := Claim7.holds Tryz.pinned (.plain (OpenSpec.upto threadsTimesSpec)) threadsTimesUptoCard

/-- THE SECOND FORM's CARD OF 'heartwoodlaw45.ThreadsAlone'. -/
def threadsAloneUptoCard : Claim7 := { stood := { row := threadsAloneUptoRow, standIns := [], harness := (true, "859a644b704b58b5c31194678d66ea2c7fccdfa8e9a2d096555c86d39e46c9a7"), looks := true }, kinds := [], alts := [], laidByText := true, laidKinds := [.data, .listed, .data], laidTests := true, laidLooks := .later }
def ThreadsAloneUptoCardSaid : Prop := Claim7.holds Tryz.pinned (.plain (OpenSpec.upto threadsAloneSpec)) threadsAloneUptoCard
end Rows
end Go.Proofs.YtiejafonjemioaaGreatDoor
