/-
  DERIVED. GIVEN WITH THE SEED: THE CARDS: each row of YtbmeoklmachjpaaGreatDoorRows.lean that lists a variable, with what it lists TIED to the program's text (the seventh form; the later family's looks); each row that meets fmt, with fmt's text TOLD by the authors' own Lean function (tested against real Go, not proved from fmt's source: count such statements apart). THE CARD IS WHAT COUNTS. Prove the row's statement (the work); the ties are given (YtbmeoklmachjpaaGreatDoorTie.lean); close each card by the builder's one call (the guide's Derived/Test/ToyasCard.lean, 'card_holds'). Laid BY PROGRAM, IN A SANDBOX (cutbox-door.mjs). By AI agents, Wed Nov 11 2026. No macro, syntax, notation, axiom, sorry.
-/
import Derived.Test.YtbmeoklmachjpaaGreatDoorRows
import GoSem.ClaimSeven
namespace Go.Proofs.YtbmeoklmachjpaaGreatDoor
namespace Rows

/-- THE TIED CARD OF 'heartwoodlaw15.VmStarts'. -/
def vmStartsCard : Claim7 := { stood := { row := vmStartsRow, standIns := [], harness := (true, "e31742d7d27ea6b4d94cb838d8c2a8ea10e041309f640c695e1c12487855b063"), looks := true }, kinds := [], alts := [], laidByText := true, laidKinds := [.data, .listed, .data], laidTests := true, laidLooks := .later }
def VmStartsCardSaid : Prop := Claim7.holds Tryz.pinned (.plain (OpenSpec.ofChange vmStartsSpec)) vmStartsCard

/-- THE TIED CARD OF 'heartwoodlaw15.VmNexts'. -/
def vmNextsCard : Claim7 := { stood := { row := vmNextsRow, standIns := [], harness := (true, "e31742d7d27ea6b4d94cb838d8c2a8ea10e041309f640c695e1c12487855b063"), looks := true }, kinds := [], alts := [], laidByText := true, laidKinds := [.data, .listed, .data], laidTests := true, laidLooks := .later }
def VmNextsCardSaid : Prop := Claim7.holds Tryz.pinned (.plain (OpenSpec.ofChange vmNextsSpec)) vmNextsCard

/-- THE TIED CARD OF 'heartwoodlaw15.VmRuns'. -/
def vmRunsCard : Claim7 := { stood := { row := vmRunsRow, standIns := [], harness := (true, "e31742d7d27ea6b4d94cb838d8c2a8ea10e041309f640c695e1c12487855b063"), looks := true }, kinds := [], alts := [], laidByText := true, laidKinds := [.data, .listed, .data], laidTests := true, laidLooks := .later }
def VmRunsCardSaid : Prop := Claim7.holds Tryz.pinned (.plain (OpenSpec.ofChange vmRunsSpec)) vmRunsCard

/-- THE SECOND FORM's CARD OF 'heartwoodlaw15.VmStarts'. -/
def vmStartsUptoCard : Claim7 := { stood := { row := vmStartsUptoRow, standIns := [], harness := (true, "e31742d7d27ea6b4d94cb838d8c2a8ea10e041309f640c695e1c12487855b063"), looks := true }, kinds := [], alts := [], laidByText := true, laidKinds := [.data, .listed, .data], laidTests := true, laidLooks := .later }
def VmStartsUptoCardSaid : Prop := Claim7.holds Tryz.pinned (.plain (OpenSpec.upto vmStartsSpec)) vmStartsUptoCard

/-- THE SECOND FORM's CARD OF 'heartwoodlaw15.VmNexts'. -/
def vmNextsUptoCard : Claim7 := { stood := { row := vmNextsUptoRow, standIns := [], harness := (true, "e31742d7d27ea6b4d94cb838d8c2a8ea10e041309f640c695e1c12487855b063"), looks := true }, kinds := [], alts := [], laidByText := true, laidKinds := [.data, .listed, .data], laidTests := true, laidLooks := .later }
def VmNextsUptoCardSaid : Prop := Claim7.holds Tryz.pinned (.plain (OpenSpec.upto vmNextsSpec)) vmNextsUptoCard

/-- THE SECOND FORM's CARD OF 'heartwoodlaw15.VmRuns'. -/
def vmRunsUptoCard : Claim7 := { stood := { row := vmRunsUptoRow, standIns := [], harness := (true, "e31742d7d27ea6b4d94cb838d8c2a8ea10e041309f640c695e1c12487855b063"), looks := true }, kinds := [], alts := [], laidByText := true, laidKinds := [.data, .listed, .data], laidTests := true, laidLooks := .later }
def VmRunsUptoCardSaid : Prop := Claim7.holds Tryz.pinned (.plain (OpenSpec.upto vmRunsSpec)) vmRunsUptoCard
end Rows
end Go.Proofs.YtbmeoklmachjpaaGreatDoor
