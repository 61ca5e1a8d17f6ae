/-
  DERIVED. GIVEN WITH THE SEED: THE CARDS: each row of YtbmeoklmachjpaaDoorRows.lean that lists a variable, with what it lists TIED to the program's text (the seventh form; the later family's looks); each row that meets fmt, with fmt's text TOLD by the authors' own Lean function (tested against real Go, not proved from fmt's source: count such statements apart). THE CARD IS WHAT COUNTS. Prove the row's statement (the work); the ties are given (YtbmeoklmachjpaaDoorTie.lean); close each card by the builder's one call (the guide's Derived/Test/ToyasCard.lean, 'card_holds'). Laid BY PROGRAM, IN A SANDBOX (cutbox-door.mjs). By AI agents, Wed Nov 11 2026. No macro, syntax, notation, axiom, sorry.
-/
import Derived.Test.YtbmeoklmachjpaaDoorRows
import GoSem.ClaimSeven
namespace Go.Proofs.YtbmeoklmachjpaaDoor
namespace Rows

/-- THE TIED CARD OF 'heartwoodlaw15.VmIdle'. -/
def vmIdleCard : Claim7 := { stood := { row := vmIdleRow, standIns := [], harness := (true, "4ec0da3914aa9fce82da44d4817cd124dc72317122a56cdc1f2b4d370cc33cc2"), looks := true }, kinds := [], alts := [], laidByText := true, laidKinds := [.data, .listed, .data], laidTests := true, laidLooks := .later }
def VmIdleCardSaid : Prop := Claim7.holds Tryd.pinned (.plain (OpenSpec.ofChange vmIdleSpec)) vmIdleCard

/-- THE TIED CARD OF 'heartwoodlaw15.VmFuel'. -/
def vmFuelCard : Claim7 := { stood := { row := vmFuelRow, standIns := [], harness := (true, "4ec0da3914aa9fce82da44d4817cd124dc72317122a56cdc1f2b4d370cc33cc2"), looks := true }, kinds := [], alts := [], laidByText := true, laidKinds := [.data, .listed, .data], laidTests := true, laidLooks := .later }
def VmFuelCardSaid : Prop := Claim7.holds Tryd.pinned (.plain (OpenSpec.ofChange vmFuelSpec)) vmFuelCard

/-- THE SECOND FORM's CARD OF 'heartwoodlaw15.VmIdle'. -/
def vmIdleUptoCard : Claim7 := { stood := { row := vmIdleUptoRow, standIns := [], harness := (true, "4ec0da3914aa9fce82da44d4817cd124dc72317122a56cdc1f2b4d370cc33cc2"), looks := true }, kinds := [], alts := [], laidByText := true, laidKinds := [.data, .listed, .data], laidTests := true, laidLooks := .later }
def VmIdleUptoCardSaid : Prop := Claim7.holds Tryd.pinned (.plain (OpenSpec.upto vmIdleSpec)) vmIdleUptoCard

/-- THE SECOND FORM's CARD OF 'heartwoodlaw15.VmFuel'. -/
def vmFuelUptoCard : Claim7 := { stood := { row := vmFuelUptoRow, standIns := [], harness := (true, "4ec0da3914aa9fce82da44d4817cd124dc72317122a56cdc1f2b4d370cc33cc2"), looks := true }, kinds := [], alts := [], laidByText := true, laidKinds := [.data, .listed, .data], laidTests := true, laidLooks := .later }
def VmFuelUptoCardSaid : Prop := Claim7.holds Tryd.pinned (.plain (OpenSpec.upto vmFuelSpec)) vmFuelUptoCard
end Rows
end Go.Proofs.YtbmeoklmachjpaaDoor
