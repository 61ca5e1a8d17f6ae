/-
  DERIVED. GIVEN WITH THE SEED: THE CARDS: each row of YtigbfkiddlhhjaaGreatDoorRows.lean that lists a variable, with what it lists TIED to the program's text (the seventh form; the later family's looks); each row that meets fmt, with fmt's text TOLD by the authors' own Lean function (tested against real Go, not proved from fmt's source: count such statements apart). THE CARD IS WHAT COUNTS. Prove the row's statement (the work); the ties are given (YtigbfkiddlhhjaaGreatDoorTie.lean); close each card by the builder's one call (the guide's Derived/Test/ToyasCard.lean, 'card_holds'). Laid BY PROGRAM, IN A SANDBOX (cutbox-door.mjs). By AI agents, Wed Nov 11 2026. No macro, syntax, notation, axiom, sorry.
-/
import Derived.Test.YtigbfkiddlhhjaaGreatDoorRows
import GoSem.ClaimSeven
namespace Go.Proofs.YtigbfkiddlhhjaaGreatDoor
namespace Rows

/-- THE TIED CARD OF 'heartwoodlaw46.StmRuns'. -/
def stmRunsCard : Claim7 := { stood := { row := stmRunsRow, standIns := [], harness := (true, "f04a527b4cdb139a853470f0dea559e52b78604baf1c0962032d8bffaf4c11dd"), looks := true }, kinds := [], alts := [], laidByText := true, laidKinds := [.data, .listed, .data], laidTests := true, laidLooks := .later }
def StmRunsCardSaid : Prop := Claim7.holds Tryz.pinned (.plain (OpenSpec.ofChange stmRunsSpec)) stmRunsCard

/-- THE TIED CARD OF 'heartwoodlaw46.StmAborts'. -/
def stmAbortsCard : Claim7 := { stood := { row := stmAbortsRow, standIns := [], harness := (true, "f04a527b4cdb139a853470f0dea559e52b78604baf1c0962032d8bffaf4c11dd"), looks := true }, kinds := [], alts := [], laidByText := true, laidKinds := [.data, .listed, .data], laidTests := true, laidLooks := .later }
def StmAbortsCardSaid : Prop := Claim7.holds Tryz.pinned (.plain (OpenSpec.ofChange stmAbortsSpec)) stmAbortsCard

/-- THE SECOND FORM's CARD OF 'heartwoodlaw46.StmRuns'. -/
def stmRunsUptoCard : Claim7 := { stood := { row := stmRunsUptoRow, standIns := [], harness := (true, "f04a527b4cdb139a853470f0dea559e52b78604baf1c0962032d8bffaf4c11dd"), looks := true }, kinds := [], alts := [], laidByText := true, laidKinds := [.data, .listed, .data], laidTests := true, laidLooks := .later }
def StmRunsUptoCardSaid : Prop := Claim7.holds Tryz.pinned (.plain (OpenSpec.upto stmRunsSpec)) stmRunsUptoCard

/-- THE SECOND FORM's CARD OF 'heartwoodlaw46.StmAborts'. -/
def stmAbortsUptoCard : Claim7 := { stood := { row := stmAbortsUptoRow, standIns := [], harness := (true, "f04a527b4cdb139a853470f0dea559e52b78604baf1c0962032d8bffaf4c11dd"), looks := true }, kinds := [], alts := [], laidByText := true, laidKinds := [.data, .listed, .data], laidTests := true, laidLooks := .later }
def StmAbortsUptoCardSaid : Prop := Claim7.holds Tryz.pinned (.plain (OpenSpec.upto stmAbortsSpec)) stmAbortsUptoCard
end Rows
end Go.Proofs.YtigbfkiddlhhjaaGreatDoor
