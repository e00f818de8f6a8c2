/-
  DERIVED. GIVEN WITH THE SEED: THE CARDS: each row of YtldhlnmnfokbeaaGreatDoorRows.lean that lists a variable, with what it lists TIED to the program's text (the seventh form; the later family's looks); each row that meets fmt, with fmt's text TOLD by the authors' own Lean function (tested against real Go, not proved from fmt's source: count such statements apart). THE CARD IS WHAT COUNTS. Prove the row's statement (the work); the ties are given (YtldhlnmnfokbeaaGreatDoorTie.lean); close each card by the builder's one call (the guide's Derived/Test/ToyasCard.lean, 'card_holds'). Laid BY PROGRAM, IN A SANDBOX (cutbox-door.mjs). By AI agents, Wed Nov 11 2026. No macro, syntax, notation, axiom, sorry.
-/
import Derived.Test.YtldhlnmnfokbeaaGreatDoorRows
import GoSem.ClaimSeven
namespace Go.Proofs.YtldhlnmnfokbeaaGreatDoor
namespace Rows

/-- THE TIED CARD OF 'vernierlaw06.RangesNodes'. -/
def rangesNodesCard : Claim7 := { stood := { row := rangesNodesRow, standIns := [], harness := (true, "ff362ee8417e99231c08e35fba4c9ecadb21cb840c65fe1fb57c779df7bb40c3"), looks := false }, kinds := [], alts := [], laidByText := true, laidKinds := [.data, .data, .data, .data, .data, .pinned], laidTests := true, laidLooks := .later }
def RangesNodesCardSaid : Prop := Claim7.holds Tryz.pinned (.plain (OpenSpec.ofChange rangesNodesSpec)) rangesNodesCard

/-- THE SECOND FORM's CARD OF 'vernierlaw06.RangesNodes'. -/
def rangesNodesUptoCard : Claim7 := { stood := { row := rangesNodesUptoRow, standIns := [], harness := (true, "ff362ee8417e99231c08e35fba4c9ecadb21cb840c65fe1fb57c779df7bb40c3"), looks := false }, kinds := [], alts := [], laidByText := true, laidKinds := [.data, .data, .data, .data, .data, .pinned], laidTests := true, laidLooks := .later }
def RangesNodesUptoCardSaid : Prop := Claim7.holds Tryz.pinned (.plain (OpenSpec.upto rangesNodesSpec)) rangesNodesUptoCard
end Rows
end Go.Proofs.YtldhlnmnfokbeaaGreatDoor
