/-
  DERIVED. GIVEN WITH THE SEED: THE CARDS: each row of YticmbkclbnjnaaaGreatDoorRows.lean that lists a variable, with what it lists TIED to the program's text (the seventh form; the later family's looks); each row that meets fmt, with fmt's text TOLD by the authors' own Lean function (tested against real Go, not proved from fmt's source: count such statements apart). THE CARD IS WHAT COUNTS. Prove the row's statement (the work); the ties are given (YticmbkclbnjnaaaGreatDoorTie.lean); close each card by the builder's one call (the guide's Derived/Test/ToyasCard.lean, 'card_holds'). Laid BY PROGRAM, IN A SANDBOX (cutbox-door.mjs). By AI agents, Wed Nov 11 2026. No macro, syntax, notation, axiom, sorry.
-/
import Derived.Test.YticmbkclbnjnaaaGreatDoorRows
import GoSem.ClaimSeven
namespace Go.Proofs.YticmbkclbnjnaaaGreatDoor
namespace Rows

/-- THE TIED CARD OF 'vernierlaw04.LangCanons'. -/
def langCanonsCard : Claim7 := { stood := { row := langCanonsRow, standIns := [], harness := (true, "22bd089e22b988ab6a43d779268ab13858b0e5b99fe3f277cf523fbeb30ef371"), looks := true }, kinds := [], alts := [], laidByText := true, laidKinds := [.data, .data, .data, .data, .data, .data, .widerDeep, .data, .pinned], laidTests := true, laidLooks := .later }
def LangCanonsCardSaid : Prop := Claim7.holds Tryz.pinned (.plain (OpenSpec.ofChange langCanonsSpec)) langCanonsCard

/-- THE SECOND FORM's CARD OF 'vernierlaw04.LangCanons'. -/
def langCanonsUptoCard : Claim7 := { stood := { row := langCanonsUptoRow, standIns := [], harness := (true, "22bd089e22b988ab6a43d779268ab13858b0e5b99fe3f277cf523fbeb30ef371"), looks := true }, kinds := [], alts := [], laidByText := true, laidKinds := [.data, .data, .data, .data, .data, .data, .widerDeep, .data, .pinned], laidTests := true, laidLooks := .later }
def LangCanonsUptoCardSaid : Prop := Claim7.holds Tryz.pinned (.plain (OpenSpec.upto langCanonsSpec)) langCanonsUptoCard
end Rows
end Go.Proofs.YticmbkclbnjnaaaGreatDoor
