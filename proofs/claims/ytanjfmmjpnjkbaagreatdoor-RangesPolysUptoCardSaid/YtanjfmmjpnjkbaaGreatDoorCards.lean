/-
  DERIVED. GIVEN WITH THE SEED: THE CARDS: each row of YtanjfmmjpnjkbaaGreatDoorRows.lean that lists a variable, with what it lists TIED to the program's text (the seventh form; the later family's looks); each row that meets fmt, with fmt's text TOLD by the authors' own Lean function (tested against real Go, not proved from fmt's source: count such statements apart). THE CARD IS WHAT COUNTS. Prove the row's statement (the work); the ties are given (YtanjfmmjpnjkbaaGreatDoorTie.lean); close each card by the builder's one call (the guide's Derived/Test/ToyasCard.lean, 'card_holds'). Laid BY PROGRAM, IN A SANDBOX (cutbox-door.mjs). By AI agents, Wed Nov 11 2026. No macro, syntax, notation, axiom, sorry.
-/
import Derived.Test.YtanjfmmjpnjkbaaGreatDoorRows
import GoSem.ClaimSeven
namespace Go.Proofs.YtanjfmmjpnjkbaaGreatDoor
namespace Rows

/-- THE TIED CARD OF 'vernierlaw06.RangesHalves'. -/
def rangesHalvesCard : Claim7 := { stood := { row := rangesHalvesRow, standIns := [], harness := (true, "da512689e7894f16eec77074dc6ea2434418e4976f04a6fcb573a8636e8f20d2"), looks := false }, kinds := [], alts := [], laidByText := true, laidKinds := [.data, .data, .data, .data, .data, .pinned], laidTests := true, laidLooks := .later }
def RangesHalvesCardSaid : Prop := Claim7.holds Tryz.pinned (.plain (OpenSpec.ofChange rangesHalvesSpec)) rangesHalvesCard

/-- THE TIED CARD OF 'vernierlaw06.RangesPolys'. -/
def rangesPolysCard : Claim7 := { stood := { row := rangesPolysRow, standIns := [], harness := (true, "da512689e7894f16eec77074dc6ea2434418e4976f04a6fcb573a8636e8f20d2"), looks := false }, kinds := [], alts := [], laidByText := true, laidKinds := [.data, .data, .data, .data, .data, .pinned], laidTests := true, laidLooks := .later }
def RangesPolysCardSaid : Prop := Claim7.holds Tryz.pinned (.plain (OpenSpec.ofChange rangesPolysSpec)) rangesPolysCard

/-- THE TIED CARD OF 'vernierlaw06.RangesValues'. -/
def rangesValuesCard : Claim7 := { stood := { row := rangesValuesRow, standIns := [], harness := (true, "da512689e7894f16eec77074dc6ea2434418e4976f04a6fcb573a8636e8f20d2"), looks := false }, kinds := [], alts := [], laidByText := true, laidKinds := [.data, .data, .data, .data, .data, .pinned], laidTests := true, laidLooks := .later }
def RangesValuesCardSaid : Prop := Claim7.holds Tryz.pinned (.plain (OpenSpec.ofChange rangesValuesSpec)) rangesValuesCard

/-- THE SECOND FORM's CARD OF 'vernierlaw06.RangesHalves'. -/
def rangesHalvesUptoCard : Claim7 := { stood := { row := rangesHalvesUptoRow, standIns := [], harness := (true, "da512689e7894f16eec77074dc6ea2434418e4976f04a6fcb573a8636e8f20d2"), looks := false }, kinds := [], alts := [], laidByText := true, laidKinds := [.data, .data, .data, .data, .data, .pinned], laidTests := true, laidLooks := .later }
def RangesHalvesUptoCardSaid : Prop := Claim7.holds Tryz.pinned (.plain (OpenSpec.upto rangesHalvesSpec)) rangesHalvesUptoCard

/-- THE SECOND FORM's CARD OF 'vernierlaw06.RangesPolys'. -/
def rangesPolysUptoCard : Claim7 := { stood := { row := rangesPolysUptoRow, standIns := [], harness := (true, "da512689e7894f16eec77074dc6ea2434418e4976f04a6fcb573a8636e8f20d2"), looks := false }, kinds := [], alts := [], laidByText := true, laidKinds := [.data, .data, .data, .data, .data, .pinned], laidTests := true, laidLooks := .later }
def RangesPolysUptoCardSaid : Prop := Claim7.holds Tryz.pinned (.plain (OpenSpec.upto rangesPolysSpec)) rangesPolysUptoCard

/-- THE SECOND FORM's CARD OF 'vernierlaw06.RangesValues'. -/
def rangesValuesUptoCard : Claim7 := { stood := { row := rangesValuesUptoRow, standIns := [], harness := (true, "da512689e7894f16eec77074dc6ea2434418e4976f04a6fcb573a8636e8f20d2"), looks := false }, kinds := [], alts := [], laidByText := true, laidKinds := [.data, .data, .data, .data, .data, .pinned], laidTests := true, laidLooks := .later }
def RangesValuesUptoCardSaid : Prop := Claim7.holds Tryz.pinned (.plain (OpenSpec.upto rangesValuesSpec)) rangesValuesUptoCard
end Rows
end Go.Proofs.YtanjfmmjpnjkbaaGreatDoor
