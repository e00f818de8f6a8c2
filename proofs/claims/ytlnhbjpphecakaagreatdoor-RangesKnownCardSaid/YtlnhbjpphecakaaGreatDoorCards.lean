/-
  DERIVED. GIVEN WITH THE SEED: THE CARDS: each row of YtlnhbjpphecakaaGreatDoorRows.lean that lists a variable, with what it lists TIED to the program's text (the seventh form; the later family's looks); each row that meets fmt, with fmt's text TOLD by the authors' own Lean function (tested against real Go, not proved from fmt's source: count such statements apart). THE CARD IS WHAT COUNTS. Prove the row's statement (the work); the ties are given (YtlnhbjpphecakaaGreatDoorTie.lean); close each card by the builder's one call (the guide's Derived/Test/ToyasCard.lean, 'card_holds'). Laid BY PROGRAM, IN A SANDBOX (cutbox-door.mjs). By AI agents, Wed Nov 11 2026. No macro, syntax, notation, axiom, sorry.
-/
import Derived.Test.YtlnhbjpphecakaaGreatDoorRows
import GoSem.ClaimSeven
namespace Go.Proofs.YtlnhbjpphecakaaGreatDoor
namespace Rows

/-- THE TIED CARD OF 'vernierlaw06.RangesOps'. -/
def rangesOpsCard : Claim7 := { stood := { row := rangesOpsRow, standIns := [], harness := (true, "2a0c8551fcac9bd4479dad2e8354c207b20139728c42eb23b05169ecbf8b7edf"), looks := false }, kinds := [], alts := [], laidByText := true, laidKinds := [.data, .data, .data, .data, .data, .pinned], laidTests := true, laidLooks := .later }
def RangesOpsCardSaid : Prop := Claim7.holds Tryz.pinned (.plain (OpenSpec.ofChange rangesOpsSpec)) rangesOpsCard

/-- THE TIED CARD OF 'vernierlaw06.RangesSplits'. -/
def rangesSplitsCard : Claim7 := { stood := { row := rangesSplitsRow, standIns := [], harness := (true, "2a0c8551fcac9bd4479dad2e8354c207b20139728c42eb23b05169ecbf8b7edf"), looks := false }, kinds := [], alts := [], laidByText := true, laidKinds := [.data, .data, .data, .data, .data, .pinned], laidTests := true, laidLooks := .later }
def RangesSplitsCardSaid : Prop := Claim7.holds Tryz.pinned (.plain (OpenSpec.ofChange rangesSplitsSpec)) rangesSplitsCard

/-- THE TIED CARD OF 'vernierlaw06.RangesKnown'. -/
def rangesKnownCard : Claim7 := { stood := { row := rangesKnownRow, standIns := [], harness := (true, "2a0c8551fcac9bd4479dad2e8354c207b20139728c42eb23b05169ecbf8b7edf"), looks := false }, kinds := [], alts := [], laidByText := true, laidKinds := [.data, .data, .data, .data, .data, .pinned], laidTests := true, laidLooks := .later }
def RangesKnownCardSaid : Prop := Claim7.holds Tryz.pinned (.plain (OpenSpec.ofChange rangesKnownSpec)) rangesKnownCard

/-- THE SECOND FORM's CARD OF 'vernierlaw06.RangesOps'. -/
def rangesOpsUptoCard : Claim7 := { stood := { row := rangesOpsUptoRow, standIns := [], harness := (true, "2a0c8551fcac9bd4479dad2e8354c207b20139728c42eb23b05169ecbf8b7edf"), looks := false }, kinds := [], alts := [], laidByText := true, laidKinds := [.data, .data, .data, .data, .data, .pinned], laidTests := true, laidLooks := .later }
def RangesOpsUptoCardSaid : Prop := Claim7.holds Tryz.pinned (.plain (OpenSpec.upto rangesOpsSpec)) rangesOpsUptoCard

/-- THE SECOND FORM's CARD OF 'vernierlaw06.RangesSplits'. -/
def rangesSplitsUptoCard : Claim7 := { stood := { row := rangesSplitsUptoRow, standIns := [], harness := (true, "2a0c8551fcac9bd4479dad2e8354c207b20139728c42eb23b05169ecbf8b7edf"), looks := false }, kinds := [], alts := [], laidByText := true, laidKinds := [.data, .data, .data, .data, .data, .pinned], laidTests := true, laidLooks := .later }
def RangesSplitsUptoCardSaid : Prop := Claim7.holds Tryz.pinned (.plain (OpenSpec.upto rangesSplitsSpec)) rangesSplitsUptoCard

/-- THE SECOND FORM's CARD OF 'vernierlaw06.RangesKnown'. -/
def rangesKnownUptoCard : Claim7 := { stood := { row := rangesKnownUptoRow, standIns := [], harness := (true, "2a0c8551fcac9bd4479dad2e8354c207b20139728c42eb23b05169ecbf8b7edf"), looks := false }, kinds := [], alts := [], laidByText := true, laidKinds := [.data, .data, .data, .data, .data, .pinned], laidTests := true, laidLooks := .later }
def RangesKnownUptoCardSaid : Prop := Claim7.holds Tryz.pinned (.plain (OpenSpec.upto rangesKnownSpec)) rangesKnownUptoCard
end Rows
end Go.Proofs.YtlnhbjpphecakaaGreatDoor
