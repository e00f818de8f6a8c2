/-
  DERIVED. GIVEN WITH THE SEED: THE CARDS: each row of YtbelgphoccpelaaGreatDoorRows.lean that lists a variable, with what it lists TIED to the program's text (the seventh form; the later family's looks); each row that meets fmt, with fmt's text TOLD by the authors' own Lean function (tested against real Go, not proved from fmt's source: count such statements apart). THE CARD IS WHAT COUNTS. Prove the row's statement (the work); the ties are given (YtbelgphoccpelaaGreatDoorTie.lean); close each card by the builder's one call (the guide's Derived/Test/ToyasCard.lean, 'card_holds'). Laid BY PROGRAM, IN A SANDBOX (cutbox-door.mjs). By AI agents, Wed Nov 11 2026. No macro, syntax, notation, axiom, sorry.
-/
import Derived.Test.YtbelgphoccpelaaGreatDoorRows
import GoSem.ClaimSeven
namespace Go.Proofs.YtbelgphoccpelaaGreatDoor
namespace Rows

/-- THE TIED CARD OF 'vernierlaw06.RangesIncludes'. -/
def rangesIncludesCard : Claim7 := { stood := { row := rangesIncludesRow, standIns := [], harness := (true, "490b3a0fffc094f0993e927124d1cc15ee67049c7973f1a6bde0d82affff94bb"), looks := false }, kinds := [], alts := [], laidByText := true, laidKinds := [.data, .data, .data, .data, .data, .pinned], laidTests := true, laidLooks := .later }
def RangesIncludesCardSaid : Prop := Claim7.holds Tryz.pinned (.plain (OpenSpec.ofChange rangesIncludesSpec)) rangesIncludesCard

/-- THE SECOND FORM's CARD OF 'vernierlaw06.RangesIncludes'. -/
def rangesIncludesUptoCard : Claim7 := { stood := { row := rangesIncludesUptoRow, standIns := [], harness := (true, "490b3a0fffc094f0993e927124d1cc15ee67049c7973f1a6bde0d82affff94bb"), looks := false }, kinds := [], alts := [], laidByText := true, laidKinds := [.data, .data, .data, .data, .data, .pinned], laidTests := true, laidLooks := .later }
def RangesIncludesUptoCardSaid : Prop := Claim7.holds Tryz.pinned (.plain (OpenSpec.upto rangesIncludesSpec)) rangesIncludesUptoCard
end Rows
end Go.Proofs.YtbelgphoccpelaaGreatDoor
