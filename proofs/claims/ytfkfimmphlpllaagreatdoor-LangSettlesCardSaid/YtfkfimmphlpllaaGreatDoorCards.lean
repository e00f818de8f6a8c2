/-
  DERIVED. GIVEN WITH THE SEED: THE CARDS: each row of YtfkfimmphlpllaaGreatDoorRows.lean that lists a variable, with what it lists TIED to the program's text (the seventh form; the later family's looks); each row that meets fmt, with fmt's text TOLD by the authors' own Lean function (tested against real Go, not proved from fmt's source: count such statements apart). THE CARD IS WHAT COUNTS. Prove the row's statement (the work); the ties are given (YtfkfimmphlpllaaGreatDoorTie.lean); close each card by the builder's one call (the guide's Derived/Test/ToyasCard.lean, 'card_holds'). Laid BY PROGRAM, IN A SANDBOX (cutbox-door.mjs). By AI agents, Wed Nov 11 2026. No macro, syntax, notation, axiom, sorry.
-/
import Derived.Test.YtfkfimmphlpllaaGreatDoorRows
import GoSem.ClaimSeven
namespace Go.Proofs.YtfkfimmphlpllaaGreatDoor
namespace Rows

/-- THE TIED CARD OF 'vernierlaw04.LangCanons'. -/
def langCanonsCard : Claim7 := { stood := { row := langCanonsRow, standIns := [], harness := (true, "f9aa27ec0540fb991073fd614668d7c417367d1e99766ef4b84ee195baee3c0e"), looks := true }, kinds := [], alts := [], laidByText := true, laidKinds := [.data, .data, .data, .data, .data, .data, .widerDeep, .data, .pinned], laidTests := true, laidLooks := .later }
def LangCanonsCardSaid : Prop := Claim7.holds Tryz.pinned (.plain (OpenSpec.ofChange langCanonsSpec)) langCanonsCard

/-- THE TIED CARD OF 'vernierlaw04.LangParses'. -/
def langParsesCard : Claim7 := { stood := { row := langParsesRow, standIns := [], harness := (true, "f9aa27ec0540fb991073fd614668d7c417367d1e99766ef4b84ee195baee3c0e"), looks := true }, kinds := [], alts := [], laidByText := true, laidKinds := [.data, .data, .data, .data, .data, .data, .widerDeep, .data, .pinned], laidTests := true, laidLooks := .later }
def LangParsesCardSaid : Prop := Claim7.holds Tryz.pinned (.plain (OpenSpec.ofChange langParsesSpec)) langParsesCard

/-- THE TIED CARD OF 'vernierlaw04.LangPrints'. -/
def langPrintsCard : Claim7 := { stood := { row := langPrintsRow, standIns := [], harness := (true, "f9aa27ec0540fb991073fd614668d7c417367d1e99766ef4b84ee195baee3c0e"), looks := true }, kinds := [], alts := [], laidByText := true, laidKinds := [.data, .data, .data, .data, .data, .data, .widerDeep, .data, .pinned], laidTests := true, laidLooks := .later }
def LangPrintsCardSaid : Prop := Claim7.holds Tryz.pinned (.plain (OpenSpec.ofChange langPrintsSpec)) langPrintsCard

/-- THE TIED CARD OF 'vernierlaw04.LangUnrolls'. -/
def langUnrollsCard : Claim7 := { stood := { row := langUnrollsRow, standIns := [], harness := (true, "f9aa27ec0540fb991073fd614668d7c417367d1e99766ef4b84ee195baee3c0e"), looks := true }, kinds := [], alts := [], laidByText := true, laidKinds := [.data, .data, .data, .data, .data, .data, .widerDeep, .data, .pinned], laidTests := true, laidLooks := .later }
def LangUnrollsCardSaid : Prop := Claim7.holds Tryz.pinned (.plain (OpenSpec.ofChange langUnrollsSpec)) langUnrollsCard

/-- THE TIED CARD OF 'vernierlaw04.LangNeeds'. -/
def langNeedsCard : Claim7 := { stood := { row := langNeedsRow, standIns := [], harness := (true, "f9aa27ec0540fb991073fd614668d7c417367d1e99766ef4b84ee195baee3c0e"), looks := true }, kinds := [], alts := [], laidByText := true, laidKinds := [.data, .data, .data, .data, .data, .data, .widerDeep, .data, .pinned], laidTests := true, laidLooks := .later }
def LangNeedsCardSaid : Prop := Claim7.holds Tryz.pinned (.plain (OpenSpec.ofChange langNeedsSpec)) langNeedsCard

/-- THE TIED CARD OF 'vernierlaw04.LangChecks'. -/
def langChecksCard : Claim7 := { stood := { row := langChecksRow, standIns := [], harness := (true, "f9aa27ec0540fb991073fd614668d7c417367d1e99766ef4b84ee195baee3c0e"), looks := true }, kinds := [], alts := [], laidByText := true, laidKinds := [.data, .data, .data, .data, .data, .data, .widerDeep, .data, .pinned], laidTests := true, laidLooks := .later }
def LangChecksCardSaid : Prop := Claim7.holds Tryz.pinned (.plain (OpenSpec.ofChange langChecksSpec)) langChecksCard

/-- THE TIED CARD OF 'vernierlaw04.LangSames'. -/
def langSamesCard : Claim7 := { stood := { row := langSamesRow, standIns := [], harness := (true, "f9aa27ec0540fb991073fd614668d7c417367d1e99766ef4b84ee195baee3c0e"), looks := true }, kinds := [], alts := [], laidByText := true, laidKinds := [.data, .data, .data, .data, .data, .data, .widerDeep, .data, .pinned], laidTests := true, laidLooks := .later }
def LangSamesCardSaid : Prop := Claim7.holds Tryz.pinned (.plain (OpenSpec.ofChange langSamesSpec)) langSamesCard

/-- THE TIED CARD OF 'vernierlaw04.LangReads'. -/
def langReadsCard : Claim7 := { stood := { row := langReadsRow, standIns := [], harness := (true, "f9aa27ec0540fb991073fd614668d7c417367d1e99766ef4b84ee195baee3c0e"), looks := true }, kinds := [], alts := [], laidByText := true, laidKinds := [.data, .data, .data, .data, .data, .data, .widerDeep, .data, .pinned], laidTests := true, laidLooks := .later }
def LangReadsCardSaid : Prop := Claim7.holds Tryz.pinned (.plain (OpenSpec.ofChange langReadsSpec)) langReadsCard

/-- THE TIED CARD OF 'vernierlaw04.LangFlat'. -/
def langFlatCard : Claim7 := { stood := { row := langFlatRow, standIns := [], harness := (true, "f9aa27ec0540fb991073fd614668d7c417367d1e99766ef4b84ee195baee3c0e"), looks := true }, kinds := [], alts := [], laidByText := true, laidKinds := [.data, .data, .data, .data, .data, .data, .widerDeep, .data, .pinned], laidTests := true, laidLooks := .later }
def LangFlatCardSaid : Prop := Claim7.holds Tryz.pinned (.plain (OpenSpec.ofChange langFlatSpec)) langFlatCard

/-- THE TIED CARD OF 'vernierlaw04.LangBlanks'. -/
def langBlanksCard : Claim7 := { stood := { row := langBlanksRow, standIns := [], harness := (true, "f9aa27ec0540fb991073fd614668d7c417367d1e99766ef4b84ee195baee3c0e"), looks := true }, kinds := [], alts := [], laidByText := true, laidKinds := [.data, .data, .data, .data, .data, .data, .widerDeep, .data, .pinned], laidTests := true, laidLooks := .later }
def LangBlanksCardSaid : Prop := Claim7.holds Tryz.pinned (.plain (OpenSpec.ofChange langBlanksSpec)) langBlanksCard

/-- THE TIED CARD OF 'vernierlaw04.LangSettles'. -/
def langSettlesCard : Claim7 := { stood := { row := langSettlesRow, standIns := [], harness := (true, "f9aa27ec0540fb991073fd614668d7c417367d1e99766ef4b84ee195baee3c0e"), looks := true }, kinds := [], alts := [], laidByText := true, laidKinds := [.data, .data, .data, .data, .data, .data, .widerDeep, .data, .pinned], laidTests := true, laidLooks := .later }
def LangSettlesCardSaid : Prop := Claim7.holds Tryz.pinned (.plain (OpenSpec.ofChange langSettlesSpec)) langSettlesCard

/-- THE TIED CARD OF 'vernierlaw04.LangChanges'. -/
def langChangesCard : Claim7 := { stood := { row := langChangesRow, standIns := [], harness := (true, "f9aa27ec0540fb991073fd614668d7c417367d1e99766ef4b84ee195baee3c0e"), looks := true }, kinds := [], alts := [], laidByText := true, laidKinds := [.data, .data, .data, .data, .data, .data, .widerDeep, .data, .pinned], laidTests := true, laidLooks := .later }
def LangChangesCardSaid : Prop := Claim7.holds Tryz.pinned (.plain (OpenSpec.ofChange langChangesSpec)) langChangesCard

/-- THE TIED CARD OF 'vernierlaw04.LangOwn'. -/
def langOwnCard : Claim7 := { stood := { row := langOwnRow, standIns := [], harness := (true, "f9aa27ec0540fb991073fd614668d7c417367d1e99766ef4b84ee195baee3c0e"), looks := true }, kinds := [], alts := [], laidByText := true, laidKinds := [.data, .data, .data, .data, .data, .data, .widerDeep, .data, .pinned], laidTests := true, laidLooks := .later }
def LangOwnCardSaid : Prop := Claim7.holds Tryz.pinned (.plain (OpenSpec.ofChange langOwnSpec)) langOwnCard

/-- THE SECOND FORM's CARD OF 'vernierlaw04.LangCanons'. -/
def langCanonsUptoCard : Claim7 := { stood := { row := langCanonsUptoRow, standIns := [], harness := (true, "f9aa27ec0540fb991073fd614668d7c417367d1e99766ef4b84ee195baee3c0e"), looks := true }, kinds := [], alts := [], laidByText := true, laidKinds := [.data, .data, .data, .data, .data, .data, .widerDeep, .data, .pinned], laidTests := true, laidLooks := .later }
def LangCanonsUptoCardSaid : Prop := Claim7.holds Tryz.pinned (.plain (OpenSpec.upto langCanonsSpec)) langCanonsUptoCard

/-- THE SECOND FORM's CARD OF 'vernierlaw04.LangParses'. -/
def langParsesUptoCard : Claim7 := { stood := { row := langParsesUptoRow, standIns := [], harness := (true, "f9aa27ec0540fb991073fd614668d7c417367d1e99766ef4b84ee195baee3c0e"), looks := true }, kinds := [], alts := [], laidByText := true, laidKinds := [.data, .data, .data, .data, .data, .data, .widerDeep, .data, .pinned], laidTests := true, laidLooks := .later }
def LangParsesUptoCardSaid : Prop := Claim7.holds Tryz.pinned (.plain (OpenSpec.upto langParsesSpec)) langParsesUptoCard

/-- THE SECOND FORM's CARD OF 'vernierlaw04.LangPrints'. -/
def langPrintsUptoCard : Claim7 := { stood := { row := langPrintsUptoRow, standIns := [], harness := (true, "f9aa27ec0540fb991073fd614668d7c417367d1e99766ef4b84ee195baee3c0e"), looks := true }, kinds := [], alts := [], laidByText := true, laidKinds := [.data, .data, .data, .data, .data, .data, .widerDeep, .data, .pinned], laidTests := true, laidLooks := .later }
def LangPrintsUptoCardSaid : Prop := Claim7.holds Tryz.pinned (.plain (OpenSpec.upto langPrintsSpec)) langPrintsUptoCard

/-- THE SECOND FORM's CARD OF 'vernierlaw04.LangUnrolls'. -/
def langUnrollsUptoCard : Claim7 := { stood := { row := langUnrollsUptoRow, standIns := [], harness := (true, "f9aa27ec0540fb991073fd614668d7c417367d1e99766ef4b84ee195baee3c0e"), looks := true }, kinds := [], alts := [], laidByText := true, laidKinds := [.data, .data, .data, .data, .data, .data, .widerDeep, .data, .pinned], laidTests := true, laidLooks := .later }
def LangUnrollsUptoCardSaid : Prop := Claim7.holds Tryz.pinned (.plain (OpenSpec.upto langUnrollsSpec)) langUnrollsUptoCard

/-- THE SECOND FORM's CARD OF 'vernierlaw04.LangNeeds'. -/
def langNeedsUptoCard : Claim7 := { stood := { row := langNeedsUptoRow, standIns := [], harness := (true, "f9aa27ec0540fb991073fd614668d7c417367d1e99766ef4b84ee195baee3c0e"), looks := true }, kinds := [], alts := [], laidByText := true, laidKinds := [.data, .data, .data, .data, .data, .data, .widerDeep, .data, .pinned], laidTests := true, laidLooks := .later }
def LangNeedsUptoCardSaid : Prop := Claim7.holds Tryz.pinned (.plain (OpenSpec.upto langNeedsSpec)) langNeedsUptoCard

/-- THE SECOND FORM's CARD OF 'vernierlaw04.LangChecks'. -/
def langChecksUptoCard : Claim7 := { stood := { row := langChecksUptoRow, standIns := [], harness := (true, "f9aa27ec0540fb991073fd614668d7c417367d1e99766ef4b84ee195baee3c0e"), looks := true }, kinds := [], alts := [], laidByText := true, laidKinds := [.data, .data, .data, .data, .data, .data, .widerDeep, .data, .pinned], laidTests := true, laidLooks := .later }
def LangChecksUptoCardSaid : Prop := Claim7.holds Tryz.pinned (.plain (OpenSpec.upto langChecksSpec)) langChecksUptoCard

/-- THE SECOND FORM's CARD OF 'vernierlaw04.LangSames'. -/
def langSamesUptoCard : Claim7 := { stood := { row := langSamesUptoRow, standIns := [], harness := (true, "f9aa27ec0540fb991073fd614668d7c417367d1e99766ef4b84ee195baee3c0e"), looks := true }, kinds := [], alts := [], laidByText := true, laidKinds := [.data, .data, .data, .data, .data, .data, .widerDeep, .data, .pinned], laidTests := true, laidLooks := .later }
def LangSamesUptoCardSaid : Prop := Claim7.holds Tryz.pinned (.plain (OpenSpec.upto langSamesSpec)) langSamesUptoCard

/-- THE SECOND FORM's CARD OF 'vernierlaw04.LangReads'. -/
def langReadsUptoCard : Claim7 := { stood := { row := langReadsUptoRow, standIns := [], harness := (true, "f9aa27ec0540fb991073fd614668d7c417367d1e99766ef4b84ee195baee3c0e"), looks := true }, kinds := [], alts := [], laidByText := true, laidKinds := [.data, .data, .data, .data, .data, .data, .widerDeep, .data, .pinned], laidTests := true, laidLooks := .later }
def LangReadsUptoCardSaid : Prop := Claim7.holds Tryz.pinned (.plain (OpenSpec.upto langReadsSpec)) langReadsUptoCard

/-- THE SECOND FORM's CARD OF 'vernierlaw04.LangFlat'. -/
def langFlatUptoCard : Claim7 := { stood := { row := langFlatUptoRow, standIns := [], harness := (true, "f9aa27ec0540fb991073fd614668d7c417367d1e99766ef4b84ee195baee3c0e"), looks := true }, kinds := [], alts := [], laidByText := true, laidKinds := [.data, .data, .data, .data, .data, .data, .widerDeep, .data, .pinned], laidTests := true, laidLooks := .later }
def LangFlatUptoCardSaid : Prop := Claim7.holds Tryz.pinned (.plain (OpenSpec.upto langFlatSpec)) langFlatUptoCard

/-- THE SECOND FORM's CARD OF 'vernierlaw04.LangBlanks'. -/
def langBlanksUptoCard : Claim7 := { stood := { row := langBlanksUptoRow, standIns := [], harness := (true, "f9aa27ec0540fb991073fd614668d7c417367d1e99766ef4b84ee195baee3c0e"), looks := true }, kinds := [], alts := [], laidByText := true, laidKinds := [.data, .data, .data, .data, .data, .data, .widerDeep, .data, .pinned], laidTests := true, laidLooks := .later }
def LangBlanksUptoCardSaid : Prop := Claim7.holds Tryz.pinned (.plain (OpenSpec.upto langBlanksSpec)) langBlanksUptoCard

/-- THE SECOND FORM's CARD OF 'vernierlaw04.LangSettles'. -/
def langSettlesUptoCard : Claim7 := { stood := { row := langSettlesUptoRow, standIns := [], harness := (true, "f9aa27ec0540fb991073fd614668d7c417367d1e99766ef4b84ee195baee3c0e"), looks := true }, kinds := [], alts := [], laidByText := true, laidKinds := [.data, .data, .data, .data, .data, .data, .widerDeep, .data, .pinned], laidTests := true, laidLooks := .later }
def LangSettlesUptoCardSaid : Prop := Claim7.holds Tryz.pinned (.plain (OpenSpec.upto langSettlesSpec)) langSettlesUptoCard

/-- THE SECOND FORM's CARD OF 'vernierlaw04.LangChanges'. -/
def langChangesUptoCard : Claim7 := { stood := { row := langChangesUptoRow, standIns := [], harness := (true, "f9aa27ec0540fb991073fd614668d7c417367d1e99766ef4b84ee195baee3c0e"), looks := true }, kinds := [], alts := [], laidByText := true, laidKinds := [.data, .data, .data, .data, .data, .data, .widerDeep, .data, .pinned], laidTests := true, laidLooks := .later }
def LangChangesUptoCardSaid : Prop := Claim7.holds Tryz.pinned (.plain (OpenSpec.upto langChangesSpec)) langChangesUptoCard

/-- THE SECOND FORM's CARD OF 'vernierlaw04.LangOwn'. -/
def langOwnUptoCard : Claim7 := { stood := { row := langOwnUptoRow, standIns := [], harness := (true, "f9aa27ec0540fb991073fd614668d7c417367d1e99766ef4b84ee195baee3c0e"), looks := true }, kinds := [], alts := [], laidByText := true, laidKinds := [.data, .data, .data, .data, .data, .data, .widerDeep, .data, .pinned], laidTests := true, laidLooks := .later }
def LangOwnUptoCardSaid : Prop := Claim7.holds Tryz.pinned (.plain (OpenSpec.upto langOwnSpec)) langOwnUptoCard
end Rows
end Go.Proofs.YtfkfimmphlpllaaGreatDoor
