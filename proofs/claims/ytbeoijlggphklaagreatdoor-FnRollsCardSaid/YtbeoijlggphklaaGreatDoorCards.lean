/-
  DERIVED. GIVEN WITH THE SEED: THE CARDS: each row of YtbeoijlggphklaaGreatDoorRows.lean that lists a variable, with what it lists TIED to the program's text (the seventh form; the later family's looks); each row that meets fmt, with fmt's text TOLD by the authors' own Lean function (tested against real Go, not proved from fmt's source: count such statements apart). THE CARD IS WHAT COUNTS. Prove the row's statement (the work); the ties are given (YtbeoijlggphklaaGreatDoorTie.lean); close each card by the builder's one call (the guide's Derived/Test/ToyasCard.lean, 'card_holds'). Laid BY PROGRAM, IN A SANDBOX (cutbox-door.mjs). By AI agents, Wed Nov 11 2026. No macro, syntax, notation, axiom, sorry.
-/
import Derived.Test.YtbeoijlggphklaaGreatDoorRows
import GoSem.ClaimSeven
namespace Go.Proofs.YtbeoijlggphklaaGreatDoor
namespace Rows

/-- THE TIED CARD OF 'laws.FnExactEntryLines'. -/
def fnExactEntryLinesCard : Claim7 := { stood := { row := fnExactEntryLinesRow, standIns := [], harness := (true, "02e8c4503b3b3d2ff542d182daab8c62c78fd0ec27e306f558df4664549c3adc"), looks := false }, kinds := [], alts := [], laidByText := true, laidKinds := [.data, .data, .data, .data, .pinned], laidTests := true, laidLooks := .later }
def FnExactEntryLinesCardSaid : Prop := Claim7.holds Tryz.pinned (.plain (OpenSpec.ofChange fnExactEntryLinesSpec)) fnExactEntryLinesCard

/-- THE TIED CARD OF 'laws.FnExactFormatConsole'. -/
def fnExactFormatConsoleCard : Claim7 := { stood := { row := fnExactFormatConsoleRow, standIns := [], harness := (true, "02e8c4503b3b3d2ff542d182daab8c62c78fd0ec27e306f558df4664549c3adc"), looks := false }, kinds := [], alts := [], laidByText := true, laidKinds := [.data, .data, .data], laidTests := true, laidLooks := .later }
def FnExactFormatConsoleCardSaid : Prop := Claim7.holds Tryz.pinned (.plain (OpenSpec.ofChange fnExactFormatConsoleSpec)) fnExactFormatConsoleCard

/-- THE TIED CARD OF 'laws.FnExactPageOf'. -/
def fnExactPageOfCard : Claim7 := { stood := { row := fnExactPageOfRow, standIns := [], harness := (true, "02e8c4503b3b3d2ff542d182daab8c62c78fd0ec27e306f558df4664549c3adc"), looks := false }, kinds := [], alts := [], laidByText := true, laidKinds := [.data, .data, .data, .data, .pinned], laidTests := true, laidLooks := .later }
def FnExactPageOfCardSaid : Prop := Claim7.holds Tryz.pinned (.plain (OpenSpec.ofChange fnExactPageOfSpec)) fnExactPageOfCard

/-- THE TIED CARD OF 'laws.FnExactCountLines'. -/
def fnExactCountLinesCard : Claim7 := { stood := { row := fnExactCountLinesRow, standIns := [], harness := (true, "02e8c4503b3b3d2ff542d182daab8c62c78fd0ec27e306f558df4664549c3adc"), looks := false }, kinds := [], alts := [], laidByText := true, laidKinds := [.data, .data, .data, .data, .pinned], laidTests := true, laidLooks := .later }
def FnExactCountLinesCardSaid : Prop := Claim7.holds Tryz.pinned (.plain (OpenSpec.ofChange fnExactCountLinesSpec)) fnExactCountLinesCard

/-- THE TIED CARD OF 'laws.FnExactRollPages'. -/
def fnExactRollPagesCard : Claim7 := { stood := { row := fnExactRollPagesRow, standIns := [], harness := (true, "02e8c4503b3b3d2ff542d182daab8c62c78fd0ec27e306f558df4664549c3adc"), looks := false }, kinds := [], alts := [], laidByText := true, laidKinds := [.data, .data, .data, .data, .pinned], laidTests := true, laidLooks := .later }
def FnExactRollPagesCardSaid : Prop := Claim7.holds Tryz.pinned (.plain (OpenSpec.ofChange fnExactRollPagesSpec)) fnExactRollPagesCard

/-- THE TIED CARD OF 'laws.FnRolls'. -/
def fnRollsCard : Claim7 := { stood := { row := fnRollsRow, standIns := [], harness := (true, "02e8c4503b3b3d2ff542d182daab8c62c78fd0ec27e306f558df4664549c3adc"), looks := false }, kinds := [], alts := [], laidByText := true, laidKinds := [.data, .data, .data, .data, .pinned], laidTests := true, laidLooks := .later }
def FnRollsCardSaid : Prop := Claim7.holds Tryz.pinned (.plain (OpenSpec.ofChange fnRollsSpec)) fnRollsCard

/-- THE TIED CARD OF 'laws.FnExactRollText'. -/
def fnExactRollTextCard : Claim7 := { stood := { row := fnExactRollTextRow, standIns := [], harness := (true, "02e8c4503b3b3d2ff542d182daab8c62c78fd0ec27e306f558df4664549c3adc"), looks := false }, kinds := [], alts := [], laidByText := true, laidKinds := [.data, .data, .data, .data, .pinned], laidTests := true, laidLooks := .later }
def FnExactRollTextCardSaid : Prop := Claim7.holds Tryz.pinned (.plain (OpenSpec.ofChange fnExactRollTextSpec)) fnExactRollTextCard

/-- THE TIED CARD OF 'laws.FnExactNameLines'. -/
def fnExactNameLinesCard : Claim7 := { stood := { row := fnExactNameLinesRow, standIns := [], harness := (true, "02e8c4503b3b3d2ff542d182daab8c62c78fd0ec27e306f558df4664549c3adc"), looks := false }, kinds := [], alts := [], laidByText := true, laidKinds := [.data, .data, .data, .data, .pinned], laidTests := true, laidLooks := .later }
def FnExactNameLinesCardSaid : Prop := Claim7.holds Tryz.pinned (.plain (OpenSpec.ofChange fnExactNameLinesSpec)) fnExactNameLinesCard

/-- THE TIED CARD OF 'laws.FnRollTexts'. -/
def fnRollTextsCard : Claim7 := { stood := { row := fnRollTextsRow, standIns := [], harness := (true, "02e8c4503b3b3d2ff542d182daab8c62c78fd0ec27e306f558df4664549c3adc"), looks := false }, kinds := [], alts := [], laidByText := true, laidKinds := [.data, .data, .data, .data, .pinned], laidTests := true, laidLooks := .later }
def FnRollTextsCardSaid : Prop := Claim7.holds Tryz.pinned (.plain (OpenSpec.ofChange fnRollTextsSpec)) fnRollTextsCard

/-- THE SECOND FORM's CARD OF 'laws.FnExactEntryLines'. -/
def fnExactEntryLinesUptoCard : Claim7 := { stood := { row := fnExactEntryLinesUptoRow, standIns := [], harness := (true, "02e8c4503b3b3d2ff542d182daab8c62c78fd0ec27e306f558df4664549c3adc"), looks := false }, kinds := [], alts := [], laidByText := true, laidKinds := [.data, .data, .data, .data, .pinned], laidTests := true, laidLooks := .later }
def FnExactEntryLinesUptoCardSaid : Prop := Claim7.holds Tryz.pinned (.plain (OpenSpec.upto fnExactEntryLinesSpec)) fnExactEntryLinesUptoCard

/-- THE SECOND FORM's CARD OF 'laws.FnExactFormatConsole'. -/
def fnExactFormatConsoleUptoCard : Claim7 := { stood := { row := fnExactFormatConsoleUptoRow, standIns := [], harness := (true, "02e8c4503b3b3d2ff542d182daab8c62c78fd0ec27e306f558df4664549c3adc"), looks := false }, kinds := [], alts := [], laidByText := true, laidKinds := [.data, .data, .data], laidTests := true, laidLooks := .later }
def FnExactFormatConsoleUptoCardSaid : Prop := Claim7.holds Tryz.pinned (.plain (OpenSpec.upto fnExactFormatConsoleSpec)) fnExactFormatConsoleUptoCard

/-- THE SECOND FORM's CARD OF 'laws.FnExactPageOf'. -/
def fnExactPageOfUptoCard : Claim7 := { stood := { row := fnExactPageOfUptoRow, standIns := [], harness := (true, "02e8c4503b3b3d2ff542d182daab8c62c78fd0ec27e306f558df4664549c3adc"), looks := false }, kinds := [], alts := [], laidByText := true, laidKinds := [.data, .data, .data, .data, .pinned], laidTests := true, laidLooks := .later }
def FnExactPageOfUptoCardSaid : Prop := Claim7.holds Tryz.pinned (.plain (OpenSpec.upto fnExactPageOfSpec)) fnExactPageOfUptoCard

/-- THE SECOND FORM's CARD OF 'laws.FnExactCountLines'. -/
def fnExactCountLinesUptoCard : Claim7 := { stood := { row := fnExactCountLinesUptoRow, standIns := [], harness := (true, "02e8c4503b3b3d2ff542d182daab8c62c78fd0ec27e306f558df4664549c3adc"), looks := false }, kinds := [], alts := [], laidByText := true, laidKinds := [.data, .data, .data, .data, .pinned], laidTests := true, laidLooks := .later }
def FnExactCountLinesUptoCardSaid : Prop := Claim7.holds Tryz.pinned (.plain (OpenSpec.upto fnExactCountLinesSpec)) fnExactCountLinesUptoCard

/-- THE SECOND FORM's CARD OF 'laws.FnExactRollPages'. -/
def fnExactRollPagesUptoCard : Claim7 := { stood := { row := fnExactRollPagesUptoRow, standIns := [], harness := (true, "02e8c4503b3b3d2ff542d182daab8c62c78fd0ec27e306f558df4664549c3adc"), looks := false }, kinds := [], alts := [], laidByText := true, laidKinds := [.data, .data, .data, .data, .pinned], laidTests := true, laidLooks := .later }
def FnExactRollPagesUptoCardSaid : Prop := Claim7.holds Tryz.pinned (.plain (OpenSpec.upto fnExactRollPagesSpec)) fnExactRollPagesUptoCard

/-- THE SECOND FORM's CARD OF 'laws.FnRolls'. -/
def fnRollsUptoCard : Claim7 := { stood := { row := fnRollsUptoRow, standIns := [], harness := (true, "02e8c4503b3b3d2ff542d182daab8c62c78fd0ec27e306f558df4664549c3adc"), looks := false }, kinds := [], alts := [], laidByText := true, laidKinds := [.data, .data, .data, .data, .pinned], laidTests := true, laidLooks := .later }
def FnRollsUptoCardSaid : Prop := Claim7.holds Tryz.pinned (.plain (OpenSpec.upto fnRollsSpec)) fnRollsUptoCard

/-- THE SECOND FORM's CARD OF 'laws.FnExactRollText'. -/
def fnExactRollTextUptoCard : Claim7 := { stood := { row := fnExactRollTextUptoRow, standIns := [], harness := (true, "02e8c4503b3b3d2ff542d182daab8c62c78fd0ec27e306f558df4664549c3adc"), looks := false }, kinds := [], alts := [], laidByText := true, laidKinds := [.data, .data, .data, .data, .pinned], laidTests := true, laidLooks := .later }
def FnExactRollTextUptoCardSaid : Prop := Claim7.holds Tryz.pinned (.plain (OpenSpec.upto fnExactRollTextSpec)) fnExactRollTextUptoCard

/-- THE SECOND FORM's CARD OF 'laws.FnExactNameLines'. -/
def fnExactNameLinesUptoCard : Claim7 := { stood := { row := fnExactNameLinesUptoRow, standIns := [], harness := (true, "02e8c4503b3b3d2ff542d182daab8c62c78fd0ec27e306f558df4664549c3adc"), looks := false }, kinds := [], alts := [], laidByText := true, laidKinds := [.data, .data, .data, .data, .pinned], laidTests := true, laidLooks := .later }
def FnExactNameLinesUptoCardSaid : Prop := Claim7.holds Tryz.pinned (.plain (OpenSpec.upto fnExactNameLinesSpec)) fnExactNameLinesUptoCard

/-- THE SECOND FORM's CARD OF 'laws.FnRollTexts'. -/
def fnRollTextsUptoCard : Claim7 := { stood := { row := fnRollTextsUptoRow, standIns := [], harness := (true, "02e8c4503b3b3d2ff542d182daab8c62c78fd0ec27e306f558df4664549c3adc"), looks := false }, kinds := [], alts := [], laidByText := true, laidKinds := [.data, .data, .data, .data, .pinned], laidTests := true, laidLooks := .later }
def FnRollTextsUptoCardSaid : Prop := Claim7.holds Tryz.pinned (.plain (OpenSpec.upto fnRollTextsSpec)) fnRollTextsUptoCard
end Rows
end Go.Proofs.YtbeoijlggphklaaGreatDoor
