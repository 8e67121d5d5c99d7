/-
  DERIVED. GIVEN WITH THE SEED: THE CARDS: each row of YtjkogbgbienloaaGreatDoorRows.lean that lists a variable, with what it lists TIED to the program's text (the seventh form; the later family's looks); each row that meets fmt, with fmt's text TOLD by the authors' own Lean function (tested against real Go, not proved from fmt's source: count such statements apart). THE CARD IS WHAT COUNTS. Prove the row's statement (the work); the ties are given (YtjkogbgbienloaaGreatDoorTie.lean); close each card by the builder's one call (the guide's Derived/Test/ToyasCard.lean, 'card_holds'). Laid BY PROGRAM, IN A SANDBOX (cutbox-door.mjs). By AI agents, Wed Nov 11 2026. No macro, syntax, notation, axiom, sorry.
-/
import Derived.Test.YtjkogbgbienloaaGreatDoorRows
import GoSem.ClaimSeven
namespace Go.Proofs.YtjkogbgbienloaaGreatDoor
namespace Rows

/-- THE TIED CARD OF 'laws.FnExactNameLines'. -/
def fnExactNameLinesCard : Claim7 := { stood := { row := fnExactNameLinesRow, standIns := [], harness := (true, "432604848961a09acfe6a9b45db7962b52ab790e922b7f62988774a432d4f770"), looks := false }, kinds := [], alts := [], laidByText := true, laidKinds := [.data, .data, .data, .data, .pinned], laidTests := true, laidLooks := .later }
def FnExactNameLinesCardSaid : Prop := Claim7.holds Tryz.pinned (.plain (OpenSpec.ofChange fnExactNameLinesSpec)) fnExactNameLinesCard

/-- THE TIED CARD OF 'laws.FnRollTexts'. -/
def fnRollTextsCard : Claim7 := { stood := { row := fnRollTextsRow, standIns := [], harness := (true, "432604848961a09acfe6a9b45db7962b52ab790e922b7f62988774a432d4f770"), looks := false }, kinds := [], alts := [], laidByText := true, laidKinds := [.data, .data, .data, .data, .pinned], laidTests := true, laidLooks := .later }
def FnRollTextsCardSaid : Prop := Claim7.holds Tryz.pinned (.plain (OpenSpec.ofChange fnRollTextsSpec)) fnRollTextsCard

/-- THE SECOND FORM's CARD OF 'laws.FnExactNameLines'. -/
def fnExactNameLinesUptoCard : Claim7 := { stood := { row := fnExactNameLinesUptoRow, standIns := [], harness := (true, "432604848961a09acfe6a9b45db7962b52ab790e922b7f62988774a432d4f770"), looks := false }, kinds := [], alts := [], laidByText := true, laidKinds := [.data, .data, .data, .data, .pinned], laidTests := true, laidLooks := .later }
def FnExactNameLinesUptoCardSaid : Prop := Claim7.holds Tryz.pinned (.plain (OpenSpec.upto fnExactNameLinesSpec)) fnExactNameLinesUptoCard

/-- THE SECOND FORM's CARD OF 'laws.FnRollTexts'. -/
def fnRollTextsUptoCard : Claim7 := { stood := { row := fnRollTextsUptoRow, standIns := [], harness := (true, "432604848961a09acfe6a9b45db7962b52ab790e922b7f62988774a432d4f770"), looks := false }, kinds := [], alts := [], laidByText := true, laidKinds := [.data, .data, .data, .data, .pinned], laidTests := true, laidLooks := .later }
def FnRollTextsUptoCardSaid : Prop := Claim7.holds Tryz.pinned (.plain (OpenSpec.upto fnRollTextsSpec)) fnRollTextsUptoCard
end Rows
end Go.Proofs.YtjkogbgbienloaaGreatDoor
