/-
  DERIVED. GIVEN WITH THE SEED: THE CARDS: each row of YtcfmohcpfmedaaaDoorRows.lean that lists a variable, with what it lists TIED to the program's text (the seventh form; the later family's looks); each row that meets fmt, with fmt's text TOLD by the authors' own Lean function (tested against real Go, not proved from fmt's source: count such statements apart). THE CARD IS WHAT COUNTS. Prove the row's statement (the work); the ties are given (YtcfmohcpfmedaaaDoorTie.lean); close each card by the builder's one call (the guide's Derived/Test/ToyasCard.lean, 'card_holds'). Laid BY PROGRAM, IN A SANDBOX (cutbox-door.mjs). By AI agents, Wed Nov 11 2026. No macro, syntax, notation, axiom, sorry.
-/
import Derived.Test.YtcfmohcpfmedaaaDoorRows
import GoSem.ClaimSeven
namespace Go.Proofs.YtcfmohcpfmedaaaDoor
namespace Rows

/-- THE TIED CARD OF 'laws.FnExactFillLines'. -/
def fnExactFillLinesCard : Claim7 := { stood := { row := fnExactFillLinesRow, standIns := [], harness := (true, "d6bbbb10968e4fd8766889e28373c2896701be4e9e4fe6a3f3a15c247dd97553"), looks := false }, kinds := [], alts := [], laidByText := true, laidKinds := [.data, .pinned], laidTests := true, laidLooks := .later }
def FnExactFillLinesCardSaid : Prop := Claim7.holds Tryd.pinned (.plain (OpenSpec.ofChange fnExactFillLinesSpec)) fnExactFillLinesCard

/-- THE TIED CARD OF 'laws.FnExactCenterLine'. -/
def fnExactCenterLineCard : Claim7 := { stood := { row := fnExactCenterLineRow, standIns := [], harness := (true, "d6bbbb10968e4fd8766889e28373c2896701be4e9e4fe6a3f3a15c247dd97553"), looks := false }, kinds := [], alts := [], laidByText := true, laidKinds := [.data, .pinned], laidTests := true, laidLooks := .later }
def FnExactCenterLineCardSaid : Prop := Claim7.holds Tryd.pinned (.plain (OpenSpec.ofChange fnExactCenterLineSpec)) fnExactCenterLineCard

/-- THE TIED CARD OF 'laws.FnExactEvenLines'. -/
def fnExactEvenLinesCard : Claim7 := { stood := { row := fnExactEvenLinesRow, standIns := [], harness := (true, "d6bbbb10968e4fd8766889e28373c2896701be4e9e4fe6a3f3a15c247dd97553"), looks := false }, kinds := [], alts := [], laidByText := true, laidKinds := [.data, .pinned], laidTests := true, laidLooks := .later }
def FnExactEvenLinesCardSaid : Prop := Claim7.holds Tryd.pinned (.plain (OpenSpec.ofChange fnExactEvenLinesSpec)) fnExactEvenLinesCard

/-- THE TIED CARD OF 'laws.FnExactScrollPicture'. -/
def fnExactScrollPictureCard : Claim7 := { stood := { row := fnExactScrollPictureRow, standIns := [], harness := (true, "d6bbbb10968e4fd8766889e28373c2896701be4e9e4fe6a3f3a15c247dd97553"), looks := false }, kinds := [], alts := [], laidByText := true, laidKinds := [.data, .pinned], laidTests := true, laidLooks := .later }
def FnExactScrollPictureCardSaid : Prop := Claim7.holds Tryd.pinned (.plain (OpenSpec.ofChange fnExactScrollPictureSpec)) fnExactScrollPictureCard

/-- THE TIED CARD OF 'laws.FnExactReadScroll'. -/
def fnExactReadScrollCard : Claim7 := { stood := { row := fnExactReadScrollRow, standIns := [], harness := (true, "d6bbbb10968e4fd8766889e28373c2896701be4e9e4fe6a3f3a15c247dd97553"), looks := false }, kinds := [], alts := [], laidByText := true, laidKinds := [.data, .pinned], laidTests := true, laidLooks := .later }
def FnExactReadScrollCardSaid : Prop := Claim7.holds Tryd.pinned (.plain (OpenSpec.ofChange fnExactReadScrollSpec)) fnExactReadScrollCard

/-- THE TIED CARD OF 'laws.FnExactSharedWords'. -/
def fnExactSharedWordsCard : Claim7 := { stood := { row := fnExactSharedWordsRow, standIns := [], harness := (true, "d6bbbb10968e4fd8766889e28373c2896701be4e9e4fe6a3f3a15c247dd97553"), looks := false }, kinds := [], alts := [], laidByText := true, laidKinds := [.data, .pinned], laidTests := true, laidLooks := .later }
def FnExactSharedWordsCardSaid : Prop := Claim7.holds Tryd.pinned (.plain (OpenSpec.ofChange fnExactSharedWordsSpec)) fnExactSharedWordsCard

/-- THE SECOND FORM's CARD OF 'laws.FnExactFillLines'. -/
def fnExactFillLinesUptoCard : Claim7 := { stood := { row := fnExactFillLinesUptoRow, standIns := [], harness := (true, "d6bbbb10968e4fd8766889e28373c2896701be4e9e4fe6a3f3a15c247dd97553"), looks := false }, kinds := [], alts := [], laidByText := true, laidKinds := [.data, .pinned], laidTests := true, laidLooks := .later }
def FnExactFillLinesUptoCardSaid : Prop := Claim7.holds Tryd.pinned (.plain (OpenSpec.upto fnExactFillLinesSpec)) fnExactFillLinesUptoCard

/-- THE SECOND FORM's CARD OF 'laws.FnExactCenterLine'. -/
def fnExactCenterLineUptoCard : Claim7 := { stood := { row := fnExactCenterLineUptoRow, standIns := [], harness := (true, "d6bbbb10968e4fd8766889e28373c2896701be4e9e4fe6a3f3a15c247dd97553"), looks := false }, kinds := [], alts := [], laidByText := true, laidKinds := [.data, .pinned], laidTests := true, laidLooks := .later }
def FnExactCenterLineUptoCardSaid : Prop := Claim7.holds Tryd.pinned (.plain (OpenSpec.upto fnExactCenterLineSpec)) fnExactCenterLineUptoCard

/-- THE SECOND FORM's CARD OF 'laws.FnExactEvenLines'. -/
def fnExactEvenLinesUptoCard : Claim7 := { stood := { row := fnExactEvenLinesUptoRow, standIns := [], harness := (true, "d6bbbb10968e4fd8766889e28373c2896701be4e9e4fe6a3f3a15c247dd97553"), looks := false }, kinds := [], alts := [], laidByText := true, laidKinds := [.data, .pinned], laidTests := true, laidLooks := .later }
def FnExactEvenLinesUptoCardSaid : Prop := Claim7.holds Tryd.pinned (.plain (OpenSpec.upto fnExactEvenLinesSpec)) fnExactEvenLinesUptoCard

/-- THE SECOND FORM's CARD OF 'laws.FnExactScrollPicture'. -/
def fnExactScrollPictureUptoCard : Claim7 := { stood := { row := fnExactScrollPictureUptoRow, standIns := [], harness := (true, "d6bbbb10968e4fd8766889e28373c2896701be4e9e4fe6a3f3a15c247dd97553"), looks := false }, kinds := [], alts := [], laidByText := true, laidKinds := [.data, .pinned], laidTests := true, laidLooks := .later }
def FnExactScrollPictureUptoCardSaid : Prop := Claim7.holds Tryd.pinned (.plain (OpenSpec.upto fnExactScrollPictureSpec)) fnExactScrollPictureUptoCard

/-- THE SECOND FORM's CARD OF 'laws.FnExactReadScroll'. -/
def fnExactReadScrollUptoCard : Claim7 := { stood := { row := fnExactReadScrollUptoRow, standIns := [], harness := (true, "d6bbbb10968e4fd8766889e28373c2896701be4e9e4fe6a3f3a15c247dd97553"), looks := false }, kinds := [], alts := [], laidByText := true, laidKinds := [.data, .pinned], laidTests := true, laidLooks := .later }
def FnExactReadScrollUptoCardSaid : Prop := Claim7.holds Tryd.pinned (.plain (OpenSpec.upto fnExactReadScrollSpec)) fnExactReadScrollUptoCard

/-- THE SECOND FORM's CARD OF 'laws.FnExactSharedWords'. -/
def fnExactSharedWordsUptoCard : Claim7 := { stood := { row := fnExactSharedWordsUptoRow, standIns := [], harness := (true, "d6bbbb10968e4fd8766889e28373c2896701be4e9e4fe6a3f3a15c247dd97553"), looks := false }, kinds := [], alts := [], laidByText := true, laidKinds := [.data, .pinned], laidTests := true, laidLooks := .later }
def FnExactSharedWordsUptoCardSaid : Prop := Claim7.holds Tryd.pinned (.plain (OpenSpec.upto fnExactSharedWordsSpec)) fnExactSharedWordsUptoCard
end Rows
end Go.Proofs.YtcfmohcpfmedaaaDoor
