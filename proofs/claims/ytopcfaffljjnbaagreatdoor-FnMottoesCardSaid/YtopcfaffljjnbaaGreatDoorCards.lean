/-
  DERIVED. GIVEN WITH THE SEED: THE CARDS: each row of YtopcfaffljjnbaaGreatDoorRows.lean that lists a variable, with what it lists TIED to the program's text (the seventh form; the later family's looks); each row that meets fmt, with fmt's text TOLD by the authors' own Lean function (tested against real Go, not proved from fmt's source: count such statements apart). THE CARD IS WHAT COUNTS. Prove the row's statement (the work); the ties are given (YtopcfaffljjnbaaGreatDoorTie.lean); close each card by the builder's one call (the guide's Derived/Test/ToyasCard.lean, 'card_holds'). Laid BY PROGRAM, IN A SANDBOX (cutbox-door.mjs). By AI agents, Wed Nov 11 2026. No macro, syntax, notation, axiom, sorry.
-/
import Derived.Test.YtopcfaffljjnbaaGreatDoorRows
import GoSem.ClaimSeven
namespace Go.Proofs.YtopcfaffljjnbaaGreatDoor
namespace Rows

/-- THE TIED CARD OF 'laws.FnMottoes'. -/
def fnMottoesCard : Claim7 := { stood := { row := fnMottoesRow, standIns := [], harness := (true, "345d7e2e3c2307144573ab934f1bb638114a7f9a68a6d6b36c37f19375068d1e"), looks := false }, kinds := [], alts := [], laidByText := true, laidKinds := [.data, .pinned], laidTests := true, laidLooks := .later }
def FnMottoesCardSaid : Prop := Claim7.holds Tryz.pinned (.plain (OpenSpec.ofChange fnMottoesSpec)) fnMottoesCard

/-- THE SECOND FORM's CARD OF 'laws.FnMottoes'. -/
def fnMottoesUptoCard : Claim7 := { stood := { row := fnMottoesUptoRow, standIns := [], harness := (true, "345d7e2e3c2307144573ab934f1bb638114a7f9a68a6d6b36c37f19375068d1e"), looks := false }, kinds := [], alts := [], laidByText := true, laidKinds := [.data, .pinned], laidTests := true, laidLooks := .later }
def FnMottoesUptoCardSaid : Prop := Claim7.holds Tryz.pinned (.plain (OpenSpec.upto fnMottoesSpec)) fnMottoesUptoCard
end Rows
end Go.Proofs.YtopcfaffljjnbaaGreatDoor
