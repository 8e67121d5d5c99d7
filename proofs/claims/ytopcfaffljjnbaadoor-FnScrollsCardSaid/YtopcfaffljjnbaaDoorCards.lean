/-
  DERIVED. GIVEN WITH THE SEED: THE CARDS: each row of YtopcfaffljjnbaaDoorRows.lean that lists a variable, with what it lists TIED to the program's text (the seventh form; the later family's looks); each row that meets fmt, with fmt's text TOLD by the authors' own Lean function (tested against real Go, not proved from fmt's source: count such statements apart). THE CARD IS WHAT COUNTS. Prove the row's statement (the work); the ties are given (YtopcfaffljjnbaaDoorTie.lean); close each card by the builder's one call (the guide's Derived/Test/ToyasCard.lean, 'card_holds'). Laid BY PROGRAM, IN A SANDBOX (cutbox-door.mjs). By AI agents, Wed Nov 11 2026. No macro, syntax, notation, axiom, sorry.
-/
import Derived.Test.YtopcfaffljjnbaaDoorRows
import GoSem.ClaimSeven
namespace Go.Proofs.YtopcfaffljjnbaaDoor
namespace Rows

/-- THE TIED CARD OF 'laws.FnScrolls'. -/
def fnScrollsCard : Claim7 := { stood := { row := fnScrollsRow, standIns := [], harness := (true, "12626d4388ab60da25a8a9f2fc5f0b079c92e527e543084d3a922932bc6a989c"), looks := false }, kinds := [], alts := [], laidByText := true, laidKinds := [.data, .pinned], laidTests := true, laidLooks := .later }
def FnScrollsCardSaid : Prop := Claim7.holds Tryd.pinned (.plain (OpenSpec.ofChange fnScrollsSpec)) fnScrollsCard

/-- THE SECOND FORM's CARD OF 'laws.FnScrolls'. -/
def fnScrollsUptoCard : Claim7 := { stood := { row := fnScrollsUptoRow, standIns := [], harness := (true, "12626d4388ab60da25a8a9f2fc5f0b079c92e527e543084d3a922932bc6a989c"), looks := false }, kinds := [], alts := [], laidByText := true, laidKinds := [.data, .pinned], laidTests := true, laidLooks := .later }
def FnScrollsUptoCardSaid : Prop := Claim7.holds Tryd.pinned (.plain (OpenSpec.upto fnScrollsSpec)) fnScrollsUptoCard
end Rows
end Go.Proofs.YtopcfaffljjnbaaDoor
