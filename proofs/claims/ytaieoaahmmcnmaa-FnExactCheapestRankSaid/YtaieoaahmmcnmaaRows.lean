/-
  No cell of these rows narrows 'for every input' (looked for: loops, veiled, ifaces, maps, wideKeys, modest, calm, conditions, laid).
  DERIVED. THE GIVEN ROWS OF THIS SEAT. 12 by the template 'for every input the law returns true; each argument reads behind the call as it read before'; 0 by the template 'total and deterministic' (their statements: YtaieoaahmmcnmaaTotals.lean).
  GIVEN WITH THE SEED: the statements are not yours to turn. If you find one false, say at which input.
  Laid BY PROGRAM, IN A SANDBOX (cutbox-rows.mjs): the forced cells as the released guide's own fill.sh prints them over the translation a9e88970918a3163… (all of the seat's roots in one cut). By AI agents, Wed Nov 11 2026. No macro, syntax, notation, axiom, sorry.
-/
import Derived.Test.YtaieoaahmmcnmaaChecked
import GoSem.Claim
import GoSem.ClaimJoined
import GoSem.ClaimMapViews
import Derived.JoinedTies
import Derived.KernelRfl
namespace Go.Proofs.Ytaieoaahmmcnmaa
/- THE CELL 'sum', in the pinned program and in every row, IS THE sha256 OF THE DUMP (.gsa) THAT YtaieoaahmmcnmaaProg.lean LOADS. Nothing in Lean hashes anything: it is a label: what it is worth is what the hold of that sum in a sandbox is worth. -/
noncomputable def Try.pinned : Pinned := { name := "ytaieoaahmmcnmaa", sum := "a9e88970918a3163d70afa33c1b2d49703b333197a4574d665093e8e916d0a44", checked := Try.checked }
namespace Rows
def none {H : Type} : Left H := { results := [], args := [] }

/-- 'laws.FnExactIsValidRoll': WHATEVER THE INPUT: true; the input reads as it did. -/
def fnExactIsValidRollSpec : ChangeSpec := { name := "fnExactIsValidRoll", fn := fun _ => fun
  | [d] => { results := [.lit (.bool true)], args := [d] }
  | _ => none }
def fnExactIsValidRollRow : OpenClaim := { program := "ytaieoaahmmcnmaa", sum := "a9e88970918a3163d70afa33c1b2d49703b333197a4574d665093e8e916d0a44", func := "loop.example/g00884/laws.FnExactIsValidRoll", spec := "fnExactIsValidRoll", apart := false }
def FnExactIsValidRollSaid : Prop := fnExactIsValidRollRow.holds Try.pinned (OpenSpec.ofChange fnExactIsValidRollSpec)

/-- ITS FALSE NEIGHBOUR: 'it returns false'. Refute it at one input. -/
def fnExactIsValidRollWrong : ChangeSpec := { name := "fnExactIsValidRoll", fn := fun _ => fun
  | [d] => { results := [.lit (.bool false)], args := [d] }
  | _ => none }
def FnExactIsValidRollWrongFalsely : Prop := fnExactIsValidRollRow.holds Try.pinned (OpenSpec.ofChange fnExactIsValidRollWrong)

/-- 'laws.FnExactReduceProportion': WHATEVER THE INPUT: true; the input reads as it did. -/
def fnExactReduceProportionSpec : ChangeSpec := { name := "fnExactReduceProportion", fn := fun _ => fun
  | [d1, d2] => { results := [.lit (.bool true)], args := [d1, d2] }
  | _ => none }
def fnExactReduceProportionRow : OpenClaim := { program := "ytaieoaahmmcnmaa", sum := "a9e88970918a3163d70afa33c1b2d49703b333197a4574d665093e8e916d0a44", func := "loop.example/g00884/laws.FnExactReduceProportion", spec := "fnExactReduceProportion", apart := false }
def FnExactReduceProportionSaid : Prop := fnExactReduceProportionRow.holds Try.pinned (OpenSpec.ofChange fnExactReduceProportionSpec)

/-- ITS FALSE NEIGHBOUR: 'it returns false'. Refute it at one input. -/
def fnExactReduceProportionWrong : ChangeSpec := { name := "fnExactReduceProportion", fn := fun _ => fun
  | [d1, d2] => { results := [.lit (.bool false)], args := [d1, d2] }
  | _ => none }
def FnExactReduceProportionWrongFalsely : Prop := fnExactReduceProportionRow.holds Try.pinned (OpenSpec.ofChange fnExactReduceProportionWrong)

/-- 'laws.FnExactSplitFee': WHATEVER THE INPUT: true; the input reads as it did. -/
def fnExactSplitFeeSpec : ChangeSpec := { name := "fnExactSplitFee", fn := fun _ => fun
  | [d1, d2] => { results := [.lit (.bool true)], args := [d1, d2] }
  | _ => none }
def fnExactSplitFeeRow : OpenClaim := { program := "ytaieoaahmmcnmaa", sum := "a9e88970918a3163d70afa33c1b2d49703b333197a4574d665093e8e916d0a44", func := "loop.example/g00884/laws.FnExactSplitFee", spec := "fnExactSplitFee", apart := false }
def FnExactSplitFeeSaid : Prop := fnExactSplitFeeRow.holds Try.pinned (OpenSpec.ofChange fnExactSplitFeeSpec)

/-- ITS FALSE NEIGHBOUR: 'it returns false'. Refute it at one input. -/
def fnExactSplitFeeWrong : ChangeSpec := { name := "fnExactSplitFee", fn := fun _ => fun
  | [d1, d2] => { results := [.lit (.bool false)], args := [d1, d2] }
  | _ => none }
def FnExactSplitFeeWrongFalsely : Prop := fnExactSplitFeeRow.holds Try.pinned (OpenSpec.ofChange fnExactSplitFeeWrong)

/-- 'laws.FnExactIsValidPetitions': WHATEVER THE INPUT: true; the input reads as it did. -/
def fnExactIsValidPetitionsSpec : ChangeSpec := { name := "fnExactIsValidPetitions", fn := fun _ => fun
  | [d] => { results := [.lit (.bool true)], args := [d] }
  | _ => none }
def fnExactIsValidPetitionsRow : OpenClaim := { program := "ytaieoaahmmcnmaa", sum := "a9e88970918a3163d70afa33c1b2d49703b333197a4574d665093e8e916d0a44", func := "loop.example/g00884/laws.FnExactIsValidPetitions", spec := "fnExactIsValidPetitions", apart := false }
def FnExactIsValidPetitionsSaid : Prop := fnExactIsValidPetitionsRow.holds Try.pinned (OpenSpec.ofChange fnExactIsValidPetitionsSpec)

/-- ITS FALSE NEIGHBOUR: 'it returns false'. Refute it at one input. -/
def fnExactIsValidPetitionsWrong : ChangeSpec := { name := "fnExactIsValidPetitions", fn := fun _ => fun
  | [d] => { results := [.lit (.bool false)], args := [d] }
  | _ => none }
def FnExactIsValidPetitionsWrongFalsely : Prop := fnExactIsValidPetitionsRow.holds Try.pinned (OpenSpec.ofChange fnExactIsValidPetitionsWrong)

/-- 'laws.FnExactIsValidBanner': WHATEVER THE INPUT: true; the input reads as it did. -/
def fnExactIsValidBannerSpec : ChangeSpec := { name := "fnExactIsValidBanner", fn := fun _ => fun
  | [d] => { results := [.lit (.bool true)], args := [d] }
  | _ => none }
def fnExactIsValidBannerRow : OpenClaim := { program := "ytaieoaahmmcnmaa", sum := "a9e88970918a3163d70afa33c1b2d49703b333197a4574d665093e8e916d0a44", func := "loop.example/g00884/laws.FnExactIsValidBanner", spec := "fnExactIsValidBanner", unfollowed := true, recurses := true, apart := false }
def FnExactIsValidBannerSaid : Prop := fnExactIsValidBannerRow.holds Try.pinned (OpenSpec.ofChange fnExactIsValidBannerSpec)

/-- ITS FALSE NEIGHBOUR: 'it returns false'. Refute it at one input. -/
def fnExactIsValidBannerWrong : ChangeSpec := { name := "fnExactIsValidBanner", fn := fun _ => fun
  | [d] => { results := [.lit (.bool false)], args := [d] }
  | _ => none }
def FnExactIsValidBannerWrongFalsely : Prop := fnExactIsValidBannerRow.holds Try.pinned (OpenSpec.ofChange fnExactIsValidBannerWrong)

/-- 'laws.FnExactBannerSizes': WHATEVER THE INPUT: true; the input reads as it did. -/
def fnExactBannerSizesSpec : ChangeSpec := { name := "fnExactBannerSizes", fn := fun _ => fun
  | [d] => { results := [.lit (.bool true)], args := [d] }
  | _ => none }
def fnExactBannerSizesRow : OpenClaim := { program := "ytaieoaahmmcnmaa", sum := "a9e88970918a3163d70afa33c1b2d49703b333197a4574d665093e8e916d0a44", func := "loop.example/g00884/laws.FnExactBannerSizes", spec := "fnExactBannerSizes", apart := false }
def FnExactBannerSizesSaid : Prop := fnExactBannerSizesRow.holds Try.pinned (OpenSpec.ofChange fnExactBannerSizesSpec)

/-- ITS FALSE NEIGHBOUR: 'it returns false'. Refute it at one input. -/
def fnExactBannerSizesWrong : ChangeSpec := { name := "fnExactBannerSizes", fn := fun _ => fun
  | [d] => { results := [.lit (.bool false)], args := [d] }
  | _ => none }
def FnExactBannerSizesWrongFalsely : Prop := fnExactBannerSizesRow.holds Try.pinned (OpenSpec.ofChange fnExactBannerSizesWrong)

/-- 'laws.FnExactCheapestRank': WHATEVER THE INPUT: true; the input reads as it did. -/
def fnExactCheapestRankSpec : ChangeSpec := { name := "fnExactCheapestRank", fn := fun _ => fun
  | [d] => { results := [.lit (.bool true)], args := [d] }
  | _ => none }
def fnExactCheapestRankRow : OpenClaim := { program := "ytaieoaahmmcnmaa", sum := "a9e88970918a3163d70afa33c1b2d49703b333197a4574d665093e8e916d0a44", func := "loop.example/g00884/laws.FnExactCheapestRank", spec := "fnExactCheapestRank", unfollowed := true, recurses := true, apart := false }
def FnExactCheapestRankSaid : Prop := fnExactCheapestRankRow.holds Try.pinned (OpenSpec.ofChange fnExactCheapestRankSpec)

/-- ITS FALSE NEIGHBOUR: 'it returns false'. Refute it at one input. -/
def fnExactCheapestRankWrong : ChangeSpec := { name := "fnExactCheapestRank", fn := fun _ => fun
  | [d] => { results := [.lit (.bool false)], args := [d] }
  | _ => none }
def FnExactCheapestRankWrongFalsely : Prop := fnExactCheapestRankRow.holds Try.pinned (OpenSpec.ofChange fnExactCheapestRankWrong)

/-- 'laws.FnExactKeepsProportion': WHATEVER THE INPUT: true; the input reads as it did. -/
def fnExactKeepsProportionSpec : ChangeSpec := { name := "fnExactKeepsProportion", fn := fun _ => fun
  | [d1, d2] => { results := [.lit (.bool true)], args := [d1, d2] }
  | _ => none }
def fnExactKeepsProportionRow : OpenClaim := { program := "ytaieoaahmmcnmaa", sum := "a9e88970918a3163d70afa33c1b2d49703b333197a4574d665093e8e916d0a44", func := "loop.example/g00884/laws.FnExactKeepsProportion", spec := "fnExactKeepsProportion", unfollowed := true, recurses := true, apart := false }
def FnExactKeepsProportionSaid : Prop := fnExactKeepsProportionRow.holds Try.pinned (OpenSpec.ofChange fnExactKeepsProportionSpec)

/-- ITS FALSE NEIGHBOUR: 'it returns false'. Refute it at one input. -/
def fnExactKeepsProportionWrong : ChangeSpec := { name := "fnExactKeepsProportion", fn := fun _ => fun
  | [d1, d2] => { results := [.lit (.bool false)], args := [d1, d2] }
  | _ => none }
def FnExactKeepsProportionWrongFalsely : Prop := fnExactKeepsProportionRow.holds Try.pinned (OpenSpec.ofChange fnExactKeepsProportionWrong)

/-- 'laws.FnExactIncomeOf': WHATEVER THE INPUT: true; the input reads as it did. -/
def fnExactIncomeOfSpec : ChangeSpec := { name := "fnExactIncomeOf", fn := fun _ => fun
  | [d] => { results := [.lit (.bool true)], args := [d] }
  | _ => none }
def fnExactIncomeOfRow : OpenClaim := { program := "ytaieoaahmmcnmaa", sum := "a9e88970918a3163d70afa33c1b2d49703b333197a4574d665093e8e916d0a44", func := "loop.example/g00884/laws.FnExactIncomeOf", spec := "fnExactIncomeOf", apart := false }
def FnExactIncomeOfSaid : Prop := fnExactIncomeOfRow.holds Try.pinned (OpenSpec.ofChange fnExactIncomeOfSpec)

/-- ITS FALSE NEIGHBOUR: 'it returns false'. Refute it at one input. -/
def fnExactIncomeOfWrong : ChangeSpec := { name := "fnExactIncomeOf", fn := fun _ => fun
  | [d] => { results := [.lit (.bool false)], args := [d] }
  | _ => none }
def FnExactIncomeOfWrongFalsely : Prop := fnExactIncomeOfRow.holds Try.pinned (OpenSpec.ofChange fnExactIncomeOfWrong)

/-- 'laws.FnExactOverduePetitions': WHATEVER THE INPUT: true; the input reads as it did. -/
def fnExactOverduePetitionsSpec : ChangeSpec := { name := "fnExactOverduePetitions", fn := fun _ => fun
  | [d1, d2, d3] => { results := [.lit (.bool true)], args := [d1, d2, d3] }
  | _ => none }
def fnExactOverduePetitionsRow : OpenClaim := { program := "ytaieoaahmmcnmaa", sum := "a9e88970918a3163d70afa33c1b2d49703b333197a4574d665093e8e916d0a44", func := "loop.example/g00884/laws.FnExactOverduePetitions", spec := "fnExactOverduePetitions", apart := false }
def FnExactOverduePetitionsSaid : Prop := fnExactOverduePetitionsRow.holds Try.pinned (OpenSpec.ofChange fnExactOverduePetitionsSpec)

/-- ITS FALSE NEIGHBOUR: 'it returns false'. Refute it at one input. -/
def fnExactOverduePetitionsWrong : ChangeSpec := { name := "fnExactOverduePetitions", fn := fun _ => fun
  | [d1, d2, d3] => { results := [.lit (.bool false)], args := [d1, d2, d3] }
  | _ => none }
def FnExactOverduePetitionsWrongFalsely : Prop := fnExactOverduePetitionsRow.holds Try.pinned (OpenSpec.ofChange fnExactOverduePetitionsWrong)

/-- 'laws.FnExactIsValidRecord': WHATEVER THE INPUT: true; the input reads as it did. -/
def fnExactIsValidRecordSpec : ChangeSpec := { name := "fnExactIsValidRecord", fn := fun _ => fun
  | [d] => { results := [.lit (.bool true)], args := [d] }
  | _ => none }
def fnExactIsValidRecordRow : OpenClaim := { program := "ytaieoaahmmcnmaa", sum := "a9e88970918a3163d70afa33c1b2d49703b333197a4574d665093e8e916d0a44", func := "loop.example/g00884/laws.FnExactIsValidRecord", spec := "fnExactIsValidRecord", inPlace := ["internal/bytealg.IndexByteString", "internal/bytealg.IndexString"], named := ["internal/bytealg.MaxLen"], apart := false }
def FnExactIsValidRecordSaid : Prop := fnExactIsValidRecordRow.holds Try.pinned (OpenSpec.ofChange fnExactIsValidRecordSpec)

/-- ITS FALSE NEIGHBOUR: 'it returns false'. Refute it at one input. -/
def fnExactIsValidRecordWrong : ChangeSpec := { name := "fnExactIsValidRecord", fn := fun _ => fun
  | [d] => { results := [.lit (.bool false)], args := [d] }
  | _ => none }
def FnExactIsValidRecordWrongFalsely : Prop := fnExactIsValidRecordRow.holds Try.pinned (OpenSpec.ofChange fnExactIsValidRecordWrong)

/-- 'laws.FnExactTinctureAreas': WHATEVER THE INPUT: true; the input reads as it did. -/
def fnExactTinctureAreasSpec : ChangeSpec := { name := "fnExactTinctureAreas", fn := fun _ => fun
  | [d] => { results := [.lit (.bool true)], args := [d] }
  | _ => none }
def fnExactTinctureAreasRow : OpenClaim := { program := "ytaieoaahmmcnmaa", sum := "a9e88970918a3163d70afa33c1b2d49703b333197a4574d665093e8e916d0a44", func := "loop.example/g00884/laws.FnExactTinctureAreas", spec := "fnExactTinctureAreas", unfollowed := true, recurses := true, apart := false }
def FnExactTinctureAreasSaid : Prop := fnExactTinctureAreasRow.holds Try.pinned (OpenSpec.ofChange fnExactTinctureAreasSpec)

/-- ITS FALSE NEIGHBOUR: 'it returns false'. Refute it at one input. -/
def fnExactTinctureAreasWrong : ChangeSpec := { name := "fnExactTinctureAreas", fn := fun _ => fun
  | [d] => { results := [.lit (.bool false)], args := [d] }
  | _ => none }
def FnExactTinctureAreasWrongFalsely : Prop := fnExactTinctureAreasRow.holds Try.pinned (OpenSpec.ofChange fnExactTinctureAreasWrong)

/- THE SECOND FORM. 'bulk': how many values and letters a reading holds, each counted each time it is reached (what is shared counts as often as it is met; a slice's spare places count too). A statement '..UptoSaid' is the law's where the arguments, and the package variables that the reading takes, are together of bulk at most 1048576: NARROWER than '..Said'. Prove '..Said' where nothing that the law and all that it calls make is longer than what came in: it says more and counts as full. Else prove '..UptoSaid'. A law counts once. -/
mutual
def uptoBulk {H : Type} : DataW H → Nat
  | .lit (.string bytes) => bytes.length + 1
  | .lit _ => 1
  | .nil => 1
  | .ptr d => uptoBulk d + 1
  | .slice elems spare => uptoBulkAll elems + uptoBulkAll spare + 1
  | .agg parts => uptoBulkAll parts + 1
  | .iface _ d => uptoBulk d + 1
  | .map entries => uptoBulkEntries entries + 1
  | .held _ => 1
def uptoBulkAll {H : Type} : List (DataW H) → Nat
  | [] => 0
  | d :: r => uptoBulk d + uptoBulkAll r
def uptoBulkEntries {H : Type} : List (Lit × DataW H) → Nat
  | [] => 0
  | x :: r => uptoBulkEntry x + uptoBulkEntries r
def uptoBulkEntry {H : Type} : Lit × DataW H → Nat
  | (.string bytes, d) => bytes.length + uptoBulk d + 1
  | (_, d) => uptoBulk d + 1
 end
def uptoSmall : (H : Type) → List (DataW H) → Bool := fun _ ds => decide (uptoBulkAll ds ≤ 1048576)
def OpenSpec.upto (s : _root_.Go.ChangeSpec) : _root_.Go.OpenSpec := { _root_.Go.OpenSpec.ofChange s with cond := some uptoSmall }

/-- 'laws.FnExactIsValidRoll', WHERE WHAT IT READS IS OF BULK AT MOST 1048576: true; the input reads as it did. -/
def fnExactIsValidRollUptoRow : OpenClaim := { program := "ytaieoaahmmcnmaa", sum := "a9e88970918a3163d70afa33c1b2d49703b333197a4574d665093e8e916d0a44", func := "loop.example/g00884/laws.FnExactIsValidRoll", spec := "fnExactIsValidRoll", apart := false, narrowed := true }
def FnExactIsValidRollUptoSaid : Prop := fnExactIsValidRollUptoRow.holds Try.pinned (OpenSpec.upto fnExactIsValidRollSpec)

/-- 'laws.FnExactReduceProportion', WHERE WHAT IT READS IS OF BULK AT MOST 1048576: true; the input reads as it did. -/
def fnExactReduceProportionUptoRow : OpenClaim := { program := "ytaieoaahmmcnmaa", sum := "a9e88970918a3163d70afa33c1b2d49703b333197a4574d665093e8e916d0a44", func := "loop.example/g00884/laws.FnExactReduceProportion", spec := "fnExactReduceProportion", apart := false, narrowed := true }
def FnExactReduceProportionUptoSaid : Prop := fnExactReduceProportionUptoRow.holds Try.pinned (OpenSpec.upto fnExactReduceProportionSpec)

/-- 'laws.FnExactSplitFee', WHERE WHAT IT READS IS OF BULK AT MOST 1048576: true; the input reads as it did. -/
def fnExactSplitFeeUptoRow : OpenClaim := { program := "ytaieoaahmmcnmaa", sum := "a9e88970918a3163d70afa33c1b2d49703b333197a4574d665093e8e916d0a44", func := "loop.example/g00884/laws.FnExactSplitFee", spec := "fnExactSplitFee", apart := false, narrowed := true }
def FnExactSplitFeeUptoSaid : Prop := fnExactSplitFeeUptoRow.holds Try.pinned (OpenSpec.upto fnExactSplitFeeSpec)

/-- 'laws.FnExactIsValidPetitions', WHERE WHAT IT READS IS OF BULK AT MOST 1048576: true; the input reads as it did. -/
def fnExactIsValidPetitionsUptoRow : OpenClaim := { program := "ytaieoaahmmcnmaa", sum := "a9e88970918a3163d70afa33c1b2d49703b333197a4574d665093e8e916d0a44", func := "loop.example/g00884/laws.FnExactIsValidPetitions", spec := "fnExactIsValidPetitions", apart := false, narrowed := true }
def FnExactIsValidPetitionsUptoSaid : Prop := fnExactIsValidPetitionsUptoRow.holds Try.pinned (OpenSpec.upto fnExactIsValidPetitionsSpec)

/-- 'laws.FnExactIsValidBanner', WHERE WHAT IT READS IS OF BULK AT MOST 1048576: true; the input reads as it did. -/
def fnExactIsValidBannerUptoRow : OpenClaim := { program := "ytaieoaahmmcnmaa", sum := "a9e88970918a3163d70afa33c1b2d49703b333197a4574d665093e8e916d0a44", func := "loop.example/g00884/laws.FnExactIsValidBanner", spec := "fnExactIsValidBanner", unfollowed := true, recurses := true, apart := false, narrowed := true }
def FnExactIsValidBannerUptoSaid : Prop := fnExactIsValidBannerUptoRow.holds Try.pinned (OpenSpec.upto fnExactIsValidBannerSpec)

/-- 'laws.FnExactBannerSizes', WHERE WHAT IT READS IS OF BULK AT MOST 1048576: true; the input reads as it did. -/
def fnExactBannerSizesUptoRow : OpenClaim := { program := "ytaieoaahmmcnmaa", sum := "a9e88970918a3163d70afa33c1b2d49703b333197a4574d665093e8e916d0a44", func := "loop.example/g00884/laws.FnExactBannerSizes", spec := "fnExactBannerSizes", apart := false, narrowed := true }
def FnExactBannerSizesUptoSaid : Prop := fnExactBannerSizesUptoRow.holds Try.pinned (OpenSpec.upto fnExactBannerSizesSpec)

/-- 'laws.FnExactCheapestRank', WHERE WHAT IT READS IS OF BULK AT MOST 1048576: true; the input reads as it did. -/
def fnExactCheapestRankUptoRow : OpenClaim := { program := "ytaieoaahmmcnmaa", sum := "a9e88970918a3163d70afa33c1b2d49703b333197a4574d665093e8e916d0a44", func := "loop.example/g00884/laws.FnExactCheapestRank", spec := "fnExactCheapestRank", unfollowed := true, recurses := true, apart := false, narrowed := true }
def FnExactCheapestRankUptoSaid : Prop := fnExactCheapestRankUptoRow.holds Try.pinned (OpenSpec.upto fnExactCheapestRankSpec)

/-- 'laws.FnExactKeepsProportion', WHERE WHAT IT READS IS OF BULK AT MOST 1048576: true; the input reads as it did. -/
def fnExactKeepsProportionUptoRow : OpenClaim := { program := "ytaieoaahmmcnmaa", sum := "a9e88970918a3163d70afa33c1b2d49703b333197a4574d665093e8e916d0a44", func := "loop.example/g00884/laws.FnExactKeepsProportion", spec := "fnExactKeepsProportion", unfollowed := true, recurses := true, apart := false, narrowed := true }
def FnExactKeepsProportionUptoSaid : Prop := fnExactKeepsProportionUptoRow.holds Try.pinned (OpenSpec.upto fnExactKeepsProportionSpec)

/-- 'laws.FnExactIncomeOf', WHERE WHAT IT READS IS OF BULK AT MOST 1048576: true; the input reads as it did. -/
def fnExactIncomeOfUptoRow : OpenClaim := { program := "ytaieoaahmmcnmaa", sum := "a9e88970918a3163d70afa33c1b2d49703b333197a4574d665093e8e916d0a44", func := "loop.example/g00884/laws.FnExactIncomeOf", spec := "fnExactIncomeOf", apart := false, narrowed := true }
def FnExactIncomeOfUptoSaid : Prop := fnExactIncomeOfUptoRow.holds Try.pinned (OpenSpec.upto fnExactIncomeOfSpec)

/-- 'laws.FnExactOverduePetitions', WHERE WHAT IT READS IS OF BULK AT MOST 1048576: true; the input reads as it did. -/
def fnExactOverduePetitionsUptoRow : OpenClaim := { program := "ytaieoaahmmcnmaa", sum := "a9e88970918a3163d70afa33c1b2d49703b333197a4574d665093e8e916d0a44", func := "loop.example/g00884/laws.FnExactOverduePetitions", spec := "fnExactOverduePetitions", apart := false, narrowed := true }
def FnExactOverduePetitionsUptoSaid : Prop := fnExactOverduePetitionsUptoRow.holds Try.pinned (OpenSpec.upto fnExactOverduePetitionsSpec)

/-- 'laws.FnExactIsValidRecord', WHERE WHAT IT READS IS OF BULK AT MOST 1048576: true; the input reads as it did. -/
def fnExactIsValidRecordUptoRow : OpenClaim := { program := "ytaieoaahmmcnmaa", sum := "a9e88970918a3163d70afa33c1b2d49703b333197a4574d665093e8e916d0a44", func := "loop.example/g00884/laws.FnExactIsValidRecord", spec := "fnExactIsValidRecord", inPlace := ["internal/bytealg.IndexByteString", "internal/bytealg.IndexString"], named := ["internal/bytealg.MaxLen"], apart := false, narrowed := true }
def FnExactIsValidRecordUptoSaid : Prop := fnExactIsValidRecordUptoRow.holds Try.pinned (OpenSpec.upto fnExactIsValidRecordSpec)

/-- 'laws.FnExactTinctureAreas', WHERE WHAT IT READS IS OF BULK AT MOST 1048576: true; the input reads as it did. -/
def fnExactTinctureAreasUptoRow : OpenClaim := { program := "ytaieoaahmmcnmaa", sum := "a9e88970918a3163d70afa33c1b2d49703b333197a4574d665093e8e916d0a44", func := "loop.example/g00884/laws.FnExactTinctureAreas", spec := "fnExactTinctureAreas", unfollowed := true, recurses := true, apart := false, narrowed := true }
def FnExactTinctureAreasUptoSaid : Prop := fnExactTinctureAreasUptoRow.holds Try.pinned (OpenSpec.upto fnExactTinctureAreasSpec)

end Rows
end Go.Proofs.Ytaieoaahmmcnmaa
