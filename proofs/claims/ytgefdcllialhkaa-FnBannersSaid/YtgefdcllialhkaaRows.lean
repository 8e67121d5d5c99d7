/-
  No cell of these rows narrows 'for every input' (looked for: loops, veiled, ifaces, maps, wideKeys, modest, calm, conditions, laid).
  DERIVED. THE GIVEN ROWS OF THIS SEAT. 4 by the template 'for every input the law returns true; each argument reads behind the call as it read before'; 0 by the template 'total and deterministic' (their statements: YtgefdcllialhkaaTotals.lean).
  GIVEN WITH THE SEED: the statements are not yours to turn. If you find one false, say at which input.
  Laid BY PROGRAM, IN A SANDBOX (cutbox-rows.mjs): the forced cells as the released guide's own fill.sh prints them over the translation 36306802f15e5d6d… (all of the seat's roots in one cut). By AI agents, Wed Nov 11 2026. No macro, syntax, notation, axiom, sorry.
-/
import Derived.Test.YtgefdcllialhkaaChecked
import GoSem.Claim
import GoSem.ClaimJoined
import GoSem.ClaimMapViews
import Derived.JoinedTies
import Derived.KernelRfl
namespace Go.Proofs.Ytgefdcllialhkaa
/- THE CELL 'sum', in the pinned program and in every row, IS THE sha256 OF THE DUMP (.gsa) THAT YtgefdcllialhkaaProg.lean LOADS. Nothing in Lean hashes anything: it is a label: what it is worth is what the hold of that sum in a sandbox is worth. -/
noncomputable def Try.pinned : Pinned := { name := "ytgefdcllialhkaa", sum := "36306802f15e5d6d8e40218932e4be31be241177ef382eba5e00bad772549eed", checked := Try.checked }
namespace Rows
def none {H : Type} : Left H := { results := [], args := [] }

/-- 'laws.FnTails': WHATEVER THE INPUT: true; the input reads as it did. -/
def fnTailsSpec : ChangeSpec := { name := "fnTails", fn := fun _ => fun
  | [d] => { results := [.lit (.bool true)], args := [d] }
  | _ => none }
def fnTailsRow : OpenClaim := { program := "ytgefdcllialhkaa", sum := "36306802f15e5d6d8e40218932e4be31be241177ef382eba5e00bad772549eed", func := "loop.example/g00884/laws.FnTails", spec := "fnTails", unfollowed := true, recurses := true, apart := false }
def FnTailsSaid : Prop := fnTailsRow.holds Try.pinned (OpenSpec.ofChange fnTailsSpec)

/-- ITS FALSE NEIGHBOUR: 'it returns false'. Refute it at one input. -/
def fnTailsWrong : ChangeSpec := { name := "fnTails", fn := fun _ => fun
  | [d] => { results := [.lit (.bool false)], args := [d] }
  | _ => none }
def FnTailsWrongFalsely : Prop := fnTailsRow.holds Try.pinned (OpenSpec.ofChange fnTailsWrong)

/-- 'laws.FnPayments': WHATEVER THE INPUT: true; the input reads as it did. -/
def fnPaymentsSpec : ChangeSpec := { name := "fnPayments", fn := fun _ => fun
  | [d] => { results := [.lit (.bool true)], args := [d] }
  | _ => none }
def fnPaymentsRow : OpenClaim := { program := "ytgefdcllialhkaa", sum := "36306802f15e5d6d8e40218932e4be31be241177ef382eba5e00bad772549eed", func := "loop.example/g00884/laws.FnPayments", spec := "fnPayments", unfollowed := true, recurses := true, apart := false }
def FnPaymentsSaid : Prop := fnPaymentsRow.holds Try.pinned (OpenSpec.ofChange fnPaymentsSpec)

/-- ITS FALSE NEIGHBOUR: 'it returns false'. Refute it at one input. -/
def fnPaymentsWrong : ChangeSpec := { name := "fnPayments", fn := fun _ => fun
  | [d] => { results := [.lit (.bool false)], args := [d] }
  | _ => none }
def FnPaymentsWrongFalsely : Prop := fnPaymentsRow.holds Try.pinned (OpenSpec.ofChange fnPaymentsWrong)

/-- 'laws.FnFees': WHATEVER THE INPUT: true; the input reads as it did. -/
def fnFeesSpec : ChangeSpec := { name := "fnFees", fn := fun _ => fun
  | [d] => { results := [.lit (.bool true)], args := [d] }
  | _ => none }
def fnFeesRow : OpenClaim := { program := "ytgefdcllialhkaa", sum := "36306802f15e5d6d8e40218932e4be31be241177ef382eba5e00bad772549eed", func := "loop.example/g00884/laws.FnFees", spec := "fnFees", unfollowed := true, recurses := true, apart := false }
def FnFeesSaid : Prop := fnFeesRow.holds Try.pinned (OpenSpec.ofChange fnFeesSpec)

/-- ITS FALSE NEIGHBOUR: 'it returns false'. Refute it at one input. -/
def fnFeesWrong : ChangeSpec := { name := "fnFees", fn := fun _ => fun
  | [d] => { results := [.lit (.bool false)], args := [d] }
  | _ => none }
def FnFeesWrongFalsely : Prop := fnFeesRow.holds Try.pinned (OpenSpec.ofChange fnFeesWrong)

/-- 'laws.FnBanners': WHATEVER THE INPUT: true; the input reads as it did. -/
def fnBannersSpec : ChangeSpec := { name := "fnBanners", fn := fun _ => fun
  | [d] => { results := [.lit (.bool true)], args := [d] }
  | _ => none }
def fnBannersRow : OpenClaim := { program := "ytgefdcllialhkaa", sum := "36306802f15e5d6d8e40218932e4be31be241177ef382eba5e00bad772549eed", func := "loop.example/g00884/laws.FnBanners", spec := "fnBanners", unfollowed := true, recurses := true, apart := false }
def FnBannersSaid : Prop := fnBannersRow.holds Try.pinned (OpenSpec.ofChange fnBannersSpec)

/-- ITS FALSE NEIGHBOUR: 'it returns false'. Refute it at one input. -/
def fnBannersWrong : ChangeSpec := { name := "fnBanners", fn := fun _ => fun
  | [d] => { results := [.lit (.bool false)], args := [d] }
  | _ => none }
def FnBannersWrongFalsely : Prop := fnBannersRow.holds Try.pinned (OpenSpec.ofChange fnBannersWrong)

/- THE SECOND FORM. 'bulk': how many values and letters a reading holds, each counted each time it is reached (what is shared counts as often as it is met; a slice's spare places count too). A statement '..UptoSaid' is the law's where the arguments, and the package variables that the reading takes, are together of bulk at most 1048576: NARROWER than '..Said'. Prove '..Said' where nothing that the law and all that it calls make is longer than what came in: it says more and counts as full. Else prove '..UptoSaid'. A law counts once. -/
mutual
def uptoBulk {H : Type} : DataW H → Nat
  | .lit (.string bytes) => bytes.length + 1
  | .lit _ => 1
  | .nil => 1
  | .ptr d => uptoBulk d + 1
  | .slice elems spare => uptoBulkAll elems + uptoBulkAll spare + 1
  | .agg parts => uptoBulkAll parts + 1
  | .iface _ d => uptoBulk d + 1
  | .map entries => uptoBulkEntries entries + 1
  | .held _ => 1
def uptoBulkAll {H : Type} : List (DataW H) → Nat
  | [] => 0
  | d :: r => uptoBulk d + uptoBulkAll r
def uptoBulkEntries {H : Type} : List (Lit × DataW H) → Nat
  | [] => 0
  | x :: r => uptoBulkEntry x + uptoBulkEntries r
def uptoBulkEntry {H : Type} : Lit × DataW H → Nat
  | (.string bytes, d) => bytes.length + uptoBulk d + 1
  | (_, d) => uptoBulk d + 1
 end
def uptoSmall : (H : Type) → List (DataW H) → Bool := fun _ ds => decide (uptoBulkAll ds ≤ 1048576)
def OpenSpec.upto (s : _root_.Go.ChangeSpec) : _root_.Go.OpenSpec := { _root_.Go.OpenSpec.ofChange s with cond := some uptoSmall }

/-- 'laws.FnTails', WHERE WHAT IT READS IS OF BULK AT MOST 1048576: true; the input reads as it did. -/
def fnTailsUptoRow : OpenClaim := { program := "ytgefdcllialhkaa", sum := "36306802f15e5d6d8e40218932e4be31be241177ef382eba5e00bad772549eed", func := "loop.example/g00884/laws.FnTails", spec := "fnTails", unfollowed := true, recurses := true, apart := false, narrowed := true }
def FnTailsUptoSaid : Prop := fnTailsUptoRow.holds Try.pinned (OpenSpec.upto fnTailsSpec)

/-- 'laws.FnPayments', WHERE WHAT IT READS IS OF BULK AT MOST 1048576: true; the input reads as it did. -/
def fnPaymentsUptoRow : OpenClaim := { program := "ytgefdcllialhkaa", sum := "36306802f15e5d6d8e40218932e4be31be241177ef382eba5e00bad772549eed", func := "loop.example/g00884/laws.FnPayments", spec := "fnPayments", unfollowed := true, recurses := true, apart := false, narrowed := true }
def FnPaymentsUptoSaid : Prop := fnPaymentsUptoRow.holds Try.pinned (OpenSpec.upto fnPaymentsSpec)

/-- 'laws.FnFees', WHERE WHAT IT READS IS OF BULK AT MOST 1048576: true; the input reads as it did. -/
def fnFeesUptoRow : OpenClaim := { program := "ytgefdcllialhkaa", sum := "36306802f15e5d6d8e40218932e4be31be241177ef382eba5e00bad772549eed", func := "loop.example/g00884/laws.FnFees", spec := "fnFees", unfollowed := true, recurses := true, apart := false, narrowed := true }
def FnFeesUptoSaid : Prop := fnFeesUptoRow.holds Try.pinned (OpenSpec.upto fnFeesSpec)

/-- 'laws.FnBanners', WHERE WHAT IT READS IS OF BULK AT MOST 1048576: true; the input reads as it did. -/
def fnBannersUptoRow : OpenClaim := { program := "ytgefdcllialhkaa", sum := "36306802f15e5d6d8e40218932e4be31be241177ef382eba5e00bad772549eed", func := "loop.example/g00884/laws.FnBanners", spec := "fnBanners", unfollowed := true, recurses := true, apart := false, narrowed := true }
def FnBannersUptoSaid : Prop := fnBannersUptoRow.holds Try.pinned (OpenSpec.upto fnBannersSpec)

end Rows
end Go.Proofs.Ytgefdcllialhkaa
