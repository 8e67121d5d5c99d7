/-
  No cell of these rows narrows 'for every input' (looked for: loops, veiled, ifaces, maps, wideKeys, modest, calm, conditions, laid).
  DERIVED. THE GIVEN ROWS OF THIS SEAT. 12 by the template 'for every input the law returns true; each argument reads behind the call as it read before'; 0 by the template 'total and deterministic' (their statements: YtnihjjelamfgdaaTotals.lean).
  GIVEN WITH THE SEED: the statements are not yours to turn. If you find one false, say at which input.
  Laid BY PROGRAM, IN A SANDBOX (cutbox-rows.mjs): the forced cells as the released guide's own fill.sh prints them over the translation 73bb3da5d2d2ad77… (all of the seat's roots in one cut). By AI agents, Wed Nov 11 2026. No macro, syntax, notation, axiom, sorry.
-/
import Derived.Test.YtnihjjelamfgdaaChecked
import GoSem.Claim
import GoSem.ClaimJoined
import GoSem.ClaimMapViews
import Derived.JoinedTies
import Derived.KernelRfl
namespace Go.Proofs.Ytnihjjelamfgdaa
/- THE CELL 'sum', in the pinned program and in every row, IS THE sha256 OF THE DUMP (.gsa) THAT YtnihjjelamfgdaaProg.lean LOADS. Nothing in Lean hashes anything: it is a label: what it is worth is what the hold of that sum in a sandbox is worth. -/
noncomputable def Try.pinned : Pinned := { name := "ytnihjjelamfgdaa", sum := "73bb3da5d2d2ad776e8d7138f114e71f202db3b29d05737460b8b99a2eff6714", checked := Try.checked }
namespace Rows
def none {H : Type} : Left H := { results := [], args := [] }

/-- 'laws.FnExactIsValidRecord': WHATEVER THE INPUT: true; the input reads as it did. -/
def fnExactIsValidRecordSpec : ChangeSpec := { name := "fnExactIsValidRecord", fn := fun _ => fun
  | [d] => { results := [.lit (.bool true)], args := [d] }
  | _ => none }
def fnExactIsValidRecordRow : OpenClaim := { program := "ytnihjjelamfgdaa", sum := "73bb3da5d2d2ad776e8d7138f114e71f202db3b29d05737460b8b99a2eff6714", func := "loop.example/g00884/laws.FnExactIsValidRecord", spec := "fnExactIsValidRecord", inPlace := ["internal/bytealg.IndexByteString", "internal/bytealg.IndexString"], named := ["internal/bytealg.MaxLen"], apart := false }
def FnExactIsValidRecordSaid : Prop := fnExactIsValidRecordRow.holds Try.pinned (OpenSpec.ofChange fnExactIsValidRecordSpec)

/-- ITS FALSE NEIGHBOUR: 'it returns false'. Refute it at one input. -/
def fnExactIsValidRecordWrong : ChangeSpec := { name := "fnExactIsValidRecord", fn := fun _ => fun
  | [d] => { results := [.lit (.bool false)], args := [d] }
  | _ => none }
def FnExactIsValidRecordWrongFalsely : Prop := fnExactIsValidRecordRow.holds Try.pinned (OpenSpec.ofChange fnExactIsValidRecordWrong)

/-- 'laws.FnExactOpenPetition': WHATEVER THE INPUT: true; the input reads as it did. -/
def fnExactOpenPetitionSpec : ChangeSpec := { name := "fnExactOpenPetition", fn := fun _ => fun
  | [d1, d2, d3] => { results := [.lit (.bool true)], args := [d1, d2, d3] }
  | _ => none }
def fnExactOpenPetitionRow : OpenClaim := { program := "ytnihjjelamfgdaa", sum := "73bb3da5d2d2ad776e8d7138f114e71f202db3b29d05737460b8b99a2eff6714", func := "loop.example/g00884/laws.FnExactOpenPetition", spec := "fnExactOpenPetition", apart := false }
def FnExactOpenPetitionSaid : Prop := fnExactOpenPetitionRow.holds Try.pinned (OpenSpec.ofChange fnExactOpenPetitionSpec)

/-- ITS FALSE NEIGHBOUR: 'it returns false'. Refute it at one input. -/
def fnExactOpenPetitionWrong : ChangeSpec := { name := "fnExactOpenPetition", fn := fun _ => fun
  | [d1, d2, d3] => { results := [.lit (.bool false)], args := [d1, d2, d3] }
  | _ => none }
def FnExactOpenPetitionWrongFalsely : Prop := fnExactOpenPetitionRow.holds Try.pinned (OpenSpec.ofChange fnExactOpenPetitionWrong)

/-- 'laws.FnExactMirrorBanner': WHATEVER THE INPUT: true; the input reads as it did. -/
def fnExactMirrorBannerSpec : ChangeSpec := { name := "fnExactMirrorBanner", fn := fun _ => fun
  | [d] => { results := [.lit (.bool true)], args := [d] }
  | _ => none }
def fnExactMirrorBannerRow : OpenClaim := { program := "ytnihjjelamfgdaa", sum := "73bb3da5d2d2ad776e8d7138f114e71f202db3b29d05737460b8b99a2eff6714", func := "loop.example/g00884/laws.FnExactMirrorBanner", spec := "fnExactMirrorBanner", unfollowed := true, recurses := true, apart := false }
def FnExactMirrorBannerSaid : Prop := fnExactMirrorBannerRow.holds Try.pinned (OpenSpec.ofChange fnExactMirrorBannerSpec)

/-- ITS FALSE NEIGHBOUR: 'it returns false'. Refute it at one input. -/
def fnExactMirrorBannerWrong : ChangeSpec := { name := "fnExactMirrorBanner", fn := fun _ => fun
  | [d] => { results := [.lit (.bool false)], args := [d] }
  | _ => none }
def FnExactMirrorBannerWrongFalsely : Prop := fnExactMirrorBannerRow.holds Try.pinned (OpenSpec.ofChange fnExactMirrorBannerWrong)

/-- 'laws.FnExactBannerOf': WHATEVER THE INPUT: true; the input reads as it did. -/
def fnExactBannerOfSpec : ChangeSpec := { name := "fnExactBannerOf", fn := fun _ => fun
  | [d1, d2, d3] => { results := [.lit (.bool true)], args := [d1, d2, d3] }
  | _ => none }
def fnExactBannerOfRow : OpenClaim := { program := "ytnihjjelamfgdaa", sum := "73bb3da5d2d2ad776e8d7138f114e71f202db3b29d05737460b8b99a2eff6714", func := "loop.example/g00884/laws.FnExactBannerOf", spec := "fnExactBannerOf", unfollowed := true, recurses := true, apart := false }
def FnExactBannerOfSaid : Prop := fnExactBannerOfRow.holds Try.pinned (OpenSpec.ofChange fnExactBannerOfSpec)

/-- ITS FALSE NEIGHBOUR: 'it returns false'. Refute it at one input. -/
def fnExactBannerOfWrong : ChangeSpec := { name := "fnExactBannerOf", fn := fun _ => fun
  | [d1, d2, d3] => { results := [.lit (.bool false)], args := [d1, d2, d3] }
  | _ => none }
def FnExactBannerOfWrongFalsely : Prop := fnExactBannerOfRow.holds Try.pinned (OpenSpec.ofChange fnExactBannerOfWrong)

/-- 'laws.FnExactBorderBanner': WHATEVER THE INPUT: true; the input reads as it did. -/
def fnExactBorderBannerSpec : ChangeSpec := { name := "fnExactBorderBanner", fn := fun _ => fun
  | [d1, d2, d3] => { results := [.lit (.bool true)], args := [d1, d2, d3] }
  | _ => none }
def fnExactBorderBannerRow : OpenClaim := { program := "ytnihjjelamfgdaa", sum := "73bb3da5d2d2ad776e8d7138f114e71f202db3b29d05737460b8b99a2eff6714", func := "loop.example/g00884/laws.FnExactBorderBanner", spec := "fnExactBorderBanner", unfollowed := true, recurses := true, apart := false }
def FnExactBorderBannerSaid : Prop := fnExactBorderBannerRow.holds Try.pinned (OpenSpec.ofChange fnExactBorderBannerSpec)

/-- ITS FALSE NEIGHBOUR: 'it returns false'. Refute it at one input. -/
def fnExactBorderBannerWrong : ChangeSpec := { name := "fnExactBorderBanner", fn := fun _ => fun
  | [d1, d2, d3] => { results := [.lit (.bool false)], args := [d1, d2, d3] }
  | _ => none }
def FnExactBorderBannerWrongFalsely : Prop := fnExactBorderBannerRow.holds Try.pinned (OpenSpec.ofChange fnExactBorderBannerWrong)

/-- 'laws.FnExactTailBanner': WHATEVER THE INPUT: true; the input reads as it did. -/
def fnExactTailBannerSpec : ChangeSpec := { name := "fnExactTailBanner", fn := fun _ => fun
  | [d1, d2] => { results := [.lit (.bool true)], args := [d1, d2] }
  | _ => none }
def fnExactTailBannerRow : OpenClaim := { program := "ytnihjjelamfgdaa", sum := "73bb3da5d2d2ad776e8d7138f114e71f202db3b29d05737460b8b99a2eff6714", func := "loop.example/g00884/laws.FnExactTailBanner", spec := "fnExactTailBanner", unfollowed := true, recurses := true, apart := false }
def FnExactTailBannerSaid : Prop := fnExactTailBannerRow.holds Try.pinned (OpenSpec.ofChange fnExactTailBannerSpec)

/-- ITS FALSE NEIGHBOUR: 'it returns false'. Refute it at one input. -/
def fnExactTailBannerWrong : ChangeSpec := { name := "fnExactTailBanner", fn := fun _ => fun
  | [d1, d2] => { results := [.lit (.bool false)], args := [d1, d2] }
  | _ => none }
def FnExactTailBannerWrongFalsely : Prop := fnExactTailBannerRow.holds Try.pinned (OpenSpec.ofChange fnExactTailBannerWrong)

/-- 'laws.FnExactPayPetition': WHATEVER THE INPUT: true; the input reads as it did. -/
def fnExactPayPetitionSpec : ChangeSpec := { name := "fnExactPayPetition", fn := fun _ => fun
  | [d1, d2, d3, d4, d5] => { results := [.lit (.bool true)], args := [d1, d2, d3, d4, d5] }
  | _ => none }
def fnExactPayPetitionRow : OpenClaim := { program := "ytnihjjelamfgdaa", sum := "73bb3da5d2d2ad776e8d7138f114e71f202db3b29d05737460b8b99a2eff6714", func := "loop.example/g00884/laws.FnExactPayPetition", spec := "fnExactPayPetition", unfollowed := true, recurses := true, apart := false }
def FnExactPayPetitionSaid : Prop := fnExactPayPetitionRow.holds Try.pinned (OpenSpec.ofChange fnExactPayPetitionSpec)

/-- ITS FALSE NEIGHBOUR: 'it returns false'. Refute it at one input. -/
def fnExactPayPetitionWrong : ChangeSpec := { name := "fnExactPayPetition", fn := fun _ => fun
  | [d1, d2, d3, d4, d5] => { results := [.lit (.bool false)], args := [d1, d2, d3, d4, d5] }
  | _ => none }
def FnExactPayPetitionWrongFalsely : Prop := fnExactPayPetitionRow.holds Try.pinned (OpenSpec.ofChange fnExactPayPetitionWrong)

/-- 'laws.FnExactFeeFor': WHATEVER THE INPUT: true; the input reads as it did. -/
def fnExactFeeForSpec : ChangeSpec := { name := "fnExactFeeFor", fn := fun _ => fun
  | [d1, d2, d3, d4] => { results := [.lit (.bool true)], args := [d1, d2, d3, d4] }
  | _ => none }
def fnExactFeeForRow : OpenClaim := { program := "ytnihjjelamfgdaa", sum := "73bb3da5d2d2ad776e8d7138f114e71f202db3b29d05737460b8b99a2eff6714", func := "loop.example/g00884/laws.FnExactFeeFor", spec := "fnExactFeeFor", unfollowed := true, recurses := true, apart := false }
def FnExactFeeForSaid : Prop := fnExactFeeForRow.holds Try.pinned (OpenSpec.ofChange fnExactFeeForSpec)

/-- ITS FALSE NEIGHBOUR: 'it returns false'. Refute it at one input. -/
def fnExactFeeForWrong : ChangeSpec := { name := "fnExactFeeFor", fn := fun _ => fun
  | [d1, d2, d3, d4] => { results := [.lit (.bool false)], args := [d1, d2, d3, d4] }
  | _ => none }
def FnExactFeeForWrongFalsely : Prop := fnExactFeeForRow.holds Try.pinned (OpenSpec.ofChange fnExactFeeForWrong)

/-- 'laws.FnExactDecidePetition': WHATEVER THE INPUT: true; the input reads as it did. -/
def fnExactDecidePetitionSpec : ChangeSpec := { name := "fnExactDecidePetition", fn := fun _ => fun
  | [d1, d2, d3, d4, d5] => { results := [.lit (.bool true)], args := [d1, d2, d3, d4, d5] }
  | _ => none }
def fnExactDecidePetitionRow : OpenClaim := { program := "ytnihjjelamfgdaa", sum := "73bb3da5d2d2ad776e8d7138f114e71f202db3b29d05737460b8b99a2eff6714", func := "loop.example/g00884/laws.FnExactDecidePetition", spec := "fnExactDecidePetition", unfollowed := true, recurses := true, apart := false }
def FnExactDecidePetitionSaid : Prop := fnExactDecidePetitionRow.holds Try.pinned (OpenSpec.ofChange fnExactDecidePetitionSpec)

/-- ITS FALSE NEIGHBOUR: 'it returns false'. Refute it at one input. -/
def fnExactDecidePetitionWrong : ChangeSpec := { name := "fnExactDecidePetition", fn := fun _ => fun
  | [d1, d2, d3, d4, d5] => { results := [.lit (.bool false)], args := [d1, d2, d3, d4, d5] }
  | _ => none }
def FnExactDecidePetitionWrongFalsely : Prop := fnExactDecidePetitionRow.holds Try.pinned (OpenSpec.ofChange fnExactDecidePetitionWrong)

/-- 'laws.FnTails': WHATEVER THE INPUT: true; the input reads as it did. -/
def fnTailsSpec : ChangeSpec := { name := "fnTails", fn := fun _ => fun
  | [d] => { results := [.lit (.bool true)], args := [d] }
  | _ => none }
def fnTailsRow : OpenClaim := { program := "ytnihjjelamfgdaa", sum := "73bb3da5d2d2ad776e8d7138f114e71f202db3b29d05737460b8b99a2eff6714", func := "loop.example/g00884/laws.FnTails", spec := "fnTails", unfollowed := true, recurses := true, apart := false }
def FnTailsSaid : Prop := fnTailsRow.holds Try.pinned (OpenSpec.ofChange fnTailsSpec)

/-- ITS FALSE NEIGHBOUR: 'it returns false'. Refute it at one input. -/
def fnTailsWrong : ChangeSpec := { name := "fnTails", fn := fun _ => fun
  | [d] => { results := [.lit (.bool false)], args := [d] }
  | _ => none }
def FnTailsWrongFalsely : Prop := fnTailsRow.holds Try.pinned (OpenSpec.ofChange fnTailsWrong)

/-- 'laws.FnPayments': WHATEVER THE INPUT: true; the input reads as it did. -/
def fnPaymentsSpec : ChangeSpec := { name := "fnPayments", fn := fun _ => fun
  | [d] => { results := [.lit (.bool true)], args := [d] }
  | _ => none }
def fnPaymentsRow : OpenClaim := { program := "ytnihjjelamfgdaa", sum := "73bb3da5d2d2ad776e8d7138f114e71f202db3b29d05737460b8b99a2eff6714", func := "loop.example/g00884/laws.FnPayments", spec := "fnPayments", unfollowed := true, recurses := true, apart := false }
def FnPaymentsSaid : Prop := fnPaymentsRow.holds Try.pinned (OpenSpec.ofChange fnPaymentsSpec)

/-- ITS FALSE NEIGHBOUR: 'it returns false'. Refute it at one input. -/
def fnPaymentsWrong : ChangeSpec := { name := "fnPayments", fn := fun _ => fun
  | [d] => { results := [.lit (.bool false)], args := [d] }
  | _ => none }
def FnPaymentsWrongFalsely : Prop := fnPaymentsRow.holds Try.pinned (OpenSpec.ofChange fnPaymentsWrong)

/-- 'laws.FnFees': WHATEVER THE INPUT: true; the input reads as it did. -/
def fnFeesSpec : ChangeSpec := { name := "fnFees", fn := fun _ => fun
  | [d] => { results := [.lit (.bool true)], args := [d] }
  | _ => none }
def fnFeesRow : OpenClaim := { program := "ytnihjjelamfgdaa", sum := "73bb3da5d2d2ad776e8d7138f114e71f202db3b29d05737460b8b99a2eff6714", func := "loop.example/g00884/laws.FnFees", spec := "fnFees", unfollowed := true, recurses := true, apart := false }
def FnFeesSaid : Prop := fnFeesRow.holds Try.pinned (OpenSpec.ofChange fnFeesSpec)

/-- ITS FALSE NEIGHBOUR: 'it returns false'. Refute it at one input. -/
def fnFeesWrong : ChangeSpec := { name := "fnFees", fn := fun _ => fun
  | [d] => { results := [.lit (.bool false)], args := [d] }
  | _ => none }
def FnFeesWrongFalsely : Prop := fnFeesRow.holds Try.pinned (OpenSpec.ofChange fnFeesWrong)

/- THE SECOND FORM. 'bulk': how many values and letters a reading holds, each counted each time it is reached (what is shared counts as often as it is met; a slice's spare places count too). A statement '..UptoSaid' is the law's where the arguments, and the package variables that the reading takes, are together of bulk at most 1048576: NARROWER than '..Said'. Prove '..Said' where nothing that the law and all that it calls make is longer than what came in: it says more and counts as full. Else prove '..UptoSaid'. A law counts once. -/
mutual
def uptoBulk {H : Type} : DataW H → Nat
  | .lit (.string bytes) => bytes.length + 1
  | .lit _ => 1
  | .nil => 1
  | .ptr d => uptoBulk d + 1
  | .slice elems spare => uptoBulkAll elems + uptoBulkAll spare + 1
  | .agg parts => uptoBulkAll parts + 1
  | .iface _ d => uptoBulk d + 1
  | .map entries => uptoBulkEntries entries + 1
  | .held _ => 1
def uptoBulkAll {H : Type} : List (DataW H) → Nat
  | [] => 0
  | d :: r => uptoBulk d + uptoBulkAll r
def uptoBulkEntries {H : Type} : List (Lit × DataW H) → Nat
  | [] => 0
  | x :: r => uptoBulkEntry x + uptoBulkEntries r
def uptoBulkEntry {H : Type} : Lit × DataW H → Nat
  | (.string bytes, d) => bytes.length + uptoBulk d + 1
  | (_, d) => uptoBulk d + 1
 end
def uptoSmall : (H : Type) → List (DataW H) → Bool := fun _ ds => decide (uptoBulkAll ds ≤ 1048576)
def OpenSpec.upto (s : _root_.Go.ChangeSpec) : _root_.Go.OpenSpec := { _root_.Go.OpenSpec.ofChange s with cond := some uptoSmall }

/-- 'laws.FnExactIsValidRecord', WHERE WHAT IT READS IS OF BULK AT MOST 1048576: true; the input reads as it did. -/
def fnExactIsValidRecordUptoRow : OpenClaim := { program := "ytnihjjelamfgdaa", sum := "73bb3da5d2d2ad776e8d7138f114e71f202db3b29d05737460b8b99a2eff6714", func := "loop.example/g00884/laws.FnExactIsValidRecord", spec := "fnExactIsValidRecord", inPlace := ["internal/bytealg.IndexByteString", "internal/bytealg.IndexString"], named := ["internal/bytealg.MaxLen"], apart := false, narrowed := true }
def FnExactIsValidRecordUptoSaid : Prop := fnExactIsValidRecordUptoRow.holds Try.pinned (OpenSpec.upto fnExactIsValidRecordSpec)

/-- 'laws.FnExactOpenPetition', WHERE WHAT IT READS IS OF BULK AT MOST 1048576: true; the input reads as it did. -/
def fnExactOpenPetitionUptoRow : OpenClaim := { program := "ytnihjjelamfgdaa", sum := "73bb3da5d2d2ad776e8d7138f114e71f202db3b29d05737460b8b99a2eff6714", func := "loop.example/g00884/laws.FnExactOpenPetition", spec := "fnExactOpenPetition", apart := false, narrowed := true }
def FnExactOpenPetitionUptoSaid : Prop := fnExactOpenPetitionUptoRow.holds Try.pinned (OpenSpec.upto fnExactOpenPetitionSpec)

/-- 'laws.FnExactMirrorBanner', WHERE WHAT IT READS IS OF BULK AT MOST 1048576: true; the input reads as it did. -/
def fnExactMirrorBannerUptoRow : OpenClaim := { program := "ytnihjjelamfgdaa", sum := "73bb3da5d2d2ad776e8d7138f114e71f202db3b29d05737460b8b99a2eff6714", func := "loop.example/g00884/laws.FnExactMirrorBanner", spec := "fnExactMirrorBanner", unfollowed := true, recurses := true, apart := false, narrowed := true }
def FnExactMirrorBannerUptoSaid : Prop := fnExactMirrorBannerUptoRow.holds Try.pinned (OpenSpec.upto fnExactMirrorBannerSpec)

/-- 'laws.FnExactBannerOf', WHERE WHAT IT READS IS OF BULK AT MOST 1048576: true; the input reads as it did. -/
def fnExactBannerOfUptoRow : OpenClaim := { program := "ytnihjjelamfgdaa", sum := "73bb3da5d2d2ad776e8d7138f114e71f202db3b29d05737460b8b99a2eff6714", func := "loop.example/g00884/laws.FnExactBannerOf", spec := "fnExactBannerOf", unfollowed := true, recurses := true, apart := false, narrowed := true }
def FnExactBannerOfUptoSaid : Prop := fnExactBannerOfUptoRow.holds Try.pinned (OpenSpec.upto fnExactBannerOfSpec)

/-- 'laws.FnExactBorderBanner', WHERE WHAT IT READS IS OF BULK AT MOST 1048576: true; the input reads as it did. -/
def fnExactBorderBannerUptoRow : OpenClaim := { program := "ytnihjjelamfgdaa", sum := "73bb3da5d2d2ad776e8d7138f114e71f202db3b29d05737460b8b99a2eff6714", func := "loop.example/g00884/laws.FnExactBorderBanner", spec := "fnExactBorderBanner", unfollowed := true, recurses := true, apart := false, narrowed := true }
def FnExactBorderBannerUptoSaid : Prop := fnExactBorderBannerUptoRow.holds Try.pinned (OpenSpec.upto fnExactBorderBannerSpec)

/-- 'laws.FnExactTailBanner', WHERE WHAT IT READS IS OF BULK AT MOST 1048576: true; the input reads as it did. -/
def fnExactTailBannerUptoRow : OpenClaim := { program := "ytnihjjelamfgdaa", sum := "73bb3da5d2d2ad776e8d7138f114e71f202db3b29d05737460b8b99a2eff6714", func := "loop.example/g00884/laws.FnExactTailBanner", spec := "fnExactTailBanner", unfollowed := true, recurses := true, apart := false, narrowed := true }
def FnExactTailBannerUptoSaid : Prop := fnExactTailBannerUptoRow.holds Try.pinned (OpenSpec.upto fnExactTailBannerSpec)

/-- 'laws.FnExactPayPetition', WHERE WHAT IT READS IS OF BULK AT MOST 1048576: true; the input reads as it did. -/
def fnExactPayPetitionUptoRow : OpenClaim := { program := "ytnihjjelamfgdaa", sum := "73bb3da5d2d2ad776e8d7138f114e71f202db3b29d05737460b8b99a2eff6714", func := "loop.example/g00884/laws.FnExactPayPetition", spec := "fnExactPayPetition", unfollowed := true, recurses := true, apart := false, narrowed := true }
def FnExactPayPetitionUptoSaid : Prop := fnExactPayPetitionUptoRow.holds Try.pinned (OpenSpec.upto fnExactPayPetitionSpec)

/-- 'laws.FnExactFeeFor', WHERE WHAT IT READS IS OF BULK AT MOST 1048576: true; the input reads as it did. -/
def fnExactFeeForUptoRow : OpenClaim := { program := "ytnihjjelamfgdaa", sum := "73bb3da5d2d2ad776e8d7138f114e71f202db3b29d05737460b8b99a2eff6714", func := "loop.example/g00884/laws.FnExactFeeFor", spec := "fnExactFeeFor", unfollowed := true, recurses := true, apart := false, narrowed := true }
def FnExactFeeForUptoSaid : Prop := fnExactFeeForUptoRow.holds Try.pinned (OpenSpec.upto fnExactFeeForSpec)

/-- 'laws.FnExactDecidePetition', WHERE WHAT IT READS IS OF BULK AT MOST 1048576: true; the input reads as it did. -/
def fnExactDecidePetitionUptoRow : OpenClaim := { program := "ytnihjjelamfgdaa", sum := "73bb3da5d2d2ad776e8d7138f114e71f202db3b29d05737460b8b99a2eff6714", func := "loop.example/g00884/laws.FnExactDecidePetition", spec := "fnExactDecidePetition", unfollowed := true, recurses := true, apart := false, narrowed := true }
def FnExactDecidePetitionUptoSaid : Prop := fnExactDecidePetitionUptoRow.holds Try.pinned (OpenSpec.upto fnExactDecidePetitionSpec)

/-- 'laws.FnTails', WHERE WHAT IT READS IS OF BULK AT MOST 1048576: true; the input reads as it did. -/
def fnTailsUptoRow : OpenClaim := { program := "ytnihjjelamfgdaa", sum := "73bb3da5d2d2ad776e8d7138f114e71f202db3b29d05737460b8b99a2eff6714", func := "loop.example/g00884/laws.FnTails", spec := "fnTails", unfollowed := true, recurses := true, apart := false, narrowed := true }
def FnTailsUptoSaid : Prop := fnTailsUptoRow.holds Try.pinned (OpenSpec.upto fnTailsSpec)

/-- 'laws.FnPayments', WHERE WHAT IT READS IS OF BULK AT MOST 1048576: true; the input reads as it did. -/
def fnPaymentsUptoRow : OpenClaim := { program := "ytnihjjelamfgdaa", sum := "73bb3da5d2d2ad776e8d7138f114e71f202db3b29d05737460b8b99a2eff6714", func := "loop.example/g00884/laws.FnPayments", spec := "fnPayments", unfollowed := true, recurses := true, apart := false, narrowed := true }
def FnPaymentsUptoSaid : Prop := fnPaymentsUptoRow.holds Try.pinned (OpenSpec.upto fnPaymentsSpec)

/-- 'laws.FnFees', WHERE WHAT IT READS IS OF BULK AT MOST 1048576: true; the input reads as it did. -/
def fnFeesUptoRow : OpenClaim := { program := "ytnihjjelamfgdaa", sum := "73bb3da5d2d2ad776e8d7138f114e71f202db3b29d05737460b8b99a2eff6714", func := "loop.example/g00884/laws.FnFees", spec := "fnFees", unfollowed := true, recurses := true, apart := false, narrowed := true }
def FnFeesUptoSaid : Prop := fnFeesUptoRow.holds Try.pinned (OpenSpec.upto fnFeesSpec)

end Rows
end Go.Proofs.Ytnihjjelamfgdaa
