/-
  NARROWER THAN 'FOR EVERY INPUT', by the rows' own cells (each row's printed sentence says how): FnExactFillLines: laid · FnExactCenterLine: laid · FnExactEvenLines: laid · FnExactScrollPicture: laid · FnExactReadScroll: laid · FnExactSharedWords: laid.
  DERIVED. THE GIVEN ROWS OF THIS SEAT. 6 by the template 'for every input the law returns true; each argument reads behind the call as it read before'; 0 by the template 'total and deterministic' (their statements: YtcfmohcpfmedaaaDoorTotals.lean).
  GIVEN WITH THE SEED: the statements are not yours to turn. If you find one false, say at which input.
  Laid BY PROGRAM, IN A SANDBOX (cutbox-rows.mjs): the forced cells as the released guide's own fill.sh prints them over the translation 76e52c3ab2123925… (all of the seat's roots in one cut). By AI agents, Wed Nov 11 2026. No macro, syntax, notation, axiom, sorry.
-/
import Derived.Test.YtcfmohcpfmedaaaDoorChecked
import GoSem.PinnedTables
import GoSem.Claim
import GoSem.ClaimJoined
import GoSem.ClaimMapViews
import Derived.JoinedTies
import Derived.KernelRfl
namespace Go.Proofs.YtcfmohcpfmedaaaDoor
/- THE CELL 'sum', in the pinned program and in every row, IS THE sha256 OF THE DUMP (.gsa) THAT YtcfmohcpfmedaaaDoorProg.lean LOADS. Nothing in Lean hashes anything: it is a label: what it is worth is what the hold of that sum in a sandbox is worth. -/
noncomputable def Tryd.pinned : Pinned := { name := "ytcfmohcpfmedaaadoor", sum := "76e52c3ab212392596ef2f9037c845f42cd7d5f224d981a86016be855eda8f6e", checked := Tryd.checked }
namespace Rows
def none {H : Type} : Left H := { results := [], args := [] }

/- WHAT THE LISTED PACKAGE-LEVEL VARIABLES READ AS WHEN THE CALL BEGINS. Each datum BY PROGRAM (the guide's laid-datum.mjs) off the statement by which the dump's own 'gosem.cut.vars' lays the variable. In a bare row this is a premise. The card (YtcfmohcpfmedaaaDoorCards.lean) ties it to the program's text. -/
def laid_unicode_utf8_acceptRanges {H : Type} : DataW H := .agg [.agg [.lit (.int .u8 128), .lit (.int .u8 191)], .agg [.lit (.int .u8 160), .lit (.int .u8 191)], .agg [.lit (.int .u8 128), .lit (.int .u8 159)], .agg [.lit (.int .u8 144), .lit (.int .u8 191)], .agg [.lit (.int .u8 128), .lit (.int .u8 143)], .agg [.lit (.int .u8 0), .lit (.int .u8 0)], .agg [.lit (.int .u8 0), .lit (.int .u8 0)], .agg [.lit (.int .u8 0), .lit (.int .u8 0)], .agg [.lit (.int .u8 0), .lit (.int .u8 0)], .agg [.lit (.int .u8 0), .lit (.int .u8 0)], .agg [.lit (.int .u8 0), .lit (.int .u8 0)], .agg [.lit (.int .u8 0), .lit (.int .u8 0)], .agg [.lit (.int .u8 0), .lit (.int .u8 0)], .agg [.lit (.int .u8 0), .lit (.int .u8 0)], .agg [.lit (.int .u8 0), .lit (.int .u8 0)], .agg [.lit (.int .u8 0), .lit (.int .u8 0)]]
/-- One of Go's own tables, pinned by name: the form's constant. -/
def laid_unicode_utf8_first : DataW Unit := Go.Pinned.utf8First

/-- 'laws.FnExactFillLines': WHATEVER THE INPUT: true; the input reads as it did. -/
def fnExactFillLinesSpec : ChangeSpec := { name := "fnExactFillLines", fn := fun _ => fun
  | [d1, d2] => { results := [.lit (.bool true)], args := [d1, d2] }
  | _ => none }
def fnExactFillLinesRow : OpenClaim := { program := "ytcfmohcpfmedaaadoor", sum := "76e52c3ab212392596ef2f9037c845f42cd7d5f224d981a86016be855eda8f6e", func := "loop.example/g00884/laws.FnExactFillLines", spec := "fnExactFillLines", inPlace := ["internal/bytealg.CountString", "internal/bytealg.IndexByteString", "internal/bytealg.IndexString"], named := ["unicode/utf8.first", "unicode/utf8.acceptRanges", "internal/bytealg.MaxLen"], apart := false, laid := [("unicode/utf8.acceptRanges", laid_unicode_utf8_acceptRanges), ("unicode/utf8.first", laid_unicode_utf8_first)] }
def FnExactFillLinesSaid : Prop := fnExactFillLinesRow.holds Tryd.pinned (OpenSpec.ofChange fnExactFillLinesSpec)

/-- ITS FALSE NEIGHBOUR: 'it returns false'. Refute it at one input. -/
def fnExactFillLinesWrong : ChangeSpec := { name := "fnExactFillLines", fn := fun _ => fun
  | [d1, d2] => { results := [.lit (.bool false)], args := [d1, d2] }
  | _ => none }
def FnExactFillLinesWrongFalsely : Prop := fnExactFillLinesRow.holds Tryd.pinned (OpenSpec.ofChange fnExactFillLinesWrong)

/-- 'laws.FnExactCenterLine': WHATEVER THE INPUT: true; the input reads as it did. -/
def fnExactCenterLineSpec : ChangeSpec := { name := "fnExactCenterLine", fn := fun _ => fun
  | [d1, d2] => { results := [.lit (.bool true)], args := [d1, d2] }
  | _ => none }
def fnExactCenterLineRow : OpenClaim := { program := "ytcfmohcpfmedaaadoor", sum := "76e52c3ab212392596ef2f9037c845f42cd7d5f224d981a86016be855eda8f6e", func := "loop.example/g00884/laws.FnExactCenterLine", spec := "fnExactCenterLine", inPlace := ["internal/bytealg.CountString", "internal/bytealg.IndexByteString", "internal/bytealg.IndexString", "internal/abi.NoEscape", "internal/bytealg.MakeNoZero"], named := ["unicode/utf8.first", "unicode/utf8.acceptRanges", "internal/bytealg.MaxLen"], apart := false, laid := [("unicode/utf8.acceptRanges", laid_unicode_utf8_acceptRanges), ("unicode/utf8.first", laid_unicode_utf8_first)] }
def FnExactCenterLineSaid : Prop := fnExactCenterLineRow.holds Tryd.pinned (OpenSpec.ofChange fnExactCenterLineSpec)

/-- ITS FALSE NEIGHBOUR: 'it returns false'. Refute it at one input. -/
def fnExactCenterLineWrong : ChangeSpec := { name := "fnExactCenterLine", fn := fun _ => fun
  | [d1, d2] => { results := [.lit (.bool false)], args := [d1, d2] }
  | _ => none }
def FnExactCenterLineWrongFalsely : Prop := fnExactCenterLineRow.holds Tryd.pinned (OpenSpec.ofChange fnExactCenterLineWrong)

/-- 'laws.FnExactEvenLines': WHATEVER THE INPUT: true; the input reads as it did. -/
def fnExactEvenLinesSpec : ChangeSpec := { name := "fnExactEvenLines", fn := fun _ => fun
  | [d1, d2] => { results := [.lit (.bool true)], args := [d1, d2] }
  | _ => none }
def fnExactEvenLinesRow : OpenClaim := { program := "ytcfmohcpfmedaaadoor", sum := "76e52c3ab212392596ef2f9037c845f42cd7d5f224d981a86016be855eda8f6e", func := "loop.example/g00884/laws.FnExactEvenLines", spec := "fnExactEvenLines", inPlace := ["internal/bytealg.CountString", "internal/bytealg.IndexByteString", "internal/bytealg.IndexString"], unfollowed := true, recurses := true, named := ["unicode/utf8.first", "unicode/utf8.acceptRanges", "internal/bytealg.MaxLen"], apart := false, laid := [("unicode/utf8.acceptRanges", laid_unicode_utf8_acceptRanges), ("unicode/utf8.first", laid_unicode_utf8_first)] }
def FnExactEvenLinesSaid : Prop := fnExactEvenLinesRow.holds Tryd.pinned (OpenSpec.ofChange fnExactEvenLinesSpec)

/-- ITS FALSE NEIGHBOUR: 'it returns false'. Refute it at one input. -/
def fnExactEvenLinesWrong : ChangeSpec := { name := "fnExactEvenLines", fn := fun _ => fun
  | [d1, d2] => { results := [.lit (.bool false)], args := [d1, d2] }
  | _ => none }
def FnExactEvenLinesWrongFalsely : Prop := fnExactEvenLinesRow.holds Tryd.pinned (OpenSpec.ofChange fnExactEvenLinesWrong)

/-- 'laws.FnExactScrollPicture': WHATEVER THE INPUT: true; the input reads as it did. -/
def fnExactScrollPictureSpec : ChangeSpec := { name := "fnExactScrollPicture", fn := fun _ => fun
  | [d1, d2] => { results := [.lit (.bool true)], args := [d1, d2] }
  | _ => none }
def fnExactScrollPictureRow : OpenClaim := { program := "ytcfmohcpfmedaaadoor", sum := "76e52c3ab212392596ef2f9037c845f42cd7d5f224d981a86016be855eda8f6e", func := "loop.example/g00884/laws.FnExactScrollPicture", spec := "fnExactScrollPicture", inPlace := ["internal/bytealg.CountString", "internal/bytealg.IndexByteString", "internal/bytealg.IndexString", "internal/abi.NoEscape", "internal/bytealg.MakeNoZero"], unfollowed := true, recurses := true, named := ["unicode/utf8.first", "unicode/utf8.acceptRanges", "internal/bytealg.MaxLen"], apart := false, laid := [("unicode/utf8.acceptRanges", laid_unicode_utf8_acceptRanges), ("unicode/utf8.first", laid_unicode_utf8_first)] }
def FnExactScrollPictureSaid : Prop := fnExactScrollPictureRow.holds Tryd.pinned (OpenSpec.ofChange fnExactScrollPictureSpec)

/-- ITS FALSE NEIGHBOUR: 'it returns false'. Refute it at one input. -/
def fnExactScrollPictureWrong : ChangeSpec := { name := "fnExactScrollPicture", fn := fun _ => fun
  | [d1, d2] => { results := [.lit (.bool false)], args := [d1, d2] }
  | _ => none }
def FnExactScrollPictureWrongFalsely : Prop := fnExactScrollPictureRow.holds Tryd.pinned (OpenSpec.ofChange fnExactScrollPictureWrong)

/-- 'laws.FnExactReadScroll': WHATEVER THE INPUT: true; the input reads as it did. -/
def fnExactReadScrollSpec : ChangeSpec := { name := "fnExactReadScroll", fn := fun _ => fun
  | [d] => { results := [.lit (.bool true)], args := [d] }
  | _ => none }
def fnExactReadScrollRow : OpenClaim := { program := "ytcfmohcpfmedaaadoor", sum := "76e52c3ab212392596ef2f9037c845f42cd7d5f224d981a86016be855eda8f6e", func := "loop.example/g00884/laws.FnExactReadScroll", spec := "fnExactReadScroll", inPlace := ["internal/bytealg.CountString", "internal/bytealg.IndexByteString", "internal/bytealg.IndexString", "internal/abi.NoEscape", "internal/bytealg.MakeNoZero"], unfollowed := true, recurses := true, named := ["unicode/utf8.first", "unicode/utf8.acceptRanges", "internal/bytealg.MaxLen"], apart := false, laid := [("unicode/utf8.acceptRanges", laid_unicode_utf8_acceptRanges), ("unicode/utf8.first", laid_unicode_utf8_first)] }
def FnExactReadScrollSaid : Prop := fnExactReadScrollRow.holds Tryd.pinned (OpenSpec.ofChange fnExactReadScrollSpec)

/-- ITS FALSE NEIGHBOUR: 'it returns false'. Refute it at one input. -/
def fnExactReadScrollWrong : ChangeSpec := { name := "fnExactReadScroll", fn := fun _ => fun
  | [d] => { results := [.lit (.bool false)], args := [d] }
  | _ => none }
def FnExactReadScrollWrongFalsely : Prop := fnExactReadScrollRow.holds Tryd.pinned (OpenSpec.ofChange fnExactReadScrollWrong)

/-- 'laws.FnExactSharedWords': WHATEVER THE INPUT: true; the input reads as it did. -/
def fnExactSharedWordsSpec : ChangeSpec := { name := "fnExactSharedWords", fn := fun _ => fun
  | [d1, d2] => { results := [.lit (.bool true)], args := [d1, d2] }
  | _ => none }
def fnExactSharedWordsRow : OpenClaim := { program := "ytcfmohcpfmedaaadoor", sum := "76e52c3ab212392596ef2f9037c845f42cd7d5f224d981a86016be855eda8f6e", func := "loop.example/g00884/laws.FnExactSharedWords", spec := "fnExactSharedWords", inPlace := ["internal/bytealg.CountString", "internal/bytealg.IndexByteString", "internal/bytealg.IndexString"], recurses := true, named := ["unicode/utf8.first", "unicode/utf8.acceptRanges", "internal/bytealg.MaxLen"], apart := false, laid := [("unicode/utf8.acceptRanges", laid_unicode_utf8_acceptRanges), ("unicode/utf8.first", laid_unicode_utf8_first)] }
def FnExactSharedWordsSaid : Prop := fnExactSharedWordsRow.holds Tryd.pinned (OpenSpec.ofChange fnExactSharedWordsSpec)

/-- ITS FALSE NEIGHBOUR: 'it returns false'. Refute it at one input. -/
def fnExactSharedWordsWrong : ChangeSpec := { name := "fnExactSharedWords", fn := fun _ => fun
  | [d1, d2] => { results := [.lit (.bool false)], args := [d1, d2] }
  | _ => none }
def FnExactSharedWordsWrongFalsely : Prop := fnExactSharedWordsRow.holds Tryd.pinned (OpenSpec.ofChange fnExactSharedWordsWrong)

/- THE SECOND FORM. 'bulk': how many values and letters a reading holds, each counted each time it is reached (what is shared counts as often as it is met; a slice's spare places count too). A statement '..UptoSaid' is the law's where the arguments, and the package variables that the reading takes, are together of bulk at most 1048576: NARROWER than '..Said'. Prove '..Said' where nothing that the law and all that it calls make is longer than what came in: it says more and counts as full. Else prove '..UptoSaid'. A law counts once. -/
mutual
def uptoBulk {H : Type} : DataW H → Nat
  | .lit (.string bytes) => bytes.length + 1
  | .lit _ => 1
  | .nil => 1
  | .ptr d => uptoBulk d + 1
  | .slice elems spare => uptoBulkAll elems + uptoBulkAll spare + 1
  | .agg parts => uptoBulkAll parts + 1
  | .iface _ d => uptoBulk d + 1
  | .map entries => uptoBulkEntries entries + 1
  | .held _ => 1
def uptoBulkAll {H : Type} : List (DataW H) → Nat
  | [] => 0
  | d :: r => uptoBulk d + uptoBulkAll r
def uptoBulkEntries {H : Type} : List (Lit × DataW H) → Nat
  | [] => 0
  | x :: r => uptoBulkEntry x + uptoBulkEntries r
def uptoBulkEntry {H : Type} : Lit × DataW H → Nat
  | (.string bytes, d) => bytes.length + uptoBulk d + 1
  | (_, d) => uptoBulk d + 1
 end
def uptoSmall : (H : Type) → List (DataW H) → Bool := fun _ ds => decide (uptoBulkAll ds ≤ 1048576)
def OpenSpec.upto (s : _root_.Go.ChangeSpec) : _root_.Go.OpenSpec := { _root_.Go.OpenSpec.ofChange s with cond := some uptoSmall }

/-- 'laws.FnExactFillLines', WHERE WHAT IT READS IS OF BULK AT MOST 1048576: true; the input reads as it did. -/
def fnExactFillLinesUptoRow : OpenClaim := { program := "ytcfmohcpfmedaaadoor", sum := "76e52c3ab212392596ef2f9037c845f42cd7d5f224d981a86016be855eda8f6e", func := "loop.example/g00884/laws.FnExactFillLines", spec := "fnExactFillLines", inPlace := ["internal/bytealg.CountString", "internal/bytealg.IndexByteString", "internal/bytealg.IndexString"], named := ["unicode/utf8.first", "unicode/utf8.acceptRanges", "internal/bytealg.MaxLen"], apart := false, laid := [("unicode/utf8.acceptRanges", laid_unicode_utf8_acceptRanges), ("unicode/utf8.first", laid_unicode_utf8_first)], narrowed := true }
def FnExactFillLinesUptoSaid : Prop := fnExactFillLinesUptoRow.holds Tryd.pinned (OpenSpec.upto fnExactFillLinesSpec)

/-- 'laws.FnExactCenterLine', WHERE WHAT IT READS IS OF BULK AT MOST 1048576: true; the input reads as it did. -/
def fnExactCenterLineUptoRow : OpenClaim := { program := "ytcfmohcpfmedaaadoor", sum := "76e52c3ab212392596ef2f9037c845f42cd7d5f224d981a86016be855eda8f6e", func := "loop.example/g00884/laws.FnExactCenterLine", spec := "fnExactCenterLine", inPlace := ["internal/bytealg.CountString", "internal/bytealg.IndexByteString", "internal/bytealg.IndexString", "internal/abi.NoEscape", "internal/bytealg.MakeNoZero"], named := ["unicode/utf8.first", "unicode/utf8.acceptRanges", "internal/bytealg.MaxLen"], apart := false, laid := [("unicode/utf8.acceptRanges", laid_unicode_utf8_acceptRanges), ("unicode/utf8.first", laid_unicode_utf8_first)], narrowed := true }
def FnExactCenterLineUptoSaid : Prop := fnExactCenterLineUptoRow.holds Tryd.pinned (OpenSpec.upto fnExactCenterLineSpec)

/-- 'laws.FnExactEvenLines', WHERE WHAT IT READS IS OF BULK AT MOST 1048576: true; the input reads as it did. -/
def fnExactEvenLinesUptoRow : OpenClaim := { program := "ytcfmohcpfmedaaadoor", sum := "76e52c3ab212392596ef2f9037c845f42cd7d5f224d981a86016be855eda8f6e", func := "loop.example/g00884/laws.FnExactEvenLines", spec := "fnExactEvenLines", inPlace := ["internal/bytealg.CountString", "internal/bytealg.IndexByteString", "internal/bytealg.IndexString"], unfollowed := true, recurses := true, named := ["unicode/utf8.first", "unicode/utf8.acceptRanges", "internal/bytealg.MaxLen"], apart := false, laid := [("unicode/utf8.acceptRanges", laid_unicode_utf8_acceptRanges), ("unicode/utf8.first", laid_unicode_utf8_first)], narrowed := true }
def FnExactEvenLinesUptoSaid : Prop := fnExactEvenLinesUptoRow.holds Tryd.pinned (OpenSpec.upto fnExactEvenLinesSpec)

/-- 'laws.FnExactScrollPicture', WHERE WHAT IT READS IS OF BULK AT MOST 1048576: true; the input reads as it did. -/
def fnExactScrollPictureUptoRow : OpenClaim := { program := "ytcfmohcpfmedaaadoor", sum := "76e52c3ab212392596ef2f9037c845f42cd7d5f224d981a86016be855eda8f6e", func := "loop.example/g00884/laws.FnExactScrollPicture", spec := "fnExactScrollPicture", inPlace := ["internal/bytealg.CountString", "internal/bytealg.IndexByteString", "internal/bytealg.IndexString", "internal/abi.NoEscape", "internal/bytealg.MakeNoZero"], unfollowed := true, recurses := true, named := ["unicode/utf8.first", "unicode/utf8.acceptRanges", "internal/bytealg.MaxLen"], apart := false, laid := [("unicode/utf8.acceptRanges", laid_unicode_utf8_acceptRanges), ("unicode/utf8.first", laid_unicode_utf8_first)], narrowed := true }
def FnExactScrollPictureUptoSaid : Prop := fnExactScrollPictureUptoRow.holds Tryd.pinned (OpenSpec.upto fnExactScrollPictureSpec)

/-- 'laws.FnExactReadScroll', WHERE WHAT IT READS IS OF BULK AT MOST 1048576: true; the input reads as it did. -/
def fnExactReadScrollUptoRow : OpenClaim := { program := "ytcfmohcpfmedaaadoor", sum := "76e52c3ab212392596ef2f9037c845f42cd7d5f224d981a86016be855eda8f6e", func := "loop.example/g00884/laws.FnExactReadScroll", spec := "fnExactReadScroll", inPlace := ["internal/bytealg.CountString", "internal/bytealg.IndexByteString", "internal/bytealg.IndexString", "internal/abi.NoEscape", "internal/bytealg.MakeNoZero"], unfollowed := true, recurses := true, named := ["unicode/utf8.first", "unicode/utf8.acceptRanges", "internal/bytealg.MaxLen"], apart := false, laid := [("unicode/utf8.acceptRanges", laid_unicode_utf8_acceptRanges), ("unicode/utf8.first", laid_unicode_utf8_first)], narrowed := true }
def FnExactReadScrollUptoSaid : Prop := fnExactReadScrollUptoRow.holds Tryd.pinned (OpenSpec.upto fnExactReadScrollSpec)

/-- 'laws.FnExactSharedWords', WHERE WHAT IT READS IS OF BULK AT MOST 1048576: true; the input reads as it did. -/
def fnExactSharedWordsUptoRow : OpenClaim := { program := "ytcfmohcpfmedaaadoor", sum := "76e52c3ab212392596ef2f9037c845f42cd7d5f224d981a86016be855eda8f6e", func := "loop.example/g00884/laws.FnExactSharedWords", spec := "fnExactSharedWords", inPlace := ["internal/bytealg.CountString", "internal/bytealg.IndexByteString", "internal/bytealg.IndexString"], recurses := true, named := ["unicode/utf8.first", "unicode/utf8.acceptRanges", "internal/bytealg.MaxLen"], apart := false, laid := [("unicode/utf8.acceptRanges", laid_unicode_utf8_acceptRanges), ("unicode/utf8.first", laid_unicode_utf8_first)], narrowed := true }
def FnExactSharedWordsUptoSaid : Prop := fnExactSharedWordsUptoRow.holds Tryd.pinned (OpenSpec.upto fnExactSharedWordsSpec)

end Rows
end Go.Proofs.YtcfmohcpfmedaaaDoor
