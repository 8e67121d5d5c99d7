/- The law function FnExactCrashLog returns true for all arguments: the program and the reference agree. -/
import Derived.Test.YtgefdcllialhkaaDoorWCrash
import Derived.Test.YtgefdcllialhkaaDoorAbs5
import Derived.Test.YtgefdcllialhkaaDoorRows
import Derived.Test.YtgefdcllialhkaaDoorCards
import Derived.Test.YtgefdcllialhkaaDoorTie
import Derived.LaidMore
import Derived.LaidHandle
import Derived.Stop.LaidErr
import Derived.Stop.Joined
import Derived.SevenTiedAt
set_option linter.unusedVariables false
set_option linter.unusedSimpArgs false
namespace Go.Proofs.YtgefdcllialhkaaDoor
open Go.Abs Go.RowKit Go.ChangeShapes Go.WideShapes
theorem own : ownKnob Tryd.prog.godebug = none := by kernel_rfl
theorem laidOut : laidOutB Tryd.prog = true := by kernel_rfl
theorem rd9 : Reads Tryd.prog 9 false 1 (fun v => ∃ b : List UInt8, v = S b ∧ b.length ≤ maxLen) := Reads.str Tryd.underlying9
theorem rd3 : Reads Tryd.prog 3 false 1 (fun v => ∃ n : Int, v = I n ∧ (Lit.int .i64 n).wf = true) := Reads.int Tryd.underlying3
theorem cells9 : Tryd.prog.cellsOf 9 = 1 := by kernel_rfl
theorem cells3 : Tryd.prog.cellsOf 3 = 1 := by kernel_rfl
theorem cells23 : Tryd.prog.cellsOf 23 = 3 := by kernel_rfl
theorem rd23 : Reads Tryd.prog 23 true 3 (fun v => ∃ x : Log, v = eLog x) := by
  have h : Reads Tryd.prog 23 true 3 (fun v => ∃ vs, Each [(false, 1, (fun v => ∃ b : List UInt8, v = S b ∧ b.length ≤ maxLen)), (false, 1, (fun v => ∃ b : List UInt8, v = S b ∧ b.length ≤ maxLen)), (false, 1, (fun v => ∃ n : Int, v = I n ∧ (Lit.int .i64 n).wf = true))] vs ∧ v = .agg (vs.flatMap cellsV)) :=
    Reads.struct Tryd.underlying23 ⟨rfl, cells9, rd9, rfl, cells9, rd9, rfl, cells3, rd3, trivial⟩ rfl cells23
  refine h.imp fun v hv => ?_
  obtain ⟨vs, h0, rfl⟩ := hv
  obtain ⟨_, _, rfl, ⟨x0, rfl, _⟩, h1⟩ := h0.cons
  obtain ⟨_, _, rfl, ⟨x1, rfl, _⟩, h2⟩ := h1.cons
  obtain ⟨_, _, rfl, ⟨x2, rfl, _⟩, h3⟩ := h2.cons
  obtain rfl := h3.nil
  exact ⟨⟨x0, x1, x2⟩, rfl⟩
theorem rd4 : Reads Tryd.prog 4 false 1 (fun v => ∃ b : Bool, v = B b) := Reads.bool Tryd.underlying4
/-- What the rows list. -/
def laidL : List (String × DataW Unit) := [("math/bits.deBruijn32tab", Rows.laid_math_bits_deBruijn32tab), ("math/bits.deBruijn64tab", Rows.laid_math_bits_deBruijn64tab), ("internal/strconv.uint64pow10", Rows.laid_internal_strconv_uint64pow10)]
theorem laid_pow : Rows.laid_internal_strconv_uint64pow10 (H := Unit) = Lib.tabData .u64 Lib.pow10Tab := by kernel_rfl
theorem pow_of_laid {W : World} (h : laidMet Tryd.prog laidL W) : GInv.holds W (Old W) := by
  have h' : laidMet Tryd.prog (("internal/strconv.uint64pow10", Lib.tabData .u64 Lib.pow10Tab) :: []) W := by
    have h2 := (laidMet.tail (laidMet.tail h))
    rw [laid_pow] at h2; exact h2
  have ht : Lib.TabIs Tryd.prog W "internal/strconv.uint64pow10" .u64 Lib.pow10Tab := Lib.tabIs_of_head gPow (by kernel_rfl) Tryd.underlying100 Tryd.underlying54 (by kernel_rfl) (by kernel_rfl) h'
  refine ⟨ht, ?_⟩
  unfold Lib.TabIs World.var? at ht
  rw [gPow] at ht
  simp only [Option.bind_some] at ht
  show 1 < W.heap.size
  refine Classical.byContradiction fun hlt => ?_
  rw [Array.getElem?_eq_none (by omega)] at ht
  cases ht
theorem door_met (os : Os) (args : Array Value) : laidMetH Tryd.prog laidL ((World.doorLaid Tryd.prog 24 os).forCall (fun _ _ => 0) ⟨#[], args, []⟩).memory :=
  laidMetH_of_parts3 (fuel := 8) (laidMet_of_run' 8 (by kernel_rfl) (by kernel_rfl)) (by kernel_rfl) (by kernel_rfl)
set_option maxRecDepth 100000 in
theorem lifted (os : Os) (started : os.Started) (H : Type) (enc : TypeId × Value → H) :
    ReturnsInHanded {} Tryd.checked os 3 .any (fun w args => (Rows.fnExactCrashLogSpec.pre enc Tryd.prog Tryd.f3 [] false w args ∧ laidMetH Tryd.prog laidL w) ∧ sizedMet enc Tryd.prog Tryd.f3 (OpenSpec.ofChange Rows.fnExactCrashLogSpec) false w args)
      (Rows.fnExactCrashLogSpec.post enc Tryd.prog Tryd.f3 false true false false) := by
  refine returnsInHanded_of_change_and (C := Tryd.checked) (X := fun w _ => laidMetH Tryd.prog laidL w) (fun _ _ _ hh h => h.of_heap hh) own started (by kernel_rfl) Tryd.func3
    (ChangeSpec.witness_shaped (enc := enc) (C := Tryd.checked) (os := os) (X := fun w _ => laidMetH Tryd.prog laidL w) false (World.doorLaid Tryd.prog 24 os) #[.agg #[.string ⟨#[]⟩, .string ⟨#[]⟩, .int .i64 0], .int .i64 0, .bool false] 8 rfl (World.shaped_of_RefB (by kernel_rfl) (by kernel_rfl)) (by kernel_rfl) (by kernel_rfl) (by kernel_rfl) (door_met os _)) ?_
  intro W base args ds gs before hval hW _ _ hL _
  have hL' : laidMet Tryd.prog laidL W := by rw [MakeChecks.laidMetH_plain _ _ _ (by kernel_rfl)] at hL; exact hL
  have hp : Params Tryd.prog Tryd.f3.params.toList [(true, 3, (fun v => ∃ x : Log, v = eLog x)), (false, 1, (fun v => ∃ n : Int, v = I n ∧ (Lit.int .i64 n).wf = true)), (false, 1, (fun v => ∃ b : Bool, v = B b))] := by
    rw [Tryd.params3]
    exact ⟨⟨rd23, ⟨by kernel_rfl, of_decide_eq_true (by kernel_rfl)⟩, by rw [Tryd.underlying23]⟩, ⟨rd3, ⟨by kernel_rfl, of_decide_eq_true (by kernel_rfl)⟩, by rw [Tryd.underlying3]⟩, ⟨rd4, ⟨by kernel_rfl, of_decide_eq_true (by kernel_rfl)⟩, by rw [Tryd.underlying4]⟩, trivial⟩
  refine law_calls (P := Tryd.prog) (f := 3) (tb := 4) (s := Rows.fnExactCrashLogSpec) (small := fun _ => True) laidOut rfl ?_ rfl Tryd.underlying4 hp ?_ H enc W base args ds gs before hval hW trivial (pow_of_laid hL')
  · intro H ds0 hd
    cases ds0 with
    | nil => cases hd
    | cons d0 ds1 =>
      cases ds1 with
      | nil => cases hd
      | cons d1 ds2 =>
        cases ds2 with
        | nil => cases hd
        | cons d2 ds3 =>
          cases ds3 with
          | nil => rfl
          | cons _ _ => cases hd
  · intro vs h0 _
    obtain ⟨_, _, rfl, ⟨x0, rfl⟩, h1⟩ := h0.cons
    obtain ⟨_, _, rfl, ⟨x1, rfl, h1w⟩, h2⟩ := h1.cons
    obtain ⟨_, _, rfl, ⟨x2, rfl⟩, h3⟩ := h2.cons
    obtain rfl := h3.nil
    exact w_FnExactCrashLog x0 x1 x2

theorem FnExactCrashLog_row : Rows.FnExactCrashLogSaid :=
  OpenClaim.holds_of_wide 3 Tryd.f3 rfl rfl rfl rfl rfl rfl rfl ⟨rfl, rfl, rfl, rfl, rfl⟩ rfl rfl rfl rfl rfl (by kernel_rfl) Tryd.func3 (by kernel_rfl)
    (of_decide_eq_true (by kernel_rfl)) (by unfold Func.isWrapper; first | (rw [if_pos (by decide +kernel)]; kernel_rfl) | (rw [if_neg (by decide +kernel)]; exact ⟨rfl, rfl⟩))
    (fun os started H enc _ => lifted os started H enc)

theorem FnExactCrashLog : Rows.FnExactCrashLogCardSaid :=
  Claim7.holds_tied_plain_at .later [] [.data, .data, .data] true (true, "98674d778566bf0c5bdca244e75cee5685d979b24885ffadd17a3d0d3eae37b1") false
    FnExactCrashLog_row (fun _ h => by cases h) (by kernel_rfl) (fun _ h => by cases h) fnExactCrashLog_row_tie rfl ⟨rfl, rfl⟩ (by kernel_rfl) rfl
    (fun f fn hf hfn => by
      obtain rfl : f = 3 := Option.some.inj ((show Tryd.prog.funcNamed "loop.example/g00884/laws.FnExactCrashLog" = some 3 by kernel_rfl).symm.trans hf) |>.symm
      obtain rfl : fn = Tryd.f3 := (Option.some.inj (Tryd.func3.symm.trans hfn)).symm
      exact ⟨by kernel_rfl, fun j t ht => by
        rw [Tryd.params3] at ht
        have hm : t ∈ [23, 3, 4] := by simpa using Array.mem_of_getElem? ht
        have hall : ([23, 3, 4].all fun u => !Tryd.prog.wantsStandIn u) = true := by kernel_rfl
        exact (show Tryd.prog.wantsStandIn t = false by simpa using List.all_eq_true.1 hall t hm)⟩)
    (by kernel_rfl)
end Go.Proofs.YtgefdcllialhkaaDoor
