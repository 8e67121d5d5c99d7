/- The law function FnCrashRecovery returns true for all arguments: the program and the reference agree. -/
import Derived.Test.YtgefdcllialhkaaDoorWFnCrash
import Derived.Test.YtgefdcllialhkaaDoorAbs5
import Derived.Test.YtgefdcllialhkaaDoorRows
import Derived.Test.YtgefdcllialhkaaDoorCards
import Derived.Test.YtgefdcllialhkaaDoorTie
import Derived.LaidMore
import Derived.LaidHandle
import Derived.Stop.LaidErr
import Derived.Stop.Joined
import Derived.SevenTiedAt
set_option linter.unusedVariables false
set_option linter.unusedSimpArgs false
namespace Go.Proofs.YtgefdcllialhkaaDoor
open Go.Abs Go.RowKit Go.ChangeShapes Go.WideShapes
theorem own : ownKnob Tryd.prog.godebug = none := by kernel_rfl
theorem laidOut : laidOutB Tryd.prog = true := by kernel_rfl
theorem rd5 : Reads Tryd.prog 5 false 1 (fun v => ∃ b : UInt8, v = Y b) := Reads.byte Tryd.underlying5
theorem cells5 : Tryd.prog.cellsOf 5 = 1 := by kernel_rfl
theorem rd30 : Reads Tryd.prog 30 false 1 (fun v => ∃ l : List UInt8, v = V.ro 1 (l.map Y)) :=
  (Reads.slice Tryd.underlying30 cells5 (by decide) rd5).imp fun v hv => rows_of (fun e he => he) hv
/-- What the rows list. -/
def laidL : List (String × DataW Unit) := [("math/bits.deBruijn32tab", Rows.laid_math_bits_deBruijn32tab), ("math/bits.deBruijn64tab", Rows.laid_math_bits_deBruijn64tab), ("internal/strconv.uint64pow10", Rows.laid_internal_strconv_uint64pow10)]
theorem laid_pow : Rows.laid_internal_strconv_uint64pow10 (H := Unit) = Lib.tabData .u64 Lib.pow10Tab := by kernel_rfl
theorem pow_of_laid {W : World} (h : laidMet Tryd.prog laidL W) : GInv.holds W (Old W) := by
  have h' : laidMet Tryd.prog (("internal/strconv.uint64pow10", Lib.tabData .u64 Lib.pow10Tab) :: []) W := by
    have h2 := (laidMet.tail (laidMet.tail h))
    rw [laid_pow] at h2; exact h2
  have ht : Lib.TabIs Tryd.prog W "internal/strconv.uint64pow10" .u64 Lib.pow10Tab := Lib.tabIs_of_head gPow (by kernel_rfl) Tryd.underlying100 Tryd.underlying54 (by kernel_rfl) (by kernel_rfl) h'
  refine ⟨ht, ?_⟩
  unfold Lib.TabIs World.var? at ht
  rw [gPow] at ht
  simp only [Option.bind_some] at ht
  show 1 < W.heap.size
  refine Classical.byContradiction fun hlt => ?_
  rw [Array.getElem?_eq_none (by omega)] at ht
  cases ht
theorem door_met (os : Os) (args : Array Value) : laidMetH Tryd.prog laidL ((World.doorLaid Tryd.prog 24 os).forCall (fun _ _ => 0) ⟨#[], args, []⟩).memory :=
  laidMetH_of_parts3 (fuel := 8) (laidMet_of_run' 8 (by kernel_rfl) (by kernel_rfl)) (by kernel_rfl) (by kernel_rfl)
set_option maxRecDepth 100000 in
theorem lifted (os : Os) (started : os.Started) (H : Type) (enc : TypeId × Value → H) :
    ReturnsInHanded {} Tryd.checked os 6 .any (fun w args => (Rows.fnCrashRecoverySpec.pre enc Tryd.prog Tryd.f6 [] false w args ∧ laidMetH Tryd.prog laidL w) ∧ sizedMet enc Tryd.prog Tryd.f6 (OpenSpec.ofChange Rows.fnCrashRecoverySpec) false w args)
      (Rows.fnCrashRecoverySpec.post enc Tryd.prog Tryd.f6 false true false false) := by
  refine returnsInHanded_of_change_and (C := Tryd.checked) (X := fun w _ => laidMetH Tryd.prog laidL w) (fun _ _ _ hh h => h.of_heap hh) own started (by kernel_rfl) Tryd.func6
    (ChangeSpec.witness_shaped (enc := enc) (C := Tryd.checked) (os := os) (X := fun w _ => laidMetH Tryd.prog laidL w) false (World.doorLaid Tryd.prog 24 os) #[.slice none 0 0] 8 rfl (World.shaped_of_RefB (by kernel_rfl) (by kernel_rfl)) (by kernel_rfl) (by kernel_rfl) (by kernel_rfl) (door_met os _)) ?_
  intro W base args ds gs before hval hW _ _ hL _
  have hL' : laidMet Tryd.prog laidL W := by rw [MakeChecks.laidMetH_plain _ _ _ (by kernel_rfl)] at hL; exact hL
  have hp : Params Tryd.prog Tryd.f6.params.toList [(false, 1, (fun v => ∃ l : List UInt8, v = V.ro 1 (l.map Y)))] := by
    rw [Tryd.params6]
    exact ⟨⟨rd30, ⟨by kernel_rfl, of_decide_eq_true (by kernel_rfl)⟩, by rw [Tryd.underlying30]⟩, trivial⟩
  refine law_calls (P := Tryd.prog) (f := 6) (tb := 4) (s := Rows.fnCrashRecoverySpec) (small := fun _ => True) laidOut rfl ?_ rfl Tryd.underlying4 hp ?_ H enc W base args ds gs before hval hW trivial (pow_of_laid hL')
  · intro H ds0 hd
    cases ds0 with
    | nil => cases hd
    | cons d0 ds1 =>
      cases ds1 with
      | nil => rfl
      | cons _ _ => cases hd
  · intro vs h0 _
    obtain ⟨_, _, rfl, ⟨x0, rfl⟩, h1⟩ := h0.cons
    obtain rfl := h1.nil
    exact w_FnCrashRecovery x0

theorem FnCrashRecovery_row : Rows.FnCrashRecoverySaid :=
  OpenClaim.holds_of_wide 6 Tryd.f6 rfl rfl rfl rfl rfl rfl rfl ⟨rfl, rfl, rfl, rfl, rfl⟩ rfl rfl rfl rfl rfl (by kernel_rfl) Tryd.func6 (by kernel_rfl)
    (of_decide_eq_true (by kernel_rfl)) (by unfold Func.isWrapper; first | (rw [if_pos (by decide +kernel)]; kernel_rfl) | (rw [if_neg (by decide +kernel)]; exact ⟨rfl, rfl⟩))
    (fun os started H enc _ => lifted os started H enc)

theorem FnCrashRecovery : Rows.FnCrashRecoveryCardSaid :=
  Claim7.holds_tied_plain_at .later [] [.data, .data, .data] true (true, "98674d778566bf0c5bdca244e75cee5685d979b24885ffadd17a3d0d3eae37b1") false
    FnCrashRecovery_row (fun _ h => by cases h) (by kernel_rfl) (fun _ h => by cases h) fnCrashRecovery_row_tie rfl ⟨rfl, rfl⟩ (by kernel_rfl) rfl
    (fun f fn hf hfn => by
      obtain rfl : f = 6 := Option.some.inj ((show Tryd.prog.funcNamed "loop.example/g00884/laws.FnCrashRecovery" = some 6 by kernel_rfl).symm.trans hf) |>.symm
      obtain rfl : fn = Tryd.f6 := (Option.some.inj (Tryd.func6.symm.trans hfn)).symm
      exact ⟨by kernel_rfl, fun j t ht => by
        rw [Tryd.params6] at ht
        have hm : t ∈ [30] := by simpa using Array.mem_of_getElem? ht
        have hall : ([30].all fun u => !Tryd.prog.wantsStandIn u) = true := by kernel_rfl
        exact (show Tryd.prog.wantsStandIn t = false by simpa using List.all_eq_true.1 hall t hm)⟩)
    (by kernel_rfl)
end Go.Proofs.YtgefdcllialhkaaDoor
