/- The law function FnExactIsValidConsole returns true for all arguments: the program and the reference agree. -/
import Derived.Test.YtcfmohcpfmedaaaGreatDoorWIsCon
import Derived.Test.YtcfmohcpfmedaaaGreatDoorAbs5
import Derived.Test.YtcfmohcpfmedaaaGreatDoorRows
import Derived.Test.YtcfmohcpfmedaaaGreatDoorCards
import Derived.Test.YtcfmohcpfmedaaaGreatDoorTie
import Derived.LaidMore
import Derived.LaidHandle
import Derived.Stop.LaidErr
import Derived.Stop.Joined
import Derived.SevenTiedAt
set_option linter.unusedVariables false
set_option linter.unusedSimpArgs false
namespace Go.Proofs.YtcfmohcpfmedaaaGreatDoor
open Go.Abs Go.RowKit Go.ChangeShapes Go.WideShapes
theorem own : ownKnob Tryz.prog.godebug = none := by kernel_rfl
theorem laidOut : laidOutB Tryz.prog = true := by kernel_rfl
theorem rd3 : Reads Tryz.prog 3 false 1 (fun v => ∃ n : Int, v = I n ∧ (Lit.int .i64 n).wf = true) := Reads.int Tryz.underlying3
theorem rd9 : Reads Tryz.prog 9 false 1 (fun v => ∃ b : List UInt8, v = S b ∧ b.length ≤ maxLen) := Reads.str Tryz.underlying9
theorem cells3 : Tryz.prog.cellsOf 3 = 1 := by kernel_rfl
theorem cells70 : Tryz.prog.cellsOf 70 = 4 := by kernel_rfl
theorem rd70 : Reads Tryz.prog 70 true 4 (fun v => ∃ x : Field, v = eField x) := by
  have h : Reads Tryz.prog 70 true 4 (fun v => ∃ vs, Each [(false, 1, (fun v => ∃ n : Int, v = I n ∧ (Lit.int .i64 n).wf = true)), (false, 1, (fun v => ∃ n : Int, v = I n ∧ (Lit.int .i64 n).wf = true)), (false, 1, (fun v => ∃ n : Int, v = I n ∧ (Lit.int .i64 n).wf = true)), (false, 1, (fun v => ∃ n : Int, v = I n ∧ (Lit.int .i64 n).wf = true))] vs ∧ v = .agg (vs.flatMap cellsV)) :=
    Reads.struct Tryz.underlying70 ⟨rfl, cells3, rd3, rfl, cells3, rd3, rfl, cells3, rd3, rfl, cells3, rd3, trivial⟩ rfl cells70
  refine h.imp fun v hv => ?_
  obtain ⟨vs, h0, rfl⟩ := hv
  obtain ⟨_, _, rfl, ⟨x0, rfl, _⟩, h1⟩ := h0.cons
  obtain ⟨_, _, rfl, ⟨x1, rfl, _⟩, h2⟩ := h1.cons
  obtain ⟨_, _, rfl, ⟨x2, rfl, _⟩, h3⟩ := h2.cons
  obtain ⟨_, _, rfl, ⟨x3, rfl, _⟩, h4⟩ := h3.cons
  obtain rfl := h4.nil
  exact ⟨⟨x0, x1, x2, x3⟩, rfl⟩
theorem cells71 : Tryz.prog.cellsOf 71 = 4 := by kernel_rfl
theorem rd71 : Reads Tryz.prog 71 true 4 (fun v => ∃ x : Group, v = eGroup x) := by
  have h : Reads Tryz.prog 71 true 4 (fun v => ∃ vs, Each [(false, 1, (fun v => ∃ n : Int, v = I n ∧ (Lit.int .i64 n).wf = true)), (false, 1, (fun v => ∃ n : Int, v = I n ∧ (Lit.int .i64 n).wf = true)), (false, 1, (fun v => ∃ n : Int, v = I n ∧ (Lit.int .i64 n).wf = true)), (false, 1, (fun v => ∃ n : Int, v = I n ∧ (Lit.int .i64 n).wf = true))] vs ∧ v = .agg (vs.flatMap cellsV)) :=
    Reads.struct Tryz.underlying71 ⟨rfl, cells3, rd3, rfl, cells3, rd3, rfl, cells3, rd3, rfl, cells3, rd3, trivial⟩ rfl cells71
  refine h.imp fun v hv => ?_
  obtain ⟨vs, h0, rfl⟩ := hv
  obtain ⟨_, _, rfl, ⟨x0, rfl, _⟩, h1⟩ := h0.cons
  obtain ⟨_, _, rfl, ⟨x1, rfl, _⟩, h2⟩ := h1.cons
  obtain ⟨_, _, rfl, ⟨x2, rfl, _⟩, h3⟩ := h2.cons
  obtain ⟨_, _, rfl, ⟨x3, rfl, _⟩, h4⟩ := h3.cons
  obtain rfl := h4.nil
  exact ⟨⟨x0, x1, x2, x3⟩, rfl⟩
theorem cells73 : Tryz.prog.cellsOf 73 = 15 := by kernel_rfl
theorem rd73 : Reads Tryz.prog 73 true 15 (fun v => ∃ x : Arms, v = eArms x) := by
  have h : Reads Tryz.prog 73 true 15 (fun v => ∃ vs, Each [(true, 4, (fun v => ∃ x : Field, v = eField x)), (false, 1, (fun v => ∃ n : Int, v = I n ∧ (Lit.int .i64 n).wf = true)), (false, 1, (fun v => ∃ n : Int, v = I n ∧ (Lit.int .i64 n).wf = true)), (false, 1, (fun v => ∃ n : Int, v = I n ∧ (Lit.int .i64 n).wf = true)), (true, 4, (fun v => ∃ x : Group, v = eGroup x)), (true, 4, (fun v => ∃ x : Group, v = eGroup x))] vs ∧ v = .agg (vs.flatMap cellsV)) :=
    Reads.struct Tryz.underlying73 ⟨rfl, cells70, rd70, rfl, cells3, rd3, rfl, cells3, rd3, rfl, cells3, rd3, rfl, cells71, rd71, rfl, cells71, rd71, trivial⟩ rfl cells73
  refine h.imp fun v hv => ?_
  obtain ⟨vs, h0, rfl⟩ := hv
  obtain ⟨_, _, rfl, ⟨x0, rfl⟩, h1⟩ := h0.cons
  obtain ⟨_, _, rfl, ⟨x1, rfl, _⟩, h2⟩ := h1.cons
  obtain ⟨_, _, rfl, ⟨x2, rfl, _⟩, h3⟩ := h2.cons
  obtain ⟨_, _, rfl, ⟨x3, rfl, _⟩, h4⟩ := h3.cons
  obtain ⟨_, _, rfl, ⟨x4, rfl⟩, h5⟩ := h4.cons
  obtain ⟨_, _, rfl, ⟨x5, rfl⟩, h6⟩ := h5.cons
  obtain rfl := h6.nil
  exact ⟨⟨x0, x1, x2, x3, x4, x5⟩, rfl⟩
theorem cells9 : Tryz.prog.cellsOf 9 = 1 := by kernel_rfl
theorem cells75 : Tryz.prog.cellsOf 75 = 18 := by kernel_rfl
theorem rd75 : Reads Tryz.prog 75 true 18 (fun v => ∃ x : Grant, v = eGrant x) := by
  have h : Reads Tryz.prog 75 true 18 (fun v => ∃ vs, Each [(false, 1, (fun v => ∃ n : Int, v = I n ∧ (Lit.int .i64 n).wf = true)), (false, 1, (fun v => ∃ b : List UInt8, v = S b ∧ b.length ≤ maxLen)), (false, 1, (fun v => ∃ n : Int, v = I n ∧ (Lit.int .i64 n).wf = true)), (true, 15, (fun v => ∃ x : Arms, v = eArms x))] vs ∧ v = .agg (vs.flatMap cellsV)) :=
    Reads.struct Tryz.underlying75 ⟨rfl, cells3, rd3, rfl, cells9, rd9, rfl, cells3, rd3, rfl, cells73, rd73, trivial⟩ rfl cells75
  refine h.imp fun v hv => ?_
  obtain ⟨vs, h0, rfl⟩ := hv
  obtain ⟨_, _, rfl, ⟨x0, rfl, _⟩, h1⟩ := h0.cons
  obtain ⟨_, _, rfl, ⟨x1, rfl, _⟩, h2⟩ := h1.cons
  obtain ⟨_, _, rfl, ⟨x2, rfl, _⟩, h3⟩ := h2.cons
  obtain ⟨_, _, rfl, ⟨x3, rfl⟩, h4⟩ := h3.cons
  obtain rfl := h4.nil
  exact ⟨⟨x0, x1, x2, x3⟩, rfl⟩
theorem rd22 : Reads Tryz.prog 22 false 1 (fun v => ∃ l : List Grant, v = V.ro 18 (l.map eGrant)) :=
  (Reads.slice Tryz.underlying22 cells75 (by decide) rd75).imp fun v hv => rows_of (fun e he => he) hv
theorem cells22 : Tryz.prog.cellsOf 22 = 1 := by kernel_rfl
theorem cells24 : Tryz.prog.cellsOf 24 = 1 := by kernel_rfl
theorem rd24 : Reads Tryz.prog 24 true 1 (fun v => ∃ x : Register, v = eRegister x) := by
  have h : Reads Tryz.prog 24 true 1 (fun v => ∃ vs, Each [(false, 1, (fun v => ∃ l : List Grant, v = V.ro 18 (l.map eGrant)))] vs ∧ v = .agg (vs.flatMap cellsV)) :=
    Reads.struct Tryz.underlying24 ⟨rfl, cells22, rd22, trivial⟩ rfl cells24
  refine h.imp fun v hv => ?_
  obtain ⟨vs, h0, rfl⟩ := hv
  obtain ⟨_, _, rfl, ⟨x0, rfl⟩, h1⟩ := h0.cons
  obtain rfl := h1.nil
  exact ⟨x0, rfl⟩
theorem cells26 : Tryz.prog.cellsOf 26 = 3 := by kernel_rfl
theorem rd26 : Reads Tryz.prog 26 true 3 (fun v => ∃ x : Log, v = eLog x) := by
  have h : Reads Tryz.prog 26 true 3 (fun v => ∃ vs, Each [(false, 1, (fun v => ∃ b : List UInt8, v = S b ∧ b.length ≤ maxLen)), (false, 1, (fun v => ∃ b : List UInt8, v = S b ∧ b.length ≤ maxLen)), (false, 1, (fun v => ∃ n : Int, v = I n ∧ (Lit.int .i64 n).wf = true))] vs ∧ v = .agg (vs.flatMap cellsV)) :=
    Reads.struct Tryz.underlying26 ⟨rfl, cells9, rd9, rfl, cells9, rd9, rfl, cells3, rd3, trivial⟩ rfl cells26
  refine h.imp fun v hv => ?_
  obtain ⟨vs, h0, rfl⟩ := hv
  obtain ⟨_, _, rfl, ⟨x0, rfl, _⟩, h1⟩ := h0.cons
  obtain ⟨_, _, rfl, ⟨x1, rfl, _⟩, h2⟩ := h1.cons
  obtain ⟨_, _, rfl, ⟨x2, rfl, _⟩, h3⟩ := h2.cons
  obtain rfl := h3.nil
  exact ⟨⟨x0, x1, x2⟩, rfl⟩
theorem cells28 : Tryz.prog.cellsOf 28 = 4 := by kernel_rfl
theorem rd28 : Reads Tryz.prog 28 true 4 (fun v => ∃ x : Console, v = eConsole x) := by
  have h : Reads Tryz.prog 28 true 4 (fun v => ∃ vs, Each [(true, 1, (fun v => ∃ x : Register, v = eRegister x)), (true, 3, (fun v => ∃ x : Log, v = eLog x))] vs ∧ v = .agg (vs.flatMap cellsV)) :=
    Reads.struct Tryz.underlying28 ⟨rfl, cells24, rd24, rfl, cells26, rd26, trivial⟩ rfl cells28
  refine h.imp fun v hv => ?_
  obtain ⟨vs, h0, rfl⟩ := hv
  obtain ⟨_, _, rfl, ⟨x0, rfl⟩, h1⟩ := h0.cons
  obtain ⟨_, _, rfl, ⟨x1, rfl⟩, h2⟩ := h1.cons
  obtain rfl := h2.nil
  exact ⟨⟨x0, x1⟩, rfl⟩
/-- What the rows list. -/
def laidL : List (String × DataW Unit) := [("math/bits.deBruijn32tab", Rows.laid_math_bits_deBruijn32tab), ("math/bits.deBruijn64tab", Rows.laid_math_bits_deBruijn64tab), ("internal/strconv.uint64pow10", Rows.laid_internal_strconv_uint64pow10)]
theorem laid_pow : Rows.laid_internal_strconv_uint64pow10 (H := Unit) = Lib.tabData .u64 Lib.pow10Tab := by kernel_rfl
theorem pow_of_laid {W : World} (h : laidMet Tryz.prog laidL W) : GInv.holds W (Old W) := by
  have h' : laidMet Tryz.prog (("internal/strconv.uint64pow10", Lib.tabData .u64 Lib.pow10Tab) :: []) W := by
    have h2 := (laidMet.tail (laidMet.tail h))
    rw [laid_pow] at h2; exact h2
  have ht : Lib.TabIs Tryz.prog W "internal/strconv.uint64pow10" .u64 Lib.pow10Tab := Lib.tabIs_of_head gPow (by kernel_rfl) Tryz.underlying134 Tryz.underlying128 (by kernel_rfl) (by kernel_rfl) h'
  refine ⟨ht, ?_⟩
  unfold Lib.TabIs World.var? at ht
  rw [gPow] at ht
  simp only [Option.bind_some] at ht
  show 1 < W.heap.size
  refine Classical.byContradiction fun hlt => ?_
  rw [Array.getElem?_eq_none (by omega)] at ht
  cases ht
theorem door_met (os : Os) (args : Array Value) : laidMetH Tryz.prog laidL ((World.doorLaid Tryz.prog 24 os).forCall (fun _ _ => 0) ⟨#[], args, []⟩).memory :=
  laidMetH_of_parts3 (fuel := 8) (laidMet_of_run' 8 (by kernel_rfl) (by kernel_rfl)) (by kernel_rfl) (by kernel_rfl)
set_option maxRecDepth 100000 in
theorem lifted (os : Os) (started : os.Started) (H : Type) (enc : TypeId × Value → H) :
    ReturnsInHanded {} Tryz.checked os 3 .any (fun w args => (Rows.fnExactIsValidConsoleSpec.pre enc Tryz.prog Tryz.f3 [] false w args ∧ laidMetH Tryz.prog laidL w) ∧ sizedMet enc Tryz.prog Tryz.f3 (OpenSpec.ofChange Rows.fnExactIsValidConsoleSpec) false w args)
      (Rows.fnExactIsValidConsoleSpec.post enc Tryz.prog Tryz.f3 false true false false) := by
  refine returnsInHanded_of_change_and (C := Tryz.checked) (X := fun w _ => laidMetH Tryz.prog laidL w) (fun _ _ _ hh h => h.of_heap hh) own started (by kernel_rfl) Tryz.func3
    (ChangeSpec.witness_shaped (enc := enc) (C := Tryz.checked) (os := os) (X := fun w _ => laidMetH Tryz.prog laidL w) false (World.doorLaid Tryz.prog 24 os) #[.agg #[.slice none 0 0, .string ⟨#[]⟩, .string ⟨#[]⟩, .int .i64 0]] 8 rfl (World.shaped_of_RefB (by kernel_rfl) (by kernel_rfl)) (by kernel_rfl) (by kernel_rfl) (by kernel_rfl) (door_met os _)) ?_
  intro W base args ds gs before hval hW _ _ hL _
  have hL' : laidMet Tryz.prog laidL W := by rw [MakeChecks.laidMetH_plain _ _ _ (by kernel_rfl)] at hL; exact hL
  have hp : Params Tryz.prog Tryz.f3.params.toList [(true, 4, (fun v => ∃ x : Console, v = eConsole x))] := by
    rw [Tryz.params3]
    exact ⟨⟨rd28, ⟨by kernel_rfl, of_decide_eq_true (by kernel_rfl)⟩, by rw [Tryz.underlying28]⟩, trivial⟩
  refine law_calls (P := Tryz.prog) (f := 3) (tb := 4) (s := Rows.fnExactIsValidConsoleSpec) (small := fun _ => True) laidOut rfl ?_ rfl Tryz.underlying4 hp ?_ H enc W base args ds gs before hval hW trivial (pow_of_laid hL')
  · intro H ds0 hd
    cases ds0 with
    | nil => cases hd
    | cons d0 ds1 =>
      cases ds1 with
      | nil => rfl
      | cons _ _ => cases hd
  · intro vs h0 _
    obtain ⟨_, _, rfl, ⟨x0, rfl⟩, h1⟩ := h0.cons
    obtain rfl := h1.nil
    exact w_FnExactIsValidConsole x0

theorem FnExactIsValidConsole_row : Rows.FnExactIsValidConsoleSaid :=
  OpenClaim.holds_of_wide 3 Tryz.f3 rfl rfl rfl rfl rfl rfl rfl ⟨rfl, rfl, rfl, rfl, rfl⟩ rfl rfl rfl rfl rfl (by kernel_rfl) Tryz.func3 (by kernel_rfl)
    (of_decide_eq_true (by kernel_rfl)) (by unfold Func.isWrapper; first | (rw [if_pos (by decide +kernel)]; kernel_rfl) | (rw [if_neg (by decide +kernel)]; exact ⟨rfl, rfl⟩))
    (fun os started H enc _ => lifted os started H enc)

theorem FnExactIsValidConsole : Rows.FnExactIsValidConsoleCardSaid :=
  Claim7.holds_tied_plain_at .later [] [.data, .data, .data] true (true, "880ddcf652c96ee6ae810abb13000bf0c67d1a10c8441dcaf3525b72807fa9e4") false
    FnExactIsValidConsole_row (fun _ h => by cases h) (by kernel_rfl) (fun _ h => by cases h) fnExactIsValidConsole_row_tie rfl ⟨rfl, rfl⟩ (by kernel_rfl) rfl
    (fun f fn hf hfn => by
      obtain rfl : f = 3 := Option.some.inj ((show Tryz.prog.funcNamed "loop.example/g00884/laws.FnExactIsValidConsole" = some 3 by kernel_rfl).symm.trans hf) |>.symm
      obtain rfl : fn = Tryz.f3 := (Option.some.inj (Tryz.func3.symm.trans hfn)).symm
      exact ⟨by kernel_rfl, fun j t ht => by
        rw [Tryz.params3] at ht
        have hm : t ∈ [28] := by simpa using Array.mem_of_getElem? ht
        have hall : ([28].all fun u => !Tryz.prog.wantsStandIn u) = true := by kernel_rfl
        exact (show Tryz.prog.wantsStandIn t = false by simpa using List.all_eq_true.1 hall t hm)⟩)
    (by kernel_rfl)
end Go.Proofs.YtcfmohcpfmedaaaGreatDoor
