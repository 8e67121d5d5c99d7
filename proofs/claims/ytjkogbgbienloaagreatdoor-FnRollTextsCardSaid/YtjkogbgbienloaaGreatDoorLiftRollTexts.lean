/- The law function FnRollTexts returns true for all arguments: the program and the reference agree. -/
import Derived.Test.YtjkogbgbienloaaGreatDoorPRollTexts1
import Derived.Test.YtjkogbgbienloaaGreatDoorRows
import Derived.Test.YtjkogbgbienloaaGreatDoorCards
import Derived.Test.YtjkogbgbienloaaGreatDoorTie
import Derived.LaidMore
import Derived.LaidHandle
import Derived.Stop.LaidErr
import Derived.Stop.Joined
import Derived.SevenTiedAt
namespace Go.Proofs.YtjkogbgbienloaaGreatDoor
open Go.Abs Go.RowKit Go.ChangeShapes Go.WideShapes
theorem own:ownKnob Tryz.prog.godebug=none:=by kernel_rfl
theorem laidOut:laidOutB Tryz.prog=true:=by kernel_rfl
theorem rd5:ju Tryz.prog 5 false 1 (fun v=>∃ b:UInt8,v=Y b):=ju.byte Tryz.underlying5
theorem cells5:Tryz.prog.cellsOf 5=1:=by kernel_rfl
theorem rd42:ju Tryz.prog 42 false 1 (fun v=>∃ l:List UInt8,v=V.ro 1 (l.map Y)) :=
 (ju.slice Tryz.underlying42 cells5 (by decide) rd5).imp fun v hv=>aiR (fun e he=>he) hv
def firstCells:Array Value:=(Pinned.utf8FirstZ.map fun n:Nat=>Value.int .u8 (Int.ofNat n)).toArray
noncomputable def doorW (os:Os):World:={ World.doorLaid Tryz.prog 34 os with heap:=(World.doorLaid Tryz.prog 34 os).heap.modify 4 fun | .cells _ ty fr=>.cells firstCells ty fr | o=>o }
def laidL:List (String×DataW Unit):=[("math/bits.deBruijn32tab",Rows.laid_math_bits_deBruijn32tab),("math/bits.deBruijn64tab",Rows.laid_math_bits_deBruijn64tab),("internal/strconv.uint64pow10",Rows.laid_internal_strconv_uint64pow10),("unicode/utf8.acceptRanges",Rows.laid_unicode_utf8_acceptRanges),("unicode/utf8.first",Rows.laid_unicode_utf8_first)]
theorem laid_pow:Rows.laid_internal_strconv_uint64pow10 (H:=Unit)=Lib.tabData .u64 Lib.pow10Tab:=by kernel_rfl
theorem pow_of_laid {W:World} (h:laidMet Tryz.prog laidL W):GI.holds W (Old W):=by
 have h':laidMet Tryz.prog (("internal/strconv.uint64pow10",Lib.tabData .u64 Lib.pow10Tab)::laidL.drop 3) W:=by
  have h2:=(laidMet.tail (laidMet.tail h))
  rw[laid_pow] at h2;exact h2
 have ht:Lib.TabIs Tryz.prog W "internal/strconv.uint64pow10" .u64 Lib.pow10Tab:=Lib.tabIs_of_head aiZ (by kernel_rfl) Tryz.underlying202 Tryz.underlying85 (by kernel_rfl) (by kernel_rfl) h'
 refine⟨ht,?_⟩
 unfold Lib.TabIs World.var? at ht
 rw[aiZ] at ht
 simp only[Option.bind_some] at ht
 show 1 < W.heap.size
 refine Classical.byContradiction fun hlt=>?_
 rw[Array.getElem?_eq_none (by omega)] at ht
 cases ht
theorem door_met (os:Os) (args:Array Value):laidMetH Tryz.prog laidL ((doorW os).forCall (fun _ _=>0) ⟨#[],args,[]⟩).memory :=
 laidMetH_of_parts3 (fuel:=8) (laidMet_of_run' 8 (by kernel_rfl) (by kernel_rfl)) (by kernel_rfl) (by kernel_rfl)
set_option maxRecDepth 100000 in
theorem lifted (os:Os) (started:os.Started) (H:Type) (enc:TypeId×Value->H) :
  ReturnsInHanded {} Tryz.checked os 4 .any (fun w args=>(Rows.fnRollTextsSpec.pre enc Tryz.prog Tryz.f4 [] false w args/\laidMetH Tryz.prog laidL w)/\sizedMet enc Tryz.prog Tryz.f4 (OpenSpec.ofChange Rows.fnRollTextsSpec) false w args)
   (Rows.fnRollTextsSpec.post enc Tryz.prog Tryz.f4 false true false false):=by
 refine returnsInHanded_of_change_and (C:=Tryz.checked) (X:=fun w _=>laidMetH Tryz.prog laidL w) (fun _ _ _ hh h=>h.of_heap hh) own started (by kernel_rfl) Tryz.func4
  (ChangeSpec.witness_shaped (enc:=enc) (C:=Tryz.checked) (os:=os) (X:=fun w _=>laidMetH Tryz.prog laidL w) false (doorW os) #[.slice none 0 0] 8 rfl (World.shaped_of_RefB (by kernel_rfl) (by kernel_rfl)) (by kernel_rfl) (by kernel_rfl) (by kernel_rfl) (door_met os _)) ?_
 intro W base args ds gs before hval hW _ _ hL _
 have hL':laidMet Tryz.prog laidL W:=by rw[MakeChecks.laidMetH_plain _ _ _ (by kernel_rfl)] at hL;exact hL
 have hp:Uf Tryz.prog Tryz.f4.params.toList [(false,1,(fun v=>∃ l:List UInt8,v=V.ro 1 (l.map Y)))]:=by
  rw[Tryz.params4]
  exact⟨⟨rd42,⟨by kernel_rfl,of_decide_eq_true (by kernel_rfl)⟩,by rw[Tryz.underlying42]⟩,trivial⟩
 refine af6 (P:=Tryz.prog) (f:=4) (tb:=4) (s:=Rows.fnRollTextsSpec) (small:=fun _=>True) laidOut rfl ?_ rfl Tryz.underlying4 hp ?_ H enc W base args ds gs before hval hW trivial (pow_of_laid hL')
 ·intro H ds0 hd
  cases ds0 with
  | nil=>cases hd
  | cons d0 ds1 =>
    cases ds1 with
    | nil=>rfl
    | cons _ _=>cases hd
 ·intro vs h0 _
  obtain ⟨_,_,rfl,⟨x0,rfl⟩,h1⟩:=h0.cons
  obtain rfl:=h1.nil
  exact adp x0
end Go.Proofs.YtjkogbgbienloaaGreatDoor
