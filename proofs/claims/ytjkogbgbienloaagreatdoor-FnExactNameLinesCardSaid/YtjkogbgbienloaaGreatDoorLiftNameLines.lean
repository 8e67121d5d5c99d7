/- The law function FnExactNameLines returns true for all arguments: the program and the reference agree. -/
import Derived.Test.YtjkogbgbienloaaGreatDoorPNameLines1
import Derived.Test.YtjkogbgbienloaaGreatDoorRows
import Derived.Test.YtjkogbgbienloaaGreatDoorCards
import Derived.Test.YtjkogbgbienloaaGreatDoorTie
import Derived.LaidMore
import Derived.LaidHandle
import Derived.Stop.LaidErr
import Derived.Stop.Joined
import Derived.SevenTiedAt
namespace Go.Proofs.YtjkogbgbienloaaGreatDoor
open Go.Abs Go.RowKit Go.ChangeShapes Go.WideShapes
theorem own:ownKnob Tryz.prog.godebug=none:=by kernel_rfl
theorem laidOut:laidOutB Tryz.prog=true:=by kernel_rfl
theorem rd3:ju Tryz.prog 3 false 1 (fun v=>∃ n:Int,v=I n/\(Lit.int .i64 n).wf=true):=ju.int Tryz.underlying3
theorem rd9:ju Tryz.prog 9 false 1 (fun v=>∃ b:List UInt8,v=S b/\b.length<=maxLen):=ju.str Tryz.underlying9
theorem cells3:Tryz.prog.cellsOf 3=1:=by kernel_rfl
theorem cells97:Tryz.prog.cellsOf 97=4:=by kernel_rfl
theorem rd97:ju Tryz.prog 97 true 4 (fun v=>∃ x:Field,v=jw x):=by
 have h:ju Tryz.prog 97 true 4 (fun v=>∃ vs,Each [(false,1,(fun v=>∃ n:Int,v=I n/\(Lit.int .i64 n).wf=true)),(false,1,(fun v=>∃ n:Int,v=I n/\(Lit.int .i64 n).wf=true)),(false,1,(fun v=>∃ n:Int,v=I n/\(Lit.int .i64 n).wf=true)),(false,1,(fun v=>∃ n:Int,v=I n/\(Lit.int .i64 n).wf=true))] vs/\v=.agg (vs.flatMap NY)) :=
  ju.struct Tryz.underlying97 ⟨rfl,cells3,rd3,rfl,cells3,rd3,rfl,cells3,rd3,rfl,cells3,rd3,trivial⟩ rfl cells97
 refine h.imp fun v hv=>?_
 obtain ⟨vs,h0,rfl⟩:=hv
 obtain ⟨_,_,rfl,⟨x0,rfl,_⟩,h1⟩:=h0.cons
 obtain ⟨_,_,rfl,⟨x1,rfl,_⟩,h2⟩:=h1.cons
 obtain ⟨_,_,rfl,⟨x2,rfl,_⟩,h3⟩:=h2.cons
 obtain ⟨_,_,rfl,⟨x3,rfl,_⟩,h4⟩:=h3.cons
 obtain rfl:=h4.nil
 exact⟨⟨x0,x1,x2,x3⟩,rfl⟩
theorem cells98:Tryz.prog.cellsOf 98=4:=by kernel_rfl
theorem rd98:ju Tryz.prog 98 true 4 (fun v=>∃ x:Group,v=gl x):=by
 have h:ju Tryz.prog 98 true 4 (fun v=>∃ vs,Each [(false,1,(fun v=>∃ n:Int,v=I n/\(Lit.int .i64 n).wf=true)),(false,1,(fun v=>∃ n:Int,v=I n/\(Lit.int .i64 n).wf=true)),(false,1,(fun v=>∃ n:Int,v=I n/\(Lit.int .i64 n).wf=true)),(false,1,(fun v=>∃ n:Int,v=I n/\(Lit.int .i64 n).wf=true))] vs/\v=.agg (vs.flatMap NY)) :=
  ju.struct Tryz.underlying98 ⟨rfl,cells3,rd3,rfl,cells3,rd3,rfl,cells3,rd3,rfl,cells3,rd3,trivial⟩ rfl cells98
 refine h.imp fun v hv=>?_
 obtain ⟨vs,h0,rfl⟩:=hv
 obtain ⟨_,_,rfl,⟨x0,rfl,_⟩,h1⟩:=h0.cons
 obtain ⟨_,_,rfl,⟨x1,rfl,_⟩,h2⟩:=h1.cons
 obtain ⟨_,_,rfl,⟨x2,rfl,_⟩,h3⟩:=h2.cons
 obtain ⟨_,_,rfl,⟨x3,rfl,_⟩,h4⟩:=h3.cons
 obtain rfl:=h4.nil
 exact⟨⟨x0,x1,x2,x3⟩,rfl⟩
theorem cells100:Tryz.prog.cellsOf 100=15:=by kernel_rfl
theorem rd100:ju Tryz.prog 100 true 15 (fun v=>∃ x:Arms,v=dM x):=by
 have h:ju Tryz.prog 100 true 15 (fun v=>∃ vs,Each [(true,4,(fun v=>∃ x:Field,v=jw x)),(false,1,(fun v=>∃ n:Int,v=I n/\(Lit.int .i64 n).wf=true)),(false,1,(fun v=>∃ n:Int,v=I n/\(Lit.int .i64 n).wf=true)),(false,1,(fun v=>∃ n:Int,v=I n/\(Lit.int .i64 n).wf=true)),(true,4,(fun v=>∃ x:Group,v=gl x)),(true,4,(fun v=>∃ x:Group,v=gl x))] vs/\v=.agg (vs.flatMap NY)) :=
  ju.struct Tryz.underlying100 ⟨rfl,cells97,rd97,rfl,cells3,rd3,rfl,cells3,rd3,rfl,cells3,rd3,rfl,cells98,rd98,rfl,cells98,rd98,trivial⟩ rfl cells100
 refine h.imp fun v hv=>?_
 obtain ⟨vs,h0,rfl⟩:=hv
 obtain ⟨_,_,rfl,⟨x0,rfl⟩,h1⟩:=h0.cons
 obtain ⟨_,_,rfl,⟨x1,rfl,_⟩,h2⟩:=h1.cons
 obtain ⟨_,_,rfl,⟨x2,rfl,_⟩,h3⟩:=h2.cons
 obtain ⟨_,_,rfl,⟨x3,rfl,_⟩,h4⟩:=h3.cons
 obtain ⟨_,_,rfl,⟨x4,rfl⟩,h5⟩:=h4.cons
 obtain ⟨_,_,rfl,⟨x5,rfl⟩,h6⟩:=h5.cons
 obtain rfl:=h6.nil
 exact⟨⟨x0,x1,x2,x3,x4,x5⟩,rfl⟩
theorem cells9:Tryz.prog.cellsOf 9=1:=by kernel_rfl
theorem cells102:Tryz.prog.cellsOf 102=18:=by kernel_rfl
theorem rd102:ju Tryz.prog 102 true 18 (fun v=>∃ x:Grant,v=aY x):=by
 have h:ju Tryz.prog 102 true 18 (fun v=>∃ vs,Each [(false,1,(fun v=>∃ n:Int,v=I n/\(Lit.int .i64 n).wf=true)),(false,1,(fun v=>∃ b:List UInt8,v=S b/\b.length<=maxLen)),(false,1,(fun v=>∃ n:Int,v=I n/\(Lit.int .i64 n).wf=true)),(true,15,(fun v=>∃ x:Arms,v=dM x))] vs/\v=.agg (vs.flatMap NY)) :=
  ju.struct Tryz.underlying102 ⟨rfl,cells3,rd3,rfl,cells9,rd9,rfl,cells3,rd3,rfl,cells100,rd100,trivial⟩ rfl cells102
 refine h.imp fun v hv=>?_
 obtain ⟨vs,h0,rfl⟩:=hv
 obtain ⟨_,_,rfl,⟨x0,rfl,_⟩,h1⟩:=h0.cons
 obtain ⟨_,_,rfl,⟨x1,rfl,_⟩,h2⟩:=h1.cons
 obtain ⟨_,_,rfl,⟨x2,rfl,_⟩,h3⟩:=h2.cons
 obtain ⟨_,_,rfl,⟨x3,rfl⟩,h4⟩:=h3.cons
 obtain rfl:=h4.nil
 exact⟨⟨x0,x1,x2,x3⟩,rfl⟩
theorem rd22:ju Tryz.prog 22 false 1 (fun v=>∃ l:List Grant,v=V.ro 18 (l.map aY)) :=
 (ju.slice Tryz.underlying22 cells102 (by decide) rd102).imp fun v hv=>aiR (fun e he=>he) hv
theorem cells22:Tryz.prog.cellsOf 22=1:=by kernel_rfl
theorem cells24:Tryz.prog.cellsOf 24=1:=by kernel_rfl
theorem rd24:ju Tryz.prog 24 true 1 (fun v=>∃ x:aZ,v=be x):=by
 have h:ju Tryz.prog 24 true 1 (fun v=>∃ vs,Each [(false,1,(fun v=>∃ l:List Grant,v=V.ro 18 (l.map aY)))] vs/\v=.agg (vs.flatMap NY)) :=
  ju.struct Tryz.underlying24 ⟨rfl,cells22,rd22,trivial⟩ rfl cells24
 refine h.imp fun v hv=>?_
 obtain ⟨vs,h0,rfl⟩:=hv
 obtain ⟨_,_,rfl,⟨x0,rfl⟩,h1⟩:=h0.cons
 obtain rfl:=h1.nil
 exact⟨x0,rfl⟩
theorem cells26:Tryz.prog.cellsOf 26=3:=by kernel_rfl
theorem rd26:ju Tryz.prog 26 true 3 (fun v=>∃ x:Roll,v=d6 x):=by
 have h:ju Tryz.prog 26 true 3 (fun v=>∃ vs,Each [(false,1,(fun v=>∃ n:Int,v=I n/\(Lit.int .i64 n).wf=true)),(false,1,(fun v=>∃ n:Int,v=I n/\(Lit.int .i64 n).wf=true)),(false,1,(fun v=>∃ n:Int,v=I n/\(Lit.int .i64 n).wf=true))] vs/\v=.agg (vs.flatMap NY)) :=
  ju.struct Tryz.underlying26 ⟨rfl,cells3,rd3,rfl,cells3,rd3,rfl,cells3,rd3,trivial⟩ rfl cells26
 refine h.imp fun v hv=>?_
 obtain ⟨vs,h0,rfl⟩:=hv
 obtain ⟨_,_,rfl,⟨x0,rfl,_⟩,h1⟩:=h0.cons
 obtain ⟨_,_,rfl,⟨x1,rfl,_⟩,h2⟩:=h1.cons
 obtain ⟨_,_,rfl,⟨x2,rfl,_⟩,h3⟩:=h2.cons
 obtain rfl:=h3.nil
 exact⟨⟨x0,x1,x2⟩,rfl⟩
def firstCells:Array Value:=(Pinned.utf8FirstZ.map fun n:Nat=>Value.int .u8 (Int.ofNat n)).toArray
noncomputable def doorW (os:Os):World:={ World.doorLaid Tryz.prog 34 os with heap:=(World.doorLaid Tryz.prog 34 os).heap.modify 4 fun | .cells _ ty fr=>.cells firstCells ty fr | o=>o }
def laidL:List (String×DataW Unit):=[("math/bits.deBruijn32tab",Rows.laid_math_bits_deBruijn32tab),("math/bits.deBruijn64tab",Rows.laid_math_bits_deBruijn64tab),("internal/strconv.uint64pow10",Rows.laid_internal_strconv_uint64pow10),("unicode/utf8.acceptRanges",Rows.laid_unicode_utf8_acceptRanges),("unicode/utf8.first",Rows.laid_unicode_utf8_first)]
theorem laid_pow:Rows.laid_internal_strconv_uint64pow10 (H:=Unit)=Lib.tabData .u64 Lib.pow10Tab:=by kernel_rfl
theorem pow_of_laid {W:World} (h:laidMet Tryz.prog laidL W):GI.holds W (Old W):=by
 have h':laidMet Tryz.prog (("internal/strconv.uint64pow10",Lib.tabData .u64 Lib.pow10Tab)::laidL.drop 3) W:=by
  have h2:=(laidMet.tail (laidMet.tail h))
  rw[laid_pow] at h2;exact h2
 have ht:Lib.TabIs Tryz.prog W "internal/strconv.uint64pow10" .u64 Lib.pow10Tab:=Lib.tabIs_of_head aiZ (by kernel_rfl) Tryz.underlying202 Tryz.underlying85 (by kernel_rfl) (by kernel_rfl) h'
 refine⟨ht,?_⟩
 unfold Lib.TabIs World.var? at ht
 rw[aiZ] at ht
 simp only[Option.bind_some] at ht
 show 1 < W.heap.size
 refine Classical.byContradiction fun hlt=>?_
 rw[Array.getElem?_eq_none (by omega)] at ht
 cases ht
theorem door_met (os:Os) (args:Array Value):laidMetH Tryz.prog laidL ((doorW os).forCall (fun _ _=>0) ⟨#[],args,[]⟩).memory :=
 laidMetH_of_parts3 (fuel:=8) (laidMet_of_run' 8 (by kernel_rfl) (by kernel_rfl)) (by kernel_rfl) (by kernel_rfl)
set_option maxRecDepth 100000 in
theorem lifted (os:Os) (started:os.Started) (H:Type) (enc:TypeId×Value->H) :
  ReturnsInHanded {} Tryz.checked os 3 .any (fun w args=>(Rows.fnExactNameLinesSpec.pre enc Tryz.prog Tryz.f3 [] false w args/\laidMetH Tryz.prog laidL w)/\sizedMet enc Tryz.prog Tryz.f3 (OpenSpec.ofChange Rows.fnExactNameLinesSpec) false w args)
   (Rows.fnExactNameLinesSpec.post enc Tryz.prog Tryz.f3 false true false false):=by
 refine returnsInHanded_of_change_and (C:=Tryz.checked) (X:=fun w _=>laidMetH Tryz.prog laidL w) (fun _ _ _ hh h=>h.of_heap hh) own started (by kernel_rfl) Tryz.func3
  (ChangeSpec.witness_shaped (enc:=enc) (C:=Tryz.checked) (os:=os) (X:=fun w _=>laidMetH Tryz.prog laidL w) false (doorW os) #[.agg #[.slice none 0 0],.agg #[.int .i64 0,.int .i64 0,.int .i64 0]] 8 rfl (World.shaped_of_RefB (by kernel_rfl) (by kernel_rfl)) (by kernel_rfl) (by kernel_rfl) (by kernel_rfl) (door_met os _)) ?_
 intro W base args ds gs before hval hW _ _ hL _
 have hL':laidMet Tryz.prog laidL W:=by rw[MakeChecks.laidMetH_plain _ _ _ (by kernel_rfl)] at hL;exact hL
 have hp:Uf Tryz.prog Tryz.f3.params.toList [(true,1,(fun v=>∃ x:aZ,v=be x)),(true,3,(fun v=>∃ x:Roll,v=d6 x))]:=by
  rw[Tryz.params3]
  exact⟨⟨rd24,⟨by kernel_rfl,of_decide_eq_true (by kernel_rfl)⟩,by rw[Tryz.underlying24]⟩,⟨rd26,⟨by kernel_rfl,of_decide_eq_true (by kernel_rfl)⟩,by rw[Tryz.underlying26]⟩,trivial⟩
 refine af6 (P:=Tryz.prog) (f:=3) (tb:=4) (s:=Rows.fnExactNameLinesSpec) (small:=fun _=>True) laidOut rfl ?_ rfl Tryz.underlying4 hp ?_ H enc W base args ds gs before hval hW trivial (pow_of_laid hL')
 ·intro H ds0 hd
  cases ds0 with
  | nil=>cases hd
  | cons d0 ds1 =>
    cases ds1 with
    | nil=>cases hd
    | cons d1 ds2 =>
      cases ds2 with
      | nil=>rfl
      | cons _ _=>cases hd
 ·intro vs h0 _
  obtain ⟨_,_,rfl,⟨x0,rfl⟩,h1⟩:=h0.cons
  obtain ⟨_,_,rfl,⟨x1,rfl⟩,h2⟩:=h1.cons
  obtain rfl:=h2.nil
  exact Y3 x0 x1
end Go.Proofs.YtjkogbgbienloaaGreatDoor
