/- The law function FnReplay returns true for all arguments: the program and the reference agree. -/
import Derived.Test.YtnjjimhkbpdpgaaGreatDoorPReplay2
import Derived.Test.YtnjjimhkbpdpgaaGreatDoorRows
import Derived.Test.YtnjjimhkbpdpgaaGreatDoorCards
import Derived.Test.YtnjjimhkbpdpgaaGreatDoorTie
import Derived.LaidMore
import Derived.LaidHandle
import Derived.Stop.LaidErr
import Derived.Stop.Joined
import Derived.SevenTiedAt
import Derived.HandedShaped
import Derived.Shelf.Vars
import Derived.Stop.JoinedAt
namespace Go.Proofs.YtnjjimhkbpdpgaaGreatDoor
open Go.Abs Go.RowKit Go.ChangeShapes Go.WideShapes
theorem own:ownKnob Tryz.prog.godebug=none:=by kernel_rfl
theorem laidOut:laidOutB Tryz.prog=true:=by kernel_rfl
theorem rd5:Ed Tryz.prog 5 false 1 (fun v=>∃ b:UInt8,v=Y b):=Ed.byte Tryz.underlying5
theorem cells5:Tryz.prog.cellsOf 5=1:=by kernel_rfl
theorem rd42:Ed Tryz.prog 42 false 1 (fun v=>∃ l:List UInt8,v=V.ro 1 (l.map Y)) :=
 (Ed.slice Tryz.underlying42 cells5 (by decide) rd5).imp fun v hv=>aWY (fun e he=>he) hv
def firstCells:Array Value:=(Pinned.utf8FirstZ.map fun n:Nat=>Value.int .u8 (Int.ofNat n)).toArray
noncomputable def doorW (os:Os):World:={ World.doorLaid Tryz.prog 72 os with heap:=(World.doorLaid Tryz.prog 72 os).heap.modify 4 fun | .cells _ ty fr=>.cells firstCells ty fr | o=>o }
def laidL:List (String×DataW Unit):=[("math/bits.deBruijn32tab",Rows.laid_math_bits_deBruijn32tab),("math/bits.deBruijn64tab",Rows.laid_math_bits_deBruijn64tab),("internal/strconv.uint64pow10",Rows.laid_internal_strconv_uint64pow10),("unicode/utf8.acceptRanges",Rows.laid_unicode_utf8_acceptRanges),("strconv.ErrRange",Rows.laid_strconv_ErrRange),("strconv.ErrSyntax",Rows.laid_strconv_ErrSyntax),("unicode/utf8.first",Rows.laid_unicode_utf8_first)]
theorem laid_pow:Rows.laid_internal_strconv_uint64pow10 (H:=Unit)=Lib.tabData .u64 Lib.pow10Tab:=by kernel_rfl
theorem gErr:Tryz.prog.globalNamed "strconv.ErrSyntax"=some 2:=by kernel_rfl
theorem gErrType:(Tryz.prog.globals[2]?).map (·.type)=some 187:=by kernel_rfl
theorem errStar : "*" ++ "errors.errorString" = "*errors.errorString":=by decide
theorem errRow (u:TypeId) (h:Tryz.prog.typeName? 3 u=some "*errors.errorString"):u=321 :=
 typeName_ptr_named (nm := "errors.errorString") (by rw[errStar];kernel_rfl) (by kernel_rfl) (by decide) u (by rw[errStar];exact h)
theorem cell_old {W:World} {g:Nat} {v:Value} (h:W.cell? ⟨g,0,none⟩=some v):g < W.heap.size:=by
 refine Classical.byContradiction fun hlt=>?_
 unfold World.cell? at h
 rw[Array.getElem?_eq_none (by simpa using hlt)] at h
 cases h
theorem ginv_of {W:World} (h:laidMet Tryz.prog laidL W) (hsh:W.ShapedOpen Tryz.prog):GI.holds W (Old W):=by
 have h':laidMet Tryz.prog (("internal/strconv.uint64pow10",Lib.tabData .u64 Lib.pow10Tab)::laidL.drop 3) W:=by
  have h2:=(laidMet.tail (laidMet.tail h))
  rw[laid_pow] at h2;exact h2
 have ht:Lib.TabIs Tryz.prog W "internal/strconv.uint64pow10" .u64 Lib.pow10Tab:=Lib.tabIs_of_head aW5 (by kernel_rfl) Tryz.underlying294 Tryz.underlying87 (by kernel_rfl) (by kernel_rfl) h'
 have hlt:1 < W.heap.size:=by
  have ht2:=ht
  unfold Lib.TabIs World.var? at ht2
  rw[aW5] at ht2
  simp only[Option.bind_some] at ht2
  refine Classical.byContradiction fun hlt=>?_
  rw[Array.getElem?_eq_none (by omega)] at ht2
  cases ht2
 obtain ⟨m,hm⟩:=cell_of_shapedOpen_int (P:=Tryz.prog) (g:=0) (t:=3) (zero:=#[.int .i64 0]) (k:=.i64) hsh (by decide +kernel) (by kernel_rfl) rfl (by kernel_rfl) (by kernel_rfl) Tryz.underlying3
 have h3:laidMet Tryz.prog (("strconv.ErrSyntax",.iface "*errors.errorString" (.ptr (.agg [.lit (.string [105,110,118,97,108,105,100,32,115,121,110,116,97,120])])))::laidL.drop 6) W:=(laidMet.tail (laidMet.tail (laidMet.tail (laidMet.tail (laidMet.tail h)))))
 obtain ⟨a,s,hv,_⟩:=laid_sentinel h3 gErr gErrType Tryz.underlying187 errRow Tryz.underlying321 Tryz.underlying323 rfl rfl Tryz.underlying9 (by kernel_rfl) (by kernel_rfl)
 have hc:W.cell? ⟨2,0,none⟩=some (.iface 321 (.pointer (some a))):=by simpa using World.var?_cell gErr hv 0
 exact⟨ht,hlt,⟨⟨m,hm⟩,cell_old hm⟩,⟨_,hc,.inr ⟨_,_,rfl⟩⟩,cell_old hc⟩
theorem handed_shaped {H:Type} {enc:TypeId×Value->H} {a:Assume} {C:Checked} {os:Os} {f:FuncId} {fn:Func} {s:ChangeSpec} {conds:List PathCond} {apart fresh handsOn again:Bool} {X:World->Array Value->Prop}
  (hX:∀ (w w':World) (args:Array Value),w.heap=w'.heap->X w args->X w' args)
  (own:ownKnob C.prog.godebug=none) (started:os.Started) (noInit:C.prog.inits.idxOf? f=none) (hfn:C.prog.funcs[f]?=some fn)
  (witness:∃ (w:World) (tape:Tape) (i:Input),w.os=os/\(w.forCall tape i).Shaped C.prog/\i.vars=[]/\Input.okWide C.prog (w.forCall tape i) .any w.heap.size f i /\
   ((s.pre enc C.prog fn conds apart (w.forCall tape i).memory i.args/\X (w.forCall tape i).memory i.args)/\sizedMet enc C.prog fn (OpenSpec.ofChange s) apart (w.forCall tape i).memory i.args)/\a.holds C.prog (lone (Frame.enter C.prog f i.args .normal) [] (w.forCall tape i)))
  (contract:∀ (W:World) (base:Nat) (args:Array Value) (ds gs:List (DataW H)) (before:List MemPlace),
   (∀ (j:Nat) t v,fn.params[j]?=some t->args[j]?=some v->Value.okWide C.prog W .any base t v) ->
   DataW.Whole enc C.prog fn.params.toList s.vars apart W args.toList ds gs before->X W args->W.ShapedOpen C.prog ->
   Calls C.prog f args W fun e W'=>∃ v,e=.returned v/\s.post enc C.prog fn apart fresh handsOn again W args v W') :
  ReturnsInHanded a C os f .any (fun w args=>(s.pre enc C.prog fn conds apart w args/\X w args)/\sizedMet enc C.prog fn (OpenSpec.ofChange s) apart w args) (s.post enc C.prog fn apart fresh handsOn again):=by
 refine returnsInHanded_of_calls own started noInit witness fun w tape i _ hsh _ hok hpre _=>?_
 obtain ⟨_,_,_,fn',hfn',_,_,_,_,hval⟩:=hok
 obtain rfl:fn'=fn:=Option.some.inj (hfn'.symm.trans hfn)
 obtain ⟨⟨⟨ds,gs,before,hw,_⟩,hx⟩,_⟩:=hpre
 refine(contract (w.forCall tape i) w.heap.size i.args ds gs before hval (DataW.Whole.of_heap (w':=w.forCall tape i) (by rfl) hw) (hX _ _ _ (by rfl) hx) hsh).mono ?_
 rintro e W' ⟨v,rfl,hp⟩
 exact ChangeSpec.post_blind hp
theorem door_met (os:Os) (args:Array Value):laidMetH Tryz.prog laidL ((doorW os).forCall (fun _ _=>0) ⟨#[],args,[]⟩).memory :=
 laidMetH_of_parts3 (fuel:=8) (laidMet_of_run' 8 (by kernel_rfl) (by kernel_rfl)) (by kernel_rfl) (by kernel_rfl)
set_option maxRecDepth 100000 in
theorem lifted (os:Os) (started:os.Started) (H:Type) (enc:TypeId×Value->H) :
  ReturnsInHanded {} Tryz.checked os 5 .any (fun w args=>(Rows.fnReplaySpec.pre enc Tryz.prog Tryz.f5 [] false w args/\laidMetH Tryz.prog laidL w)/\sizedMet enc Tryz.prog Tryz.f5 (OpenSpec.ofChange Rows.fnReplaySpec) false w args)
   (Rows.fnReplaySpec.post enc Tryz.prog Tryz.f5 false true false false):=by
 refine handed_shaped (C:=Tryz.checked) (X:=fun w _=>laidMetH Tryz.prog laidL w) (fun _ _ _ hh h=>h.of_heap hh) own started (by kernel_rfl) Tryz.func5
  (ChangeSpec.witness_shaped (enc:=enc) (C:=Tryz.checked) (os:=os) (X:=fun w _=>laidMetH Tryz.prog laidL w) false (doorW os) #[.slice none 0 0] 8 rfl (World.shaped_of_RefB (by kernel_rfl) (by kernel_rfl)) (by kernel_rfl) (by kernel_rfl) (by kernel_rfl) (door_met os _)) ?_
 intro W base args ds gs before hval hW hL hsh
 have hL':laidMet Tryz.prog laidL W:=by rw[MakeChecks.laidMetH_plain _ _ _ (by kernel_rfl)] at hL;exact hL
 have hp:aF0 Tryz.prog Tryz.f5.params.toList [(false,1,(fun v=>∃ l:List UInt8,v=V.ro 1 (l.map Y)))]:=by
  rw[Tryz.params5]
  exact⟨⟨rd42,⟨by kernel_rfl,of_decide_eq_true (by kernel_rfl)⟩,by rw[Tryz.underlying42]⟩,trivial⟩
 refine aUi (P:=Tryz.prog) (f:=5) (tb:=4) (s:=Rows.fnReplaySpec) (small:=fun _=>True) laidOut rfl ?_ rfl Tryz.underlying4 hp ?_ H enc W base args ds gs before hval hW trivial (ginv_of hL' hsh)
 ·intro H ds0 hd
  cases ds0 with
  | nil=>cases hd
  | cons d0 ds1 =>
    cases ds1 with
    | nil=>rfl
    | cons _ _=>cases hd
 ·intro vs h0 _
  obtain ⟨_,_,rfl,⟨x0,rfl⟩,h1⟩:=h0.cons
  obtain rfl:=h1.nil
  exact aTW x0
end Go.Proofs.YtnjjimhkbpdpgaaGreatDoor
