/- The law function FnExactReplayLog returns true for all arguments: the program and the reference agree. -/
import Derived.Test.YtnjjimhkbpdpgaaGreatDoorPReplayLog1
import Derived.Test.YtnjjimhkbpdpgaaGreatDoorRows
import Derived.Test.YtnjjimhkbpdpgaaGreatDoorCards
import Derived.Test.YtnjjimhkbpdpgaaGreatDoorTie
import Derived.LaidMore
import Derived.LaidHandle
import Derived.Stop.LaidErr
import Derived.Stop.Joined
import Derived.SevenTiedAt
import Derived.HandedShaped
import Derived.Shelf.Vars
import Derived.Stop.JoinedAt
namespace Go.Proofs.YtnjjimhkbpdpgaaGreatDoor
open Go.Abs Go.RowKit Go.ChangeShapes Go.WideShapes
theorem own:ownKnob Tryz.prog.godebug=none:=by kernel_rfl
theorem laidOut:laidOutB Tryz.prog=true:=by kernel_rfl
theorem rd3:Ed Tryz.prog 3 false 1 (fun v=>∃ n:Int,v=I n/\(Lit.int .i64 n).wf=true):=Ed.int Tryz.underlying3
theorem rd9:Ed Tryz.prog 9 false 1 (fun v=>∃ b:List UInt8,v=S b/\b.length<=maxLen):=Ed.str Tryz.underlying9
theorem cells3:Tryz.prog.cellsOf 3=1:=by kernel_rfl
theorem cells171:Tryz.prog.cellsOf 171=4:=by kernel_rfl
theorem rd171:Ed Tryz.prog 171 true 4 (fun v=>∃ x:Field,v=jC x):=by
 have h:Ed Tryz.prog 171 true 4 (fun v=>∃ vs,Each [(false,1,(fun v=>∃ n:Int,v=I n/\(Lit.int .i64 n).wf=true)),(false,1,(fun v=>∃ n:Int,v=I n/\(Lit.int .i64 n).wf=true)),(false,1,(fun v=>∃ n:Int,v=I n/\(Lit.int .i64 n).wf=true)),(false,1,(fun v=>∃ n:Int,v=I n/\(Lit.int .i64 n).wf=true))] vs/\v=.agg (vs.flatMap axR)) :=
  Ed.struct Tryz.underlying171 ⟨rfl,cells3,rd3,rfl,cells3,rd3,rfl,cells3,rd3,rfl,cells3,rd3,trivial⟩ rfl cells171
 refine h.imp fun v hv=>?_
 obtain ⟨vs,h0,rfl⟩:=hv
 obtain ⟨_,_,rfl,⟨x0,rfl,_⟩,h1⟩:=h0.cons
 obtain ⟨_,_,rfl,⟨x1,rfl,_⟩,h2⟩:=h1.cons
 obtain ⟨_,_,rfl,⟨x2,rfl,_⟩,h3⟩:=h2.cons
 obtain ⟨_,_,rfl,⟨x3,rfl,_⟩,h4⟩:=h3.cons
 obtain rfl:=h4.nil
 exact⟨⟨x0,x1,x2,x3⟩,rfl⟩
theorem cells172:Tryz.prog.cellsOf 172=4:=by kernel_rfl
theorem rd172:Ed Tryz.prog 172 true 4 (fun v=>∃ x:Group,v=ib x):=by
 have h:Ed Tryz.prog 172 true 4 (fun v=>∃ vs,Each [(false,1,(fun v=>∃ n:Int,v=I n/\(Lit.int .i64 n).wf=true)),(false,1,(fun v=>∃ n:Int,v=I n/\(Lit.int .i64 n).wf=true)),(false,1,(fun v=>∃ n:Int,v=I n/\(Lit.int .i64 n).wf=true)),(false,1,(fun v=>∃ n:Int,v=I n/\(Lit.int .i64 n).wf=true))] vs/\v=.agg (vs.flatMap axR)) :=
  Ed.struct Tryz.underlying172 ⟨rfl,cells3,rd3,rfl,cells3,rd3,rfl,cells3,rd3,rfl,cells3,rd3,trivial⟩ rfl cells172
 refine h.imp fun v hv=>?_
 obtain ⟨vs,h0,rfl⟩:=hv
 obtain ⟨_,_,rfl,⟨x0,rfl,_⟩,h1⟩:=h0.cons
 obtain ⟨_,_,rfl,⟨x1,rfl,_⟩,h2⟩:=h1.cons
 obtain ⟨_,_,rfl,⟨x2,rfl,_⟩,h3⟩:=h2.cons
 obtain ⟨_,_,rfl,⟨x3,rfl,_⟩,h4⟩:=h3.cons
 obtain rfl:=h4.nil
 exact⟨⟨x0,x1,x2,x3⟩,rfl⟩
theorem cells174:Tryz.prog.cellsOf 174=15:=by kernel_rfl
theorem rd174:Ed Tryz.prog 174 true 15 (fun v=>∃ x:Arms,v=dj x):=by
 have h:Ed Tryz.prog 174 true 15 (fun v=>∃ vs,Each [(true,4,(fun v=>∃ x:Field,v=jC x)),(false,1,(fun v=>∃ n:Int,v=I n/\(Lit.int .i64 n).wf=true)),(false,1,(fun v=>∃ n:Int,v=I n/\(Lit.int .i64 n).wf=true)),(false,1,(fun v=>∃ n:Int,v=I n/\(Lit.int .i64 n).wf=true)),(true,4,(fun v=>∃ x:Group,v=ib x)),(true,4,(fun v=>∃ x:Group,v=ib x))] vs/\v=.agg (vs.flatMap axR)) :=
  Ed.struct Tryz.underlying174 ⟨rfl,cells171,rd171,rfl,cells3,rd3,rfl,cells3,rd3,rfl,cells3,rd3,rfl,cells172,rd172,rfl,cells172,rd172,trivial⟩ rfl cells174
 refine h.imp fun v hv=>?_
 obtain ⟨vs,h0,rfl⟩:=hv
 obtain ⟨_,_,rfl,⟨x0,rfl⟩,h1⟩:=h0.cons
 obtain ⟨_,_,rfl,⟨x1,rfl,_⟩,h2⟩:=h1.cons
 obtain ⟨_,_,rfl,⟨x2,rfl,_⟩,h3⟩:=h2.cons
 obtain ⟨_,_,rfl,⟨x3,rfl,_⟩,h4⟩:=h3.cons
 obtain ⟨_,_,rfl,⟨x4,rfl⟩,h5⟩:=h4.cons
 obtain ⟨_,_,rfl,⟨x5,rfl⟩,h6⟩:=h5.cons
 obtain rfl:=h6.nil
 exact⟨⟨x0,x1,x2,x3,x4,x5⟩,rfl⟩
theorem cells9:Tryz.prog.cellsOf 9=1:=by kernel_rfl
theorem cells176:Tryz.prog.cellsOf 176=18:=by kernel_rfl
theorem rd176:Ed Tryz.prog 176 true 18 (fun v=>∃ x:Grant,v=bd x):=by
 have h:Ed Tryz.prog 176 true 18 (fun v=>∃ vs,Each [(false,1,(fun v=>∃ n:Int,v=I n/\(Lit.int .i64 n).wf=true)),(false,1,(fun v=>∃ b:List UInt8,v=S b/\b.length<=maxLen)),(false,1,(fun v=>∃ n:Int,v=I n/\(Lit.int .i64 n).wf=true)),(true,15,(fun v=>∃ x:Arms,v=dj x))] vs/\v=.agg (vs.flatMap axR)) :=
  Ed.struct Tryz.underlying176 ⟨rfl,cells3,rd3,rfl,cells9,rd9,rfl,cells3,rd3,rfl,cells174,rd174,trivial⟩ rfl cells176
 refine h.imp fun v hv=>?_
 obtain ⟨vs,h0,rfl⟩:=hv
 obtain ⟨_,_,rfl,⟨x0,rfl,_⟩,h1⟩:=h0.cons
 obtain ⟨_,_,rfl,⟨x1,rfl,_⟩,h2⟩:=h1.cons
 obtain ⟨_,_,rfl,⟨x2,rfl,_⟩,h3⟩:=h2.cons
 obtain ⟨_,_,rfl,⟨x3,rfl⟩,h4⟩:=h3.cons
 obtain rfl:=h4.nil
 exact⟨⟨x0,x1,x2,x3⟩,rfl⟩
theorem rd22:Ed Tryz.prog 22 false 1 (fun v=>∃ l:List Grant,v=V.ro 18 (l.map bd)) :=
 (Ed.slice Tryz.underlying22 cells176 (by decide) rd176).imp fun v hv=>aWY (fun e he=>he) hv
theorem cells22:Tryz.prog.cellsOf 22=1:=by kernel_rfl
theorem cells24:Tryz.prog.cellsOf 24=1:=by kernel_rfl
theorem rd24:Ed Tryz.prog 24 true 1 (fun v=>∃ x:aT,v=bn x):=by
 have h:Ed Tryz.prog 24 true 1 (fun v=>∃ vs,Each [(false,1,(fun v=>∃ l:List Grant,v=V.ro 18 (l.map bd)))] vs/\v=.agg (vs.flatMap axR)) :=
  Ed.struct Tryz.underlying24 ⟨rfl,cells22,rd22,trivial⟩ rfl cells24
 refine h.imp fun v hv=>?_
 obtain ⟨vs,h0,rfl⟩:=hv
 obtain ⟨_,_,rfl,⟨x0,rfl⟩,h1⟩:=h0.cons
 obtain rfl:=h1.nil
 exact⟨x0,rfl⟩
theorem cells26:Tryz.prog.cellsOf 26=3:=by kernel_rfl
theorem rd26:Ed Tryz.prog 26 true 3 (fun v=>∃ x:Log,v=rA x):=by
 have h:Ed Tryz.prog 26 true 3 (fun v=>∃ vs,Each [(false,1,(fun v=>∃ b:List UInt8,v=S b/\b.length<=maxLen)),(false,1,(fun v=>∃ b:List UInt8,v=S b/\b.length<=maxLen)),(false,1,(fun v=>∃ n:Int,v=I n/\(Lit.int .i64 n).wf=true))] vs/\v=.agg (vs.flatMap axR)) :=
  Ed.struct Tryz.underlying26 ⟨rfl,cells9,rd9,rfl,cells9,rd9,rfl,cells3,rd3,trivial⟩ rfl cells26
 refine h.imp fun v hv=>?_
 obtain ⟨vs,h0,rfl⟩:=hv
 obtain ⟨_,_,rfl,⟨x0,rfl,_⟩,h1⟩:=h0.cons
 obtain ⟨_,_,rfl,⟨x1,rfl,_⟩,h2⟩:=h1.cons
 obtain ⟨_,_,rfl,⟨x2,rfl,_⟩,h3⟩:=h2.cons
 obtain rfl:=h3.nil
 exact⟨⟨x0,x1,x2⟩,rfl⟩
def firstCells:Array Value:=(Pinned.utf8FirstZ.map fun n:Nat=>Value.int .u8 (Int.ofNat n)).toArray
noncomputable def doorW (os:Os):World:={ World.doorLaid Tryz.prog 72 os with heap:=(World.doorLaid Tryz.prog 72 os).heap.modify 4 fun | .cells _ ty fr=>.cells firstCells ty fr | o=>o }
def laidL:List (String×DataW Unit):=[("math/bits.deBruijn32tab",Rows.laid_math_bits_deBruijn32tab),("math/bits.deBruijn64tab",Rows.laid_math_bits_deBruijn64tab),("internal/strconv.uint64pow10",Rows.laid_internal_strconv_uint64pow10),("unicode/utf8.acceptRanges",Rows.laid_unicode_utf8_acceptRanges),("strconv.ErrRange",Rows.laid_strconv_ErrRange),("strconv.ErrSyntax",Rows.laid_strconv_ErrSyntax),("unicode/utf8.first",Rows.laid_unicode_utf8_first)]
theorem laid_pow:Rows.laid_internal_strconv_uint64pow10 (H:=Unit)=Lib.tabData .u64 Lib.pow10Tab:=by kernel_rfl
theorem gErr:Tryz.prog.globalNamed "strconv.ErrSyntax"=some 2:=by kernel_rfl
theorem gErrType:(Tryz.prog.globals[2]?).map (·.type)=some 187:=by kernel_rfl
theorem errStar : "*" ++ "errors.errorString" = "*errors.errorString":=by decide
theorem errRow (u:TypeId) (h:Tryz.prog.typeName? 3 u=some "*errors.errorString"):u=321 :=
 typeName_ptr_named (nm := "errors.errorString") (by rw[errStar];kernel_rfl) (by kernel_rfl) (by decide) u (by rw[errStar];exact h)
theorem cell_old {W:World} {g:Nat} {v:Value} (h:W.cell? ⟨g,0,none⟩=some v):g < W.heap.size:=by
 refine Classical.byContradiction fun hlt=>?_
 unfold World.cell? at h
 rw[Array.getElem?_eq_none (by simpa using hlt)] at h
 cases h
theorem ginv_of {W:World} (h:laidMet Tryz.prog laidL W) (hsh:W.ShapedOpen Tryz.prog):GI.holds W (Old W):=by
 have h':laidMet Tryz.prog (("internal/strconv.uint64pow10",Lib.tabData .u64 Lib.pow10Tab)::laidL.drop 3) W:=by
  have h2:=(laidMet.tail (laidMet.tail h))
  rw[laid_pow] at h2;exact h2
 have ht:Lib.TabIs Tryz.prog W "internal/strconv.uint64pow10" .u64 Lib.pow10Tab:=Lib.tabIs_of_head aW5 (by kernel_rfl) Tryz.underlying294 Tryz.underlying87 (by kernel_rfl) (by kernel_rfl) h'
 have hlt:1 < W.heap.size:=by
  have ht2:=ht
  unfold Lib.TabIs World.var? at ht2
  rw[aW5] at ht2
  simp only[Option.bind_some] at ht2
  refine Classical.byContradiction fun hlt=>?_
  rw[Array.getElem?_eq_none (by omega)] at ht2
  cases ht2
 obtain ⟨m,hm⟩:=cell_of_shapedOpen_int (P:=Tryz.prog) (g:=0) (t:=3) (zero:=#[.int .i64 0]) (k:=.i64) hsh (by decide +kernel) (by kernel_rfl) rfl (by kernel_rfl) (by kernel_rfl) Tryz.underlying3
 have h3:laidMet Tryz.prog (("strconv.ErrSyntax",.iface "*errors.errorString" (.ptr (.agg [.lit (.string [105,110,118,97,108,105,100,32,115,121,110,116,97,120])])))::laidL.drop 6) W:=(laidMet.tail (laidMet.tail (laidMet.tail (laidMet.tail (laidMet.tail h)))))
 obtain ⟨a,s,hv,_⟩:=laid_sentinel h3 gErr gErrType Tryz.underlying187 errRow Tryz.underlying321 Tryz.underlying323 rfl rfl Tryz.underlying9 (by kernel_rfl) (by kernel_rfl)
 have hc:W.cell? ⟨2,0,none⟩=some (.iface 321 (.pointer (some a))):=by simpa using World.var?_cell gErr hv 0
 exact⟨ht,hlt,⟨⟨m,hm⟩,cell_old hm⟩,⟨_,hc,.inr ⟨_,_,rfl⟩⟩,cell_old hc⟩
theorem handed_shaped {H:Type} {enc:TypeId×Value->H} {a:Assume} {C:Checked} {os:Os} {f:FuncId} {fn:Func} {s:ChangeSpec} {conds:List PathCond} {apart fresh handsOn again:Bool} {X:World->Array Value->Prop}
  (hX:∀ (w w':World) (args:Array Value),w.heap=w'.heap->X w args->X w' args)
  (own:ownKnob C.prog.godebug=none) (started:os.Started) (noInit:C.prog.inits.idxOf? f=none) (hfn:C.prog.funcs[f]?=some fn)
  (witness:∃ (w:World) (tape:Tape) (i:Input),w.os=os/\(w.forCall tape i).Shaped C.prog/\i.vars=[]/\Input.okWide C.prog (w.forCall tape i) .any w.heap.size f i /\
   ((s.pre enc C.prog fn conds apart (w.forCall tape i).memory i.args/\X (w.forCall tape i).memory i.args)/\sizedMet enc C.prog fn (OpenSpec.ofChange s) apart (w.forCall tape i).memory i.args)/\a.holds C.prog (lone (Frame.enter C.prog f i.args .normal) [] (w.forCall tape i)))
  (contract:∀ (W:World) (base:Nat) (args:Array Value) (ds gs:List (DataW H)) (before:List MemPlace),
   (∀ (j:Nat) t v,fn.params[j]?=some t->args[j]?=some v->Value.okWide C.prog W .any base t v) ->
   DataW.Whole enc C.prog fn.params.toList s.vars apart W args.toList ds gs before->X W args->W.ShapedOpen C.prog ->
   Calls C.prog f args W fun e W'=>∃ v,e=.returned v/\s.post enc C.prog fn apart fresh handsOn again W args v W') :
  ReturnsInHanded a C os f .any (fun w args=>(s.pre enc C.prog fn conds apart w args/\X w args)/\sizedMet enc C.prog fn (OpenSpec.ofChange s) apart w args) (s.post enc C.prog fn apart fresh handsOn again):=by
 refine returnsInHanded_of_calls own started noInit witness fun w tape i _ hsh _ hok hpre _=>?_
 obtain ⟨_,_,_,fn',hfn',_,_,_,_,hval⟩:=hok
 obtain rfl:fn'=fn:=Option.some.inj (hfn'.symm.trans hfn)
 obtain ⟨⟨⟨ds,gs,before,hw,_⟩,hx⟩,_⟩:=hpre
 refine(contract (w.forCall tape i) w.heap.size i.args ds gs before hval (DataW.Whole.of_heap (w':=w.forCall tape i) (by rfl) hw) (hX _ _ _ (by rfl) hx) hsh).mono ?_
 rintro e W' ⟨v,rfl,hp⟩
 exact ChangeSpec.post_blind hp
theorem door_met (os:Os) (args:Array Value):laidMetH Tryz.prog laidL ((doorW os).forCall (fun _ _=>0) ⟨#[],args,[]⟩).memory :=
 laidMetH_of_parts3 (fuel:=8) (laidMet_of_run' 8 (by kernel_rfl) (by kernel_rfl)) (by kernel_rfl) (by kernel_rfl)
set_option maxRecDepth 100000 in
theorem lifted (os:Os) (started:os.Started) (H:Type) (enc:TypeId×Value->H) :
  ReturnsInHanded {} Tryz.checked os 6 .any (fun w args=>(Rows.fnExactReplayLogSpec.pre enc Tryz.prog Tryz.f6 [] false w args/\laidMetH Tryz.prog laidL w)/\sizedMet enc Tryz.prog Tryz.f6 (OpenSpec.ofChange Rows.fnExactReplayLogSpec) false w args)
   (Rows.fnExactReplayLogSpec.post enc Tryz.prog Tryz.f6 false true false false):=by
 refine handed_shaped (C:=Tryz.checked) (X:=fun w _=>laidMetH Tryz.prog laidL w) (fun _ _ _ hh h=>h.of_heap hh) own started (by kernel_rfl) Tryz.func6
  (ChangeSpec.witness_shaped (enc:=enc) (C:=Tryz.checked) (os:=os) (X:=fun w _=>laidMetH Tryz.prog laidL w) false (doorW os) #[.agg #[.slice none 0 0],.agg #[.string ⟨#[]⟩,.string ⟨#[]⟩,.int .i64 0]] 8 rfl (World.shaped_of_RefB (by kernel_rfl) (by kernel_rfl)) (by kernel_rfl) (by kernel_rfl) (by kernel_rfl) (door_met os _)) ?_
 intro W base args ds gs before hval hW hL hsh
 have hL':laidMet Tryz.prog laidL W:=by rw[MakeChecks.laidMetH_plain _ _ _ (by kernel_rfl)] at hL;exact hL
 have hp:aF0 Tryz.prog Tryz.f6.params.toList [(true,1,(fun v=>∃ x:aT,v=bn x)),(true,3,(fun v=>∃ x:Log,v=rA x))]:=by
  rw[Tryz.params6]
  exact⟨⟨rd24,⟨by kernel_rfl,of_decide_eq_true (by kernel_rfl)⟩,by rw[Tryz.underlying24]⟩,⟨rd26,⟨by kernel_rfl,of_decide_eq_true (by kernel_rfl)⟩,by rw[Tryz.underlying26]⟩,trivial⟩
 refine aUi (P:=Tryz.prog) (f:=6) (tb:=4) (s:=Rows.fnExactReplayLogSpec) (small:=fun _=>True) laidOut rfl ?_ rfl Tryz.underlying4 hp ?_ H enc W base args ds gs before hval hW trivial (ginv_of hL' hsh)
 ·intro H ds0 hd
  cases ds0 with
  | nil=>cases hd
  | cons d0 ds1 =>
    cases ds1 with
    | nil=>cases hd
    | cons d1 ds2 =>
      cases ds2 with
      | nil=>rfl
      | cons _ _=>cases hd
 ·intro vs h0 _
  obtain ⟨_,_,rfl,⟨x0,rfl⟩,h1⟩:=h0.cons
  obtain ⟨_,_,rfl,⟨x1,rfl⟩,h2⟩:=h1.cons
  obtain rfl:=h2.nil
  exact aLQ x0 x1
end Go.Proofs.YtnjjimhkbpdpgaaGreatDoor
