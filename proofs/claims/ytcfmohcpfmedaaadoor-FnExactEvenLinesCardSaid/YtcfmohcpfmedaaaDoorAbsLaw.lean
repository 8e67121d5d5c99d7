/- The abstract layer, part 15: from a law function's contract to what a row asks. -/
import Derived.Test.YtcfmohcpfmedaaaDoorAbsRead
import Derived.Test.YtcfmohcpfmedaaaDoorAbsStr
import Derived.JoinedCond
import Derived.WideKeyArgs
import Derived.Carry
set_option linter.unusedVariables false
set_option linter.unusedSimpArgs false
namespace Go.Abs
open Go.ChangeShapes Go.WideShapes Go.ChangeAt Go.RowKit
variable [GInv]

omit [GInv] in
theorem Reads.str {P : Program} {t : TypeId} (ht : P.underlying t = some .string) : Reads P t false 1 (fun v => ∃ b : List UInt8, v = S b ∧ b.length ≤ maxLen) :=
  (Reads.string ht).imp fun v hv => by
    obtain ⟨b, rfl, hb⟩ := hv
    refine ⟨b.data.toList, by rw [S, ← bs_data], ?_⟩
    simpa using hb

omit [GInv] in
theorem Reads.byte {P : Program} {t : TypeId} (ht : P.underlying t = some (.int .u8)) : Reads P t false 1 (fun v => ∃ b : UInt8, v = Y b) :=
  (Reads.int ht).imp fun v hv => by
    obtain ⟨n, rfl, hn⟩ := hv
    simp [Lit.wf, IntKind.min, IntKind.max, IntKind.signed, IntKind.bits] at hn
    obtain ⟨m, rfl⟩ := Int.eq_ofNat_of_zero_le (by omega : 0 ≤ n)
    refine ⟨UInt8.ofNat m, ?_⟩
    simp only [Y]
    congr 2
    simp
    omega


/-- The parameters, each with the shapes that it may read as. -/
def Params (P : Program) : List TypeId → List (Bool × Nat × (V → Prop)) → Prop
  | [], [] => True
  | t :: ts, (b, n, S) :: Ss => (Reads P t b n S ∧ (P.readableRec t = true ∧ t < P.types.size) ∧
      (match P.underlying t with | some (.struct _) => b = true | some (.int _) => b = false | some .string => b = false | some .bool => b = false | some (.slice _) => b = false | _ => False)) ∧ Params P ts Ss
  | _, _ => False

section
variable {P : Program} {H : Type} {enc : TypeId × Value → H} {W : World}

omit [GInv] in
theorem arg_read {t : TypeId} {b : Bool} {n base : Nat} {S : V → Prop} {x : Value} {d : DataW H} {ps : List MemPlace} (hr : Reads P t b n S)
    (ho : match P.underlying t with | some (.struct _) => b = true | some (.int _) => b = false | some .string => b = false | some .bool => b = false | some (.slice _) => b = false | _ => False)
    (hval : Value.okWide P W .any base t x) (h : DataW.Trod enc P W 0 (fun _ => true) true t x d ps) :
    ∃ v, (S v ∧ isAggV v = b) ∧ CV W (Old W) v (fun _ => none) x [] ∧ vbulk v ≤ bulk d := by
  obtain ⟨fuel, h⟩ := h
  obtain ⟨g1, g2, v, vs, g3, g4, g5, g6, g7, g8⟩ := hr H enc W true fuel _ _ h
  obtain ⟨y, h1, h2, h3⟩ := value_of_cells g5 g2 g6
  refine ⟨v, ⟨g3, g4⟩, ?_, g8⟩
  have plain : x.cells = #[x] → b = false → CV W (Old W) v (fun _ => none) x [] := fun hx hb => by
    have hv : vs = [v] := by
      rw [hb] at g4
      cases v <;> simp_all [cells?, isAggV]
    rw [hv, hx] at g6
    exact CVs_single g6
  split at ho
  · rename_i ht
    obtain ⟨cs, rfl, _⟩ := okWide_struct ht hval
    have e := h3 (by rw [g4]; exact ho)
    subst e
    simpa [Value.cells] using h2
  · rename_i ht
    obtain ⟨m, rfl⟩ := okWide_int ht hval
    exact plain rfl ho
  · rename_i ht
    obtain ⟨m, rfl⟩ := okWide_string ht hval
    exact plain rfl ho
  · rename_i ht
    obtain ⟨m, rfl⟩ := okWide_bool ht hval
    exact plain rfl ho
  · rename_i ht
    obtain ⟨a, l, c, rfl⟩ := okWide_slice ht hval
    exact plain rfl ho
  · exact ho.elim

omit [GInv] in
theorem args_read {base : Nat} : ∀ (ts : List TypeId) (Ss : List (Bool × Nat × (V → Prop))) (args : List Value) (ds : List (DataW H)) (ps : List MemPlace), Params P ts Ss →
    (∀ (j : Nat) t v, ts[j]? = some t → args[j]? = some v → Value.okWide P W .any base t v) → DataW.TrodAll enc P W 0 (fun _ => true) true ts args ds ps →
    ∃ vs, Each Ss vs ∧ CVs W (Old W) vs (fun _ => none) args [] ∧ vbulks vs ≤ bulkAll ds
  | [], [], args, ds, ps, _, _, h => by
    cases args <;> cases ds <;> simp [DataW.TrodAll] at h
    exact ⟨[], trivial, by simp [CVs], by simp [vbulks]⟩
  | t :: ts, (b, n, S) :: Ss, args, ds, ps, hp, hval, h => by
    obtain ⟨v, vs, d, ds', p, q, rfl, rfl, rfl, hd, hrest⟩ := trodAll_cons h
    obtain ⟨⟨hr, _, ho⟩, hp⟩ := hp
    obtain ⟨y, h1, h2, h3⟩ := arg_read hr ho (hval 0 t v rfl rfl) hd
    obtain ⟨ys, k1, k2, k3⟩ := args_read ts Ss vs ds' q hp (fun j t' v' hj hv => hval (j + 1) t' v' (by simpa using hj) (by simpa using hv)) hrest
    exact ⟨y :: ys, ⟨h1, k1⟩, by simp only [CVs]; exact ⟨v, vs, [], [], rfl, rfl, h2, k2⟩, by simp only [vbulks, bulkAll]; omega⟩
  | [], _ :: _, _, _, _, hp, _, _ => hp.elim
  | _ :: _, [], _, _, _, hp, _, _ => hp.elim

omit [GInv] in
theorem args_stay {W' : World} {sp : Nat → Bool} (hl : laidOutB P = true) (hb : Below W.heap.size W W') : ∀ (ts : List TypeId) (Ss : List (Bool × Nat × (V → Prop))) (args : List Value) (ds : List (DataW H)) (ps : List MemPlace), Params P ts Ss →
    (∀ p ∈ ps, p.block < W.heap.size) → (∀ p ∈ ps, sp p.block = true) → DataW.TrodAll enc P W 0 (fun _ => true) true ts args ds ps → DataW.TrodAll enc P W' 0 sp true ts args ds ps
  | [], [], args, ds, ps, _, _, _, h => by
    cases args <;> cases ds <;> simp [DataW.TrodAll] at h ⊢
    exact h
  | t :: ts, (b, n, S) :: Ss, args, ds, ps, hp, hlt, hsp, h => by
    obtain ⟨v, vs, d, ds', p, q, rfl, rfl, rfl, hd, hrest⟩ := trodAll_cons h
    obtain ⟨⟨_, hr, _⟩, hp⟩ := hp
    exact ⟨p, q, WideElems.Trod_stays hl hr.1 hr.2 hd (fun x hx => hb.same (hlt x (List.mem_append_left _ hx))) (fun x hx => hsp x (List.mem_append_left _ hx)),
      args_stay hl hb ts Ss vs ds' q hp (fun x hx => hlt x (List.mem_append_right _ hx)) (fun x hx => hsp x (List.mem_append_right _ hx)) hrest, rfl⟩
  | [], _ :: _, _, _, _, hp, _, _, _ => hp.elim
  | _ :: _, [], _, _, _, hp, _, _, _ => hp.elim

omit [GInv] in
theorem Grow.below {w w' : World} {D D' : Nat → Prop} (h : Grow w D [] w' D') : Below w.heap.size w w' :=
  ⟨h.os, h.tape, h.output, h.size, fun k hk => h.old k hk List.not_mem_nil⟩

omit [GInv] in
theorem keptBut_of_below {w w' : World} (h : Below w.heap.size w w') (may : MemPlace → Prop) : w.keptBut w' may := by
  refine ⟨h.os, h.output, fun i hi => ?_⟩
  have e := h.block i hi
  split
  · rename_i h1 h2
    rw [e, h1] at h2
    simp only [Option.some.injEq, Obj.cells.injEq] at h2
    obtain ⟨rfl, rfl, rfl⟩ := h2
    exact ⟨rfl, rfl, rfl, fun _ _ => rfl⟩
  · rename_i h1 h2
    rw [e, h1] at h2
    simp only [Option.some.injEq, Obj.map.injEq] at h2
    obtain ⟨rfl, rfl⟩ := h2
    exact .inr ⟨rfl, rfl⟩
  · exact e

omit [GInv] in
/-- 'post' where all old blocks stay. -/
theorem post_below {f : Func} {s : ChangeSpec} {apart fresh handsOn again : Bool} {W' : World} {args : Array Value} {v : Value} {ds gs : List (DataW H)} {pa : List MemPlace}
    (hW : DataW.Whole enc P f.params.toList s.vars apart W args.toList ds gs pa) (hb : Below W.heap.size W W')
    (hres : ∀ (b : Nat) (sp : Nat → Bool) (hd : Bool), DataW.TrodAll enc P W' b sp hd f.resultTypes.toList (v.resultList f.resultTypes.size) (s.fn H (ds ++ gs)).results [])
    (hargs : ∀ sp : Nat → Bool, (∀ p ∈ pa, sp p.block = true) → DataW.TrodAll enc P W' 0 sp true f.params.toList args.toList (s.fn H (ds ++ gs)).args pa)
    (hvars : ∀ sp : Nat → Bool, (∀ p ∈ pa, sp p.block = true) → DataW.TrodVars enc P W' sp s.vars (s.fn H (ds ++ gs)).vars [])
    (hok : ∀ (j : Nat) (t : TypeId) (r : Value), f.resultTypes[j]? = some t → (v.resultList f.resultTypes.size)[j]? = some r → Value.okWide P W' .any 0 t r) :
    s.post enc P f apart fresh handsOn again W args v W' := by
  have hlt := hW.lt
  have hold : ∀ p ∈ pa, (fun b => decide (b < W.heap.size)) p.block = true := fun p hp => by simpa using hlt p hp
  obtain ⟨_, _, _, _, _, hz, hn⟩ := id hW
  refine ⟨ds, gs, pa, [], pa, [], hW, hres _ _ _, hargs _ hold, hvars _ hold, keptBut_of_below hb _, fun _ => ⟨hok, _, _, ([] ++ pa) ++ [], ⟨[] ++ pa, [], trodAll_append (hargs _ (fun _ _ => rfl)) (hres _ _ _), hvars _ (fun _ _ => rfl), rfl, ?_, ?_⟩, ?_⟩⟩
  · intro b off hp
    have hp' : MemPlace.cell b off ∈ pa := by simpa using hp
    have e := hb.block b (hlt _ hp')
    have hz' := hz b off hp'
    unfold World.frozen? at hz' ⊢
    rw [e]; exact hz'
  · intro ha
    simpa using hn ha
  · intro p hp _
    simpa using hp
end

/-- WHAT A ROW 'IT RETURNS TRUE' ASKS, out of the law function's contract. -/
theorem law_calls {P : Program} {f tb : Nat} {fn : Func} {s : ChangeSpec} {Ss : List (Bool × Nat × (V → Prop))} {small : Nat → Prop} (hl : laidOutB P = true) (hv : s.vars = [])
    (hfn : ∀ (H : Type) (ds : List (DataW H)), ds.length = fn.params.size → s.fn H ds = { results := [.lit (.bool true)], args := ds })
    (hres : fn.resultTypes = #[tb]) (hb : P.underlying tb = some .bool) (hp : Params P fn.params.toList Ss)
    (hP : ∀ vs, Each Ss vs → (∃ m, small m ∧ vbulks vs ≤ m) → PCall P f vs (.v (.bool true)))
    (H : Type) (enc : TypeId × Value → H) (W : World) (base : Nat) (args : Array Value) (ds gs : List (DataW H)) (before : List MemPlace)
    (hval : ∀ (j : Nat) t v, fn.params[j]? = some t → args[j]? = some v → Value.okWide P W .any base t v)
    (hW : DataW.Whole enc P fn.params.toList s.vars false W args.toList ds gs before) (hsm : small (bulkAll ds)) (hgi : GInv.holds W (Old W)) :
    Calls P f args W fun e W' => ∃ v, e = .returned v ∧ s.post enc P fn false true false false W args v W' := by
  have hW' := hW
  obtain ⟨p, q, hA, hV, rfl, _, _⟩ := hW
  rw [hv] at hV
  obtain ⟨rfl, rfl⟩ := trodVars_none hV
  obtain ⟨vs, h1, h2, h3⟩ := args_read fn.params.toList Ss args.toList ds p hp (fun j t v hj hx => hval j t v (by simpa using hj) (by simpa using hx)) hA
  have hcall := (hP vs h1 ⟨_, hsm, h3⟩).2 W (Old W) args.toList (fun _ h => h) hgi h2
  rw [Array.toArray_toList] at hcall
  refine hcall.mono ?_
  rintro e W' ⟨y, D', fp, rfl, hg, hcv, _, _⟩
  have hy : y = .bool true := by simp only [CV] at hcv; exact hcv.1
  subst hy
  have hbl := Grow.below hg
  have hlt : ∀ x ∈ p, x.block < W.heap.size := fun x hx => hW'.lt x (by simpa using hx)
  have hlen : ∀ (ts : List TypeId) (vs : List Value) (ds : List (DataW H)) (ps : List MemPlace), DataW.TrodAll enc P W 0 (fun _ => true) true ts vs ds ps → ds.length = ts.length := by
    intro ts
    induction ts with
    | nil => intro vs ds ps h; cases vs <;> cases ds <;> simp [DataW.TrodAll] at h; rfl
    | cons t ts ih =>
      intro vs ds ps h
      obtain ⟨v, vs, d, ds', p, q, rfl, rfl, rfl, _, hr⟩ := trodAll_cons h
      simp [ih _ _ _ hr]
  have hds : ds.length = fn.params.size := by rw [hlen _ _ _ _ hA]; simp
  have hs := hfn H ds hds
  rw [List.append_nil] at hW'
  refine ⟨_, rfl, post_below hW' hbl (fun b sp hd => ?_) (fun sp hsp => ?_) (fun sp _ => ?_) (ok_one hres rfl (okWide_bool_mk hb _))⟩
  · rw [List.append_nil, hs, hres]
    exact trodAll_mk1 (shut_bool hb _)
  · rw [List.append_nil, hs]
    exact args_stay hl hbl fn.params.toList Ss args.toList ds p hp hlt hsp hA
  · rw [List.append_nil, hs, hv]; rfl

end Go.Abs
