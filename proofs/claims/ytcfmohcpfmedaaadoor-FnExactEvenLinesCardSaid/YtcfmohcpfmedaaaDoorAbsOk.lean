/- The abstract layer, part 4: what an operation that calls nothing does to abstract values, it does to the machine's. -/
import Derived.Test.YtcfmohcpfmedaaaDoorAbsOps
set_option linter.unusedVariables false
set_option linter.unusedSimpArgs false
namespace Go.Abs
variable [GInv]

def St.ev (s : St) : X → V
  | .t n => s.sl n
  | .k v => v

/-- The operation runs, and the state behind it stands for s'. -/
def Runs (P : Program) (o : Oper) (X : Ctx) (a : Act) (w : World) (s' : St) : Prop :=
  ∃ nx x w', (execOp a.eval o).run P w = .ok nx w' ∧ (nx = .value x ∨ (nx = .skip ∧ x = undef)) ∧ Rel X s' (a.put o.dst x) w'

section
variable {P : Program} {X : Ctx} {s : St} {a : Act} {w : World} {D : Nat → Prop} {φ : Nat → Option Pl} {F : Nat → List Nat} {o : Oper}

omit [GInv] in
theorem CVs_map_v : ∀ (xs : List Value), (∀ x ∈ xs, one x = true) → CVs w D (xs.map .v) φ xs []
  | [], _ => CVs_nil
  | x :: xs, h => by
    simp only [List.map_cons, CVs]
    exact ⟨x, xs, [], [], rfl, rfl, by simp [CV, h x (by simp)], CVs_map_v xs fun y hy => h y (by simp [hy])⟩

omit [GInv] in
theorem ofV_ok {x : Value} {v : V} (h : ofV x = some v) : CV w D v φ x [] := by
  unfold ofV at h
  split at h
  · rename_i cs
    split at h
    · rename_i hc
      simp only [Option.some.injEq] at h; subst h
      simp only [CV]
      exact ⟨cs, rfl, CVs_map_v _ fun x hx => by simpa using (Array.all_eq_true'.1 hc) x (by simpa using hx)⟩
    · cases h
  · split at h
    · rename_i cs hc
      simp only [Option.some.injEq] at h; subst h
      have : cs = #[] := by simpa using hc
      subst this
      simp only [CV]; exact ⟨#[], rfl, CVs_nil⟩
    · cases h
  · split at h
    · rename_i h1
      simp only [Option.some.injEq] at h; subst h
      simp only [CV]
      exact ⟨trivial, h1, trivial⟩
    · cases h

omit [GInv] in
theorem noIds_map_v : ∀ (xs : List Value), noIdss (xs.map .v) = true
  | [] => rfl
  | x :: xs => by simp [noIdss, noIds, noIds_map_v xs]

omit [GInv] in
theorem ofV_noIds {x : Value} {v : V} (h : ofV x = some v) : noIds v = true := by
  unfold ofV at h
  split at h
  · split at h
    · simp only [Option.some.injEq] at h; subst h; simp [noIds, noIds_map_v]
    · cases h
  · split at h
    · simp only [Option.some.injEq] at h; subst h; rfl
    · cases h
  · split at h
    · simp only [Option.some.injEq] at h; subst h; rfl
    · cases h

theorem cX_ok {y : Operand} {x : Abs.X} (hc : cX y = some x) (h : RelD X s a w D φ F []) : CV w D (s.ev x) φ (a.eval y) [] := by
  cases y with
  | tmp t =>
    simp only [cX, Option.some.injEq] at hc; subst hc
    exact h.slots t
  | const v =>
    simp only [cX, Option.map_eq_some_iff] at hc
    obtain ⟨u, hu, rfl⟩ := hc
    exact ofV_ok hu
  | func f =>
    simp only [cX, Option.some.injEq] at hc; subst hc
    exact (by simp only [St.ev, CV]; exact ⟨#[], rfl, CVs_nil⟩)
  | global g => simp [cX] at hc

omit [GInv] in
theorem cX_fresh {y : Operand} {x : Abs.X} {d : Nat} (hc : cX y = some x) (h : Fresh s d) : ment d (s.ev x) = false := by
  cases y with
  | tmp t =>
    simp only [cX, Option.some.injEq] at hc; subst hc
    exact h.sl t
  | const v =>
    simp only [cX, Option.map_eq_some_iff] at hc
    obtain ⟨u, hu, rfl⟩ := hc
    exact ment_noIds _ _ (ofV_noIds hu)
  | func f =>
    simp only [cX, Option.some.injEq] at hc; subst hc
    simp [St.ev, ment, ments]
  | global g => simp [cX] at hc

omit [GInv] in
theorem St.eta (s : St) : ({ sl := s.sl, hp := s.hp } : St) = s := rfl

/-- The operation computes a value, the world stays. -/
theorem runs_pure (h : RelD X s a w D φ F []) (hd : ∀ d, o.dst = some d → d < X.n) {v : V} {x : Value} (hr : (execOp a.eval o).run P w = .ok (.value x) w) (hv : CV w D v φ x []) :
    Runs P o X a w (({ v := v } : Dl).app o.dst s) := by
  refine ⟨_, x, w, hr, .inl rfl, D, φ, F, ?_⟩
  cases hdst : o.dst with
  | none => exact h
  | some d => exact h.put d (hd d hdst) v x hv

omit [GInv] in
theorem heap_push_old {w w' : World} {ob : Obj} (hh : w'.heap = w.heap.push ob) {b : Nat} (hb : b < w.heap.size) : w'.heap[b]? = w.heap[b]? := by
  rw [hh, Array.getElem?_push]; simp [Nat.ne_of_lt hb]

omit [GInv] in
theorem heap_push_new {w w' : World} {ob : Obj} (hh : w'.heap = w.heap.push ob) : w'.heap[w.heap.size]? = some ob := by
  rw [hh, Array.getElem?_push]; simp

/-- A new block comes: the state behind it. -/
theorem RelD.new {G : List Nat} (h : RelD X s a w D φ F G) (d : Nat) (hf : Fresh s d) (hp : d ∉ X.pin) (w' : World) (hos : w'.os = w.os) (htape : w'.tape = w.tape) (hout : w'.output = w.output)
    (arr : Array Value) (ty : TypeId) (hh : w'.heap = w.heap.push (.cells arr ty (0, 0))) (blk : Blk) (hm : ments d blk.es = false) (hc : CR w D blk.s blk.es φ arr.toList []) :
    RelD X { s with hp := upd s.hp d (some blk) } a w' D (upd φ d (some ⟨w.heap.size, 0, blk.s, arr.size⟩)) (upd F d [w.heap.size]) G := by
  have hsz : w'.heap.size = w.heap.size + 1 := by rw [hh]; simp
  have h1 := (h.grow w' D [w.heap.size] hos htape hout (by omega) (fun b hb => heap_push_old hh hb) (fun _ hb => hb) (fun b hb => ⟨.inl hb, by have := h.Dlt b hb; omega⟩) (by simp)
    (fun b hb => by simp at hb; subst hb; exact ⟨Nat.le_refl _, by omega, fun hd => Nat.lt_irrefl _ (h.Dlt _ hd)⟩)).gperm List.perm_append_comm
  refine h1.settle d hf hp (some ⟨w.heap.size, 0, blk.s, arr.size⟩) blk (.inr ⟨⟨w.heap.size, 0, blk.s, arr.size⟩, arr, ty, [], by simp, rfl, rfl, heap_push_new hh, rfl, ?_⟩)
  simp only [List.drop_zero]
  exact CR_mono (fun _ hb => hb) _ _ _ _ _ _ (fun b hb => heap_push_old hh (hb.elim (h.Dlt b) (by simp))) (fun id hi => upd_ne _ _ (ne_of_ments hm hi)) hc

/-- A new block comes, into which memory goes that was on its way. -/
theorem RelD.newF {f0 G : List Nat} (h : RelD X s a w D φ F (f0 ++ G)) (d : Nat) (hf : Fresh s d) (hp : d ∉ X.pin) (w' : World) (hos : w'.os = w.os) (htape : w'.tape = w.tape) (hout : w'.output = w.output)
    (arr : Array Value) (ty : TypeId) (hh : w'.heap = w.heap.push (.cells arr ty (0, 0))) (blk : Blk) (hm : ments d blk.es = false) (hc : CR w D blk.s blk.es φ arr.toList f0) :
    RelD X { s with hp := upd s.hp d (some blk) } a w' D (upd φ d (some ⟨w.heap.size, 0, blk.s, arr.size⟩)) (upd F d (w.heap.size :: f0)) G := by
  have hsz : w'.heap.size = w.heap.size + 1 := by rw [hh]; simp
  have h1 := (h.grow w' D [w.heap.size] hos htape hout (by omega) (fun b hb => heap_push_old hh hb) (fun _ hb => hb) (fun b hb => ⟨.inl hb, by have := h.Dlt b hb; omega⟩) (by simp)
    (fun b hb => by simp at hb; subst hb; exact ⟨Nat.le_refl _, by omega, fun hd => Nat.lt_irrefl _ (h.Dlt _ hd)⟩)).gperm List.perm_append_comm
  have h2 : RelD X s a w' D φ F ((w.heap.size :: f0) ++ G) := h1
  refine h2.settle d hf hp (some ⟨w.heap.size, 0, blk.s, arr.size⟩) blk (.inr ⟨⟨w.heap.size, 0, blk.s, arr.size⟩, arr, ty, f0, by simp, rfl, rfl, heap_push_new hh, rfl, ?_⟩)
  simp only [List.drop_zero]
  exact CR_mono (fun _ hb => hb) _ _ _ _ _ _ (fun b hb => heap_push_old hh (hb.elim (h.Dlt b) (fun hb => (h.gnotD b (List.mem_append_left _ hb)).2.1))) (fun id hi => upd_ne _ _ (ne_of_ments hm hi)) hc

theorem runs_new (h : RelD X s a w D φ F []) {d : Nat} (hdst : o.dst = some d) (hd : d < X.n) (hf : Fresh s d) (hp : d ∉ X.pin) {v : V} {x : Value} {w' : World} (hr : (execOp a.eval o).run P w = .ok (.value x) w')
    (hos : w'.os = w.os) (htape : w'.tape = w.tape) (hout : w'.output = w.output)
    (arr : Array Value) (ty : TypeId) (hh : w'.heap = w.heap.push (.cells arr ty (0, 0))) (blk : Blk) (hm : ments d blk.es = false) (hc : CR w D blk.s blk.es φ arr.toList [])
    (hv : CV w' D v (upd φ d (some ⟨w.heap.size, 0, blk.s, arr.size⟩)) x []) :
    Runs P o X a w (({ v := v, new := some blk } : Dl).app o.dst s) := by
  have h1 := (h.new d hf hp w' hos htape hout arr ty hh blk hm hc).put d hd v x hv
  have h2 : Rel X (({ v := v, new := some blk } : Dl).app (some d) s) (a.put (some d) x) w' := ⟨D, _, _, h1⟩
  rw [← hdst] at h2
  exact ⟨_, x, w', hr, .inl rfl, h2⟩

/-- A block is written. -/
theorem runs_write (h : RelD X s a w D φ F []) {id : Nat} {blk : Blk} (hb : s.hp id = some blk) {pl : Pl} (hpl : φ id = some pl) {arr arr' : Array Value} {ty : TypeId}
    (hw : w.heap[pl.b]? = some (.cells arr ty (0, 0))) (hl : arr'.size = arr.size) {w' : World} (hr : (execOp a.eval o).run P w = .ok .skip w') (hdst : o.dst = none)
    (hw' : w'.heap = w.heap.setIfInBounds pl.b (.cells arr' ty (0, 0))) (hos : w'.os = w.os) (htape : w'.tape = w.tape) (hout : w'.output = w.output)
    (es' : List V) (hes : ∀ f' , F id = pl.b :: f' → CR w D blk.s blk.es φ (arr.toList.drop pl.o) f' → CR w D blk.s es' φ (arr'.toList.drop pl.o) f') :
    Runs P o X a w (({ v := .undef, wr := some (id, ⟨blk.s, es'⟩) } : Dl).app o.dst s) := by
  have h1 := h.write id blk hb pl hpl arr arr' ty hw hl w' hw' hos htape hout es' hes
  refine ⟨_, undef, w', hr, .inr ⟨rfl, rfl⟩, D, φ, F, ?_⟩
  rw [hdst]
  exact h1

omit [GInv] in
theorem cell_at {b o s i j : Nat} {arr : Array Value} {x : Value} (hb : blk? w b = some arr) (hx : ∀ j, j < s → (arr.toList.drop o)[i * s + j]? = x.cells[j]?) (hj : j < s) :
    w.cell? ⟨b, o + (i * s + j), none⟩ = x.cells[j]? := by
  rw [cell?_of_blk hb, ← hx j hj, List.getElem?_drop]; simp

omit [GInv] in
theorem tyOf_eq {t : TypeId} {b : Bool} {n : Nat} (h : tyOf P t = some (b, n)) : ∃ d i, P.underlying t = some d ∧ P.info? t = some i ∧ aggOf d = b ∧ i.size = n := by
  unfold tyOf at h
  split at h
  · rename_i d i h1 h2
    simp only [Option.some.injEq, Prod.mk.injEq] at h
    exact ⟨d, i, h1, h2, h.1, h.2⟩
  · cases h

omit [GInv] in
theorem run_isAgg {t : TypeId} {d : TypeDesc} (h : P.underlying t = some d) : (isAgg t).run P w = .ok (aggOf d) w := by
  simp only [isAgg, Sem.run_bind, run_underlying h, Result.andThen_ok]
  cases d <;> simp [aggOf]

omit [GInv] in
theorem run_ld_agg {t : TypeId} {n : Nat} {ad : Addr} (ht : tyOf P t = some (true, n)) (cs : List Value) (hl : cs.length = n) (hc : ∀ k v, cs[k]? = some v → w.cell? (ad.add k) = some v) :
    (loadVar t ad).run P w = .ok (.agg cs.toArray) w := by
  obtain ⟨d, i, h1, h2, h3, rfl⟩ := tyOf_eq ht
  simp only [loadVar, Sem.run_bind, run_isAgg h1, Result.andThen_ok, h3, if_true, sizeOf, typeInfo, run_program, h2, Sem.run_pure]
  rw [← hl, run_loadCells_list w ad cs hc]
  simp

omit [GInv] in
theorem run_ld_one {t : TypeId} {n : Nat} {ad : Addr} {v : Value} (ht : tyOf P t = some (false, n)) (hc : w.cell? ad = some v) :
    (loadVar t ad).run P w = .ok v w := by
  obtain ⟨d, i, h1, h2, h3, rfl⟩ := tyOf_eq ht
  simp only [loadVar, Sem.run_bind, run_isAgg h1, Result.andThen_ok, h3]
  simp [hc]

omit [GInv] in
theorem isAggV_eq {e : V} (h : isAggV e = true) : ∃ cs, e = .agg cs := by
  cases e <;> simp [isAggV] at h
  exact ⟨_, rfl⟩

omit [GInv] in
/-- What is read is what 'ldOf' says. -/
theorem run_ldOf {t : TypeId} {agg : Bool} {n b o s i j : Nat} {arr : Array Value} {x : Value} {e v : V} (ht : tyOf P t = some (agg, n)) (hb : blk? w b = some arr)
    (hx : ∀ j, j < s → (arr.toList.drop o)[i * s + j]? = x.cells[j]?) (hs : x.cells.size = s) (he : CV w D e φ x []) (hv : ldOf agg n s j e = some v) :
    ∃ y, (loadVar t ⟨b, o + (i * s + j), none⟩).run P w = .ok y w ∧ CV w D v φ y [] := by
  unfold ldOf at hv
  split at hv
  · rename_i hcond
    obtain ⟨rfl, rfl, rfl⟩ := hcond
    split at hv
    · rename_i ha
      simp only [Option.some.injEq] at hv; subst hv
      obtain ⟨cs, rfl⟩ := isAggV_eq ha
      have he' := he
      simp only [CV] at he'
      obtain ⟨xs, rfl, h2⟩ := he'
      refine ⟨.agg xs, ?_, he⟩
      rw [run_ld_agg ht xs.toList (by simpa [Value.cells] using hs) (fun k v hk => ?_)]
      rw [Addr.add_lit, Nat.add_assoc, Nat.add_assoc, Nat.zero_add, cell_at hb hx (j := k) (by
        have := (List.getElem?_eq_some_iff.1 hk).1
        simpa [Value.cells, ← hs] using this)]
      simpa [Value.cells] using hk
    · cases hv
  · cases hcs : cells? e with
    | none => simp [hcs] at hv
    | some cs =>
      simp only [hcs] at hv
      have hcv := CV_cells hcs he
      have hlen := CVs_length hcv
      simp only [Array.length_toList, hs] at hlen
      cases agg with
      | true =>
        simp only [if_true] at hv
        split at hv
        · rename_i hjn
          simp only [Option.some.injEq] at hv; subst hv
          have hc2 := CVs_take n (CVs_drop j hcv)
          refine ⟨_, run_ld_agg ht ((x.cells.toList.drop j).take n) (by simp [hs]; omega) (fun k v hk => ?_), ?_⟩
          · rw [List.getElem?_take] at hk
            split at hk
            · rename_i hkn
              rw [Addr.add_lit, Nat.add_assoc, Nat.add_assoc, cell_at hb hx (j := j + k) (by omega)]
              simpa using hk
            · cases hk
          · simp only [CV]
            exact ⟨_, rfl, by simpa using hc2⟩
        · cases hv
      | false =>
        simp only [Bool.false_eq_true, if_false] at hv
        split at hv
        · obtain ⟨y, f', h1, h2, h3⟩ := CVs_get hcv hv
          have : f' = [] := List.eq_nil_iff_forall_not_mem.2 fun b hb => by simpa using h3 b hb
          subst this
          have hj : j < s := by
            have := (List.getElem?_eq_some_iff.1 hv).1
            omega
          refine ⟨y, run_ld_one ht ?_, h2⟩
          rw [cell_at hb hx hj]; simpa using h1
        · cases hv

omit [GInv] in
theorem noIds_get : ∀ {es : List V} {i : Nat} {e : V}, noIdss es = true → es[i]? = some e → noIds e = true
  | [], i, e, _, h => by simp at h
  | c :: cs, 0, e, hn, h => by simp only [noIdss, Bool.and_eq_true] at hn; simp at h; exact h ▸ hn.1
  | c :: cs, i + 1, e, hn, h => by simp only [noIdss, Bool.and_eq_true] at hn; exact noIds_get hn.2 (by simpa using h)

omit [GInv] in
theorem eq_nil_of_sub {f : List Nat} (h : ∀ b ∈ f, b ∈ ([] : List Nat)) : f = [] := List.eq_nil_iff_forall_not_mem.2 fun b hb => by simpa using h b hb

theorem blk_of (h : RelD X s a w D φ F []) {id : Nat} {blk : Blk} (hb : s.hp id = some blk) {i : Nat} {e : V} (he : blk.es[i]? = some e) :
    ∃ p arr ty f', φ id = some p ∧ p.s = blk.s ∧ p.z = arr.size ∧ w.heap[p.b]? = some (.cells arr ty (0, 0)) ∧ F id = p.b :: f' ∧ CR w D blk.s blk.es φ (arr.toList.drop p.o) f' := by
  rcases h.blks id blk hb with ⟨_, h2, _⟩ | h1
  · rw [h2] at he; simp at he
  · exact h1

theorem run_vld (h : RelD X s a w D φ F []) {t : TypeId} {agg : Bool} {n : Nat} (ht : tyOf P t = some (agg, n)) {u : V} {x : Value} (hcv : CV w D u φ x [])
    {p : Prop} {δ : Dl} (he : vld agg n s.hp u = some (p, δ)) : ∃ ad y, x = .pointer (some ad) ∧ (loadVar t ad).run P w = .ok y w ∧ δ = { v := δ.v } ∧ CV w D δ.v φ y [] := by
  unfold vld at he
  split at he
  · rename_i id i j
    simp only [CV] at hcv
    obtain ⟨_, p0, hp0, hxp⟩ := hcv
    cases hb : s.hp id with
    | none => simp [hb] at he
    | some blk =>
      simp only [hb] at he
      cases hes : blk.es[i]? with
      | none => simp [hes] at he
      | some e =>
        simp only [hes] at he
        split at he
        · rename_i hno
          cases hv : ldOf agg n blk.s j e with
          | none => simp [hv] at he
          | some v =>
            simp only [hv, pure1, Option.some.injEq, Prod.mk.injEq] at he
            obtain ⟨_, rfl⟩ := he
            obtain ⟨p1, arr, ty, f', g1, g2, g3, g4, g5, g6⟩ := blk_of h hb hes
            rw [hp0] at g1; cases g1
            obtain ⟨z, fz, k1, k2, k3, k4⟩ := CR_get g6 hes
            have : fz = [] := CV_noOwn _ _ _ _ hno k1
            subst this
            obtain ⟨r, r1, r2⟩ := run_ldOf ht (blk?_of_heap g4) k4 k3.1 k1 hv
            rw [← g2] at r1
            exact ⟨_, r, hxp, r1, rfl, r2⟩
        · cases he
  · rename_i s' es i j
    simp only [CV] at hcv
    obtain ⟨_, b, o', arr, hxp, hD, hbk, hcr, hni⟩ := hcv
    cases hes : es[i]? with
    | none => simp [hes] at he
    | some e =>
      simp only [hes] at he
      cases hv : ldOf agg n s' j e with
      | none => simp [hv] at he
      | some v =>
        simp only [hv, pure1, Option.some.injEq, Prod.mk.injEq] at he
        obtain ⟨_, rfl⟩ := he
        obtain ⟨z, fz, k1, k2, k3, k4⟩ := CR_get hcr hes
        have := eq_nil_of_sub k2
        subst this
        have hme : ∀ id, ment id e = false := fun id => ment_noIds id e (noIds_get hni hes)
        have k1' : CV w D e φ z [] := CV_mono (fun _ hb => hb) _ _ _ _ _ (fun _ _ => rfl) (fun id hm => by rw [hme id] at hm; cases hm) k1
        obtain ⟨r, r1, r2⟩ := run_ldOf ht hbk k4 k3.1 k1' hv
        exact ⟨_, r, hxp, r1, rfl, r2⟩
  · cases he

theorem ok_ld (h : RelD X s a w D φ F []) (hd : ∀ d, o.dst = some d → d < X.n) {t : TypeId} {y : Operand} {x : Abs.X} {agg : Bool} {n : Nat} (hop : o.op = .load t y) (ht : tyOf P t = some (agg, n)) (hx : cX y = some x)
    {p : Prop} {δ : Dl} (he : vld agg n s.hp (s.ev x) = some (p, δ)) : Runs P o X a w (δ.app o.dst s) := by
  obtain ⟨ad, r, h1, h2, h3, h4⟩ := run_vld h ht (cX_ok hx h) he
  rw [h3]
  exact runs_pure h hd (by simp [execOp, hop, Instr.loadAt, Instr.sureAddr, h1, h2]) h4

theorem ok_mv (h : RelD X s a w D φ F []) (hd : ∀ d, o.dst = some d → d < X.n) {y : Operand} {x : Abs.X} (hop : o.op = .move y ∨ o.op = .assign y) (hx : cX y = some x) :
    Runs P o X a w (({ v := s.ev x } : Dl).app o.dst s) :=
  runs_pure h hd (x := a.eval y) (by rcases hop with hop | hop <;> simp [execOp, hop]) (cX_ok hx h)

omit [GInv] in
theorem CV_bool {t : Bool} {x : Value} {f : List Nat} (h : CV w D (.v (.bool t)) φ x f) : x = .bool t := by simp only [CV] at h; exact h.1
omit [GInv] in
theorem CV_v {y x : Value} {f : List Nat} (h : CV w D (.v y) φ x f) : x = y := by simp only [CV] at h; exact h.1
omit [GInv] in
theorem CV_mkv {y : Value} (h : one y = true) : CV w D (.v y) φ y [] := by simp [CV, h]

theorem ok_pick (h : RelD X s a w D φ F []) (hd : ∀ d, o.dst = some d → d < X.n) {c y z : Operand} {xc xy xz : Abs.X} {t : Bool} (hop : o.op = .pick c y z) (hc : cX c = some xc) (hy : cX y = some xy) (hz : cX z = some xz)
    (ht : s.ev xc = .v (.bool t)) : Runs P o X a w (({ v := bif t then s.ev xy else s.ev xz } : Dl).app o.dst s) := by
  have hcv := cX_ok hc h
  rw [ht] at hcv
  have hb := CV_bool hcv
  refine runs_pure h hd (x := bif t then a.eval y else a.eval z) (by cases t <;> simp [execOp, hop, hb, asBool]) ?_
  cases t
  · exact cX_ok hz h
  · exact cX_ok hy h

omit [GInv] in
theorem sizeV_eq {v : V} {n : Nat} {x : Value} {f : List Nat} (h : sizeV v = some n) (hc : CV w D v φ x f) : x.cells.size = n := by
  simp only [sizeV, Option.map_eq_some_iff] at h
  obtain ⟨cs, h1, h2⟩ := h
  have := CVs_length (CV_cells h1 hc)
  simpa [h2] using this

omit [GInv] in
mutual
theorem one_of_CV : ∀ (v : V) (φ : Nat → Option Pl) (x : Value) (f : List Nat), scal1 v = true → CV w D v φ x f → one x = true
  | .undef, _, _, _, h, _ => by simp [scal1] at h
  | .agg _, _, _, _, h, _ => by simp [scal1] at h
  | .tup _, _, _, _, h, _ => by simp [scal1] at h
  | .v y, _, x, _, _, h => by simp only [CV] at h; rw [h.1]; exact h.2.1
  | .ref _ _ _, _, x, _, _, h => by simp only [CV] at h; obtain ⟨_, p, _, rfl⟩ := h; rfl
  | .sl _ _ _, _, x, _, _, h => by simp only [CV] at h; obtain ⟨_, ⟨_, _, _, rfl⟩ | ⟨p, o, cap, _, rfl, _⟩⟩ := h <;> rfl
  | .rp _ _ _ _, _, x, _, _, h => by simp only [CV] at h; obtain ⟨_, b, o, arr, rfl, _⟩ := h; rfl
  | .ro _ _, _, x, _, _, h => by simp only [CV] at h; obtain ⟨_, ⟨_, a, cap, rfl, _⟩ | ⟨b, o, cap, arr, rfl, _⟩⟩ := h <;> rfl
  | .own _ _, _, x, _, _, h => by simp only [CV] at h; obtain ⟨_, rfl, _⟩ | ⟨b, o, cap, arr, ty, fp', rfl, _⟩ := h <;> rfl
  | .clo _ _, _, x, _, _, h => by simp only [CV] at h; obtain ⟨xs, rfl, _⟩ := h; rfl
end

omit [GInv] in
theorem one_of_CVs : ∀ {cs : List V} {φ : Nat → Option Pl} {xs : List Value} {f : List Nat}, flat1 cs = true → CVs w D cs φ xs f → ∀ x ∈ xs, one x = true
  | [], φ, xs, f, _, h => by simp only [CVs] at h; simp [h.1]
  | c :: cs, φ, xs, f, hf, h => by
    simp only [CVs] at h; obtain ⟨x, xs', f1, f2, rfl, _, h1, h2⟩ := h
    intro y hy
    have hc : scal1 c = true ∧ flat1 cs = true := by simpa [flat1] using hf
    rcases List.mem_cons.1 hy with rfl | hy
    · exact one_of_CV _ _ _ _ hc.1 h1
    · exact one_of_CVs hc.2 h2 y hy

omit [GInv] in
theorem ones_of_flatV {v : V} {x : Value} {f : List Nat} (h : flatV v = true) (hc : CV w D v φ x f) : x.cells.toList.all one = true := by
  unfold flatV at h
  split at h
  · rename_i vs hvs
    rw [List.all_eq_true]
    exact one_of_CVs h (CV_cells hvs hc)
  · cases h

omit [GInv] in
theorem CR_one {v : V} {x : Value} {n : Nat} (hc : CV w D v φ x []) (hs : x.cells.size = n ∧ x.cells.toList.all one = true) : CR w D n [v] φ x.cells.toList [] := by
  simp only [CR]
  exact ⟨x, [], [], [], by simp, hs, rfl, hc, rfl⟩

theorem ok_box (h : RelD X s a w D φ F []) {t : TypeId} {y : Operand} {v : V} {n d : Nat} {x : Value} (hop : (o.op = .box t y ∧ a.eval y = x) ∨ (o.op = .alloc t ∧ ∃ i, P.info? t = some i ∧ i.zero = some x))
    (hc : CV w D v φ x []) (hs : sizeV v = some n) (hfl : flatV v = true) (hm : ment d v = false) (hdst : o.dst = some d) (hd : d < X.n) (hf : Fresh s d) (hp : d ∉ X.pin) :
    Runs P o X a w (({ v := .ref d 0 0, new := some ⟨n, [v]⟩ } : Dl).app o.dst s) := by
  have hsz := sizeV_eq hs hc
  refine runs_new h hdst hd hf hp (x := .pointer (some ⟨w.heap.size, 0, none⟩)) (w' := w.alloc (.cells x.cells t)) ?_ rfl rfl rfl x.cells t rfl ⟨n, [v]⟩ (by simp [ments, hm]) (CR_one hc ⟨hsz, ones_of_flatV hfl hc⟩) ?_
  · rcases hop with ⟨hop, rfl⟩ | ⟨hop, i, hi, hz⟩
    · simp [execOp, hop, Instr.box, newVar, newRow]
    · simp [execOp, hop, Instr.alloc, zeroValue, typeInfo, hi, hz, newVar, newRow]
  · simp only [CV, upd_same]
    exact ⟨trivial, _, rfl, by simp⟩

omit [GInv] in
/-- The cells of a block, written from place k on. -/
theorem run_store_at {b f : Nat} {arr : Array Value} {ty : TypeId} (hw : w.heap[b]? = some (.cells arr ty (0, 0))) (vs : List Value) (h1 : ∀ v ∈ vs, one v = true) (hl : f + vs.length ≤ arr.size) :
    ∃ arr' : Array Value, arr'.toList = arr.toList.take f ++ vs ++ arr.toList.drop (f + vs.length) ∧
      (storeCells ⟨b, f, none⟩ vs).run P w = .ok () { w with heap := w.heap.setIfInBounds b (.cells arr' ty (0, 0)) } := by
  have h := run_storeCells_at P b f ty vs 0 arr w hw (by simpa using hl) (fun v hv => by have := h1 v hv; cases v <;> simp_all [one, Value.oneCell'])
  refine ⟨_, List.toList_toArray, ?_⟩
  rw [h]
  have hb : b < w.heap.size := (Array.getElem?_eq_some_iff.1 hw).1
  have hwb : w.heap[b] = .cells arr ty (0, 0) := by rw [Array.getElem?_eq_getElem hb] at hw; exact Option.some.inj hw
  congr 1
  unfold World.setRow
  congr 1
  refine Array.ext_getElem? fun i => ?_
  rw [Array.getElem?_modify, Array.getElem?_setIfInBounds]
  by_cases e : b = i
  · subst e; simp [hb, hwb]
  · simp [e]

omit [GInv] in
theorem run_storeVar' {t : TypeId} {i : TypeInfo} (hi : P.info? t = some i) {b f : Nat} {arr : Array Value} {ty : TypeId} (hw : w.heap[b]? = some (.cells arr ty (0, 0))) (v : Value) (hs : v.cells.size = i.size)
    (h1 : ∀ x ∈ v.cells.toList, one x = true) (hl : f + v.cells.size ≤ arr.size) :
    ∃ arr' : Array Value, arr'.toList = arr.toList.take f ++ v.cells.toList ++ arr.toList.drop (f + v.cells.size) ∧
      (storeVar t ⟨b, f, none⟩ v).run P w = .ok () { w with heap := w.heap.setIfInBounds b (.cells arr' ty (0, 0)) } := by
  obtain ⟨arr', g1, g2⟩ := run_store_at (P := P) hw v.cells.toList h1 (by simpa using hl)
  refine ⟨arr', by simpa using g1, ?_⟩
  simp only [storeVar, Sem.run_bind, sizeOf, typeInfo, run_program, Result.andThen_ok, hi, Sem.run_pure, hs]
  simpa using g2

omit [GInv] in
theorem splice_get {α : Type} (L c : List α) (f q : Nat) (h : f + c.length ≤ L.length) :
    (L.take f ++ c ++ L.drop (f + c.length))[q]? = if q < f then L[q]? else if q < f + c.length then c[q - f]? else L[q]? := by
  have hf : (L.take f).length = f := by rw [List.length_take]; omega
  split
  · rename_i h1
    rw [List.append_assoc, List.getElem?_append_left (by omega), List.getElem?_take]; simp [h1]
  · rename_i h1
    split
    · rename_i h2
      rw [List.getElem?_append_left (by rw [List.length_append]; omega), List.getElem?_append_right (by omega), hf]
    · rename_i h2
      rw [List.getElem?_append_right (by rw [List.length_append]; omega), List.length_append, hf, List.getElem?_drop]
      congr 1; omega

omit [GInv] in
theorem splice_length {α : Type} (L c : List α) (f : Nat) (h : f + c.length ≤ L.length) : (L.take f ++ c ++ L.drop (f + c.length)).length = L.length := by
  simp only [List.length_append, List.length_take, List.length_drop]; omega

omit [GInv] in
theorem CV_agg_of {cs : List V} {xs : List Value} {f : List Nat} (h : CVs w D cs φ xs f) : CV w D (.agg cs) φ (.agg xs.toArray) f := by
  simp only [CV]; exact ⟨_, rfl, by simpa using h⟩

omit [GInv] in
/-- The element that 'stOf' gives. -/
theorem stOf_ok {n s j : Nat} {e v e' : V} {z x : Value} (he : CV w D e φ z []) (hz : z.cells.size = s) (hv : CV w D v φ x []) (hx : x.cells.size = n) (h : stOf n s j e v = some e') :
    j + n ≤ s ∧ ∃ y, CV w D e' φ y [] ∧ y.cells.size = s ∧ ∀ k, k < s → y.cells[k]? = if k < j then z.cells[k]? else if k < j + n then x.cells[k - j]? else z.cells[k]? := by
  unfold stOf at h
  split at h
  · rename_i hc
    obtain ⟨rfl, rfl, _⟩ := hc
    simp only [Option.some.injEq] at h; subst h
    refine ⟨by omega, x, hv, hx, fun k hk => ?_⟩
    simp [hk]
  · split at h
    · rename_i cs vs h1 h2
      split at h
      · rename_i hc
        obtain ⟨ha, hl, hj⟩ := hc
        simp only [Option.some.injEq] at h; subst h
        have g1 := CV_cells h1 he
        have g2 := CV_cells h2 hv
        have l1 := CVs_length g1
        have l2 := CVs_length g2
        simp only [Array.length_toList] at l1 l2
        have g3 := CVs_append (CVs_append (CVs_take j g1) g2) (CVs_drop (j + n) g1)
        simp only [List.append_nil] at g3
        refine ⟨by omega, _, CV_agg_of g3, ?_, fun k hk => ?_⟩
        · rw [show ∀ L : List Value, (Value.agg L.toArray).cells = L.toArray from fun _ => rfl, List.size_toArray, show j + n = j + x.cells.toList.length from by simp [hx], splice_length _ _ _ (by simp; omega)]; simpa using hz
        · rw [show ∀ L : List Value, (Value.agg L.toArray).cells = L.toArray from fun _ => rfl, List.getElem?_toArray, show j + n = j + x.cells.toList.length from by simp [hx], splice_get _ _ _ _ (by simp; omega)]
          simp
      · cases h
    · cases h

theorem ok_st (h : RelD X s a w D φ F []) {t : TypeId} {i0 : TypeInfo} {ya yx : Operand} {xa xx : Abs.X} (hop : o.op = .store t ya yx) (hi0 : P.info? t = some i0) (hxa : cX ya = some xa) (hxx : cX yx = some xx) (hdst : o.dst = none)
    {p : Prop} {δ : Dl} (he : vst i0.size s.hp (s.ev xx) (s.ev xa) = some (p, δ)) : Runs P o X a w (δ.app o.dst s) := by
  have hcv := cX_ok hxa h
  have hvx := cX_ok hxx h
  generalize s.ev xa = u at he hcv
  generalize s.ev xx = v at he hvx
  unfold vst at he
  split at he
  · rename_i id i j
    simp only [CV] at hcv
    obtain ⟨_, p0, hp0, hxp⟩ := hcv
    cases hb : s.hp id with
    | none => simp [hb] at he
    | some blk =>
      simp only [hb] at he
      cases hes : blk.es[i]? with
      | none => simp [hes] at he
      | some e =>
        simp only [hes] at he
        split at he
        · rename_i hcond
          obtain ⟨hne, hnv, hsz, hfl, hn0⟩ := hcond
          cases hst : stOf i0.size blk.s j e v with
          | none => simp [hst] at he
          | some e' =>
            simp only [hst, Option.some.injEq, Prod.mk.injEq] at he
            obtain ⟨_, rfl⟩ := he
            obtain ⟨p1, arr, ty, f', g1, g2, g3, g4, g5, g6⟩ := blk_of h hb hes
            rw [hp0] at g1; cases g1
            obtain ⟨z, fz, k1, k2, k3, k4⟩ := CR_get g6 hes
            have : fz = [] := CV_noOwn _ _ _ _ hne k1
            subst this
            have hxs := sizeV_eq hsz hvx
            obtain ⟨hjn, y, y1, y2, y3⟩ := stOf_ok k1 k3.1 hvx hxs hst
            have hlen := CR_length g6
            have hil : i < blk.es.length := (List.getElem?_eq_some_iff.1 hes).1
            have hmul : (i + 1) * blk.s ≤ blk.es.length * blk.s := Nat.mul_le_mul_right _ hil
            rw [Nat.add_mul, Nat.one_mul] at hmul
            simp only [List.length_drop, Array.length_toList] at hlen
            have hle : p0.o + (i * p0.s + j) + (a.eval yx).cells.size ≤ arr.size := by
              rw [g2, hxs]
              have : 0 < blk.es.length * blk.s := Nat.mul_pos (by omega) (by omega)
              omega
            have hones := ones_of_flatV hfl hvx
            have hone : ∀ x ∈ (a.eval yx).cells.toList, one x = true := List.all_eq_true.1 hones
            obtain ⟨arr', q1, q2⟩ := run_storeVar' (P := P) hi0 g4 (a.eval yx) hxs hone hle
            have hl' : arr'.size = arr.size := by
              have := congrArg List.length q1
              rw [show p0.o + (i * p0.s + j) + (a.eval yx).cells.size = p0.o + (i * p0.s + j) + (a.eval yx).cells.toList.length from by simp, splice_length _ _ _ (by simpa using hle)] at this
              simpa using this
            refine runs_write h hb hp0 g4 hl' (w' := { w with heap := w.heap.setIfInBounds p0.b (.cells arr' ty (0, 0)) }) ?_ hdst rfl rfl rfl rfl _ ?_
            · simp [execOp, hop, Instr.storeAt, Instr.sureAddr, hxp, q2]
            · intro f1 hf1 hcr
              have y4 : y.cells.toList.all one = true := by
                rw [List.all_eq_true]
                intro c hc
                obtain ⟨k, hk⟩ := List.mem_iff_getElem?.1 hc
                have hks : k < blk.s := by
                  have := (List.getElem?_eq_some_iff.1 hk).1
                  simpa [y2] using this
                have h3 := y3 k hks
                rw [Array.getElem?_toList] at hk
                rw [hk] at h3
                split at h3
                · exact List.all_eq_true.1 k3.2 c (List.mem_of_getElem? (i := k) (by rw [Array.getElem?_toList]; exact h3.symm))
                · split at h3
                  · exact hone c (List.mem_of_getElem? (i := k - j) (by rw [Array.getElem?_toList]; exact h3.symm))
                  · exact List.all_eq_true.1 k3.2 c (List.mem_of_getElem? (i := k) (by rw [Array.getElem?_toList]; exact h3.symm))
              refine CR_set hcr hes hne y1 ⟨y2, y4⟩ ?_ ?_ ?_
              · simp [hl']
              · intro q hq
                rw [List.getElem?_drop, List.getElem?_drop, q1, show p0.o + (i * p0.s + j) + (a.eval yx).cells.size = p0.o + (i * p0.s + j) + (a.eval yx).cells.toList.length from by simp, splice_get _ _ _ _ (by simpa using hle)]
                simp only [Array.length_toList, hxs, g2]
                split
                · rfl
                · rw [if_neg (by omega)]
              · intro q hq
                rw [y3 q hq, List.getElem?_drop, q1, show p0.o + (i * p0.s + j) + (a.eval yx).cells.size = p0.o + (i * p0.s + j) + (a.eval yx).cells.toList.length from by simp, splice_get _ _ _ _ (by simpa using hle)]
                simp only [Array.length_toList, hxs, g2]
                have hk := k4 q hq
                rw [List.getElem?_drop] at hk
                by_cases c1 : q < j
                · rw [if_pos (by omega), if_pos c1, hk]
                · rw [if_neg (by omega), if_neg c1]
                  by_cases c2 : q < j + i0.size
                  · rw [if_pos (by omega), if_pos c2]; rw [show p0.o + (i * blk.s + q) - (p0.o + (i * blk.s + j)) = q - j from by omega]; simp
                  · rw [if_neg (by omega), if_neg c2, hk]
        · cases he
  · cases he
end
end Go.Abs
