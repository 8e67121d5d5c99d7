/- The abstract layer, merged part 2 of 5. -/
import Derived.Test.YtbeoijlggphklaaGreatDoorAbs1
import Derived.Lib.ConvBytes
import Derived.Laws.BytesString
set_option linter.unusedVariables false
set_option linter.unusedSimpArgs false
namespace Go.Abs
variable [GInv]
section
variable {P : Program} {X : Ctx} {s : St} {a : Act} {w : World} {D : Nat → Prop} {φ : Nat → Option Pl} {F : Nat → List Nat} {o : Oper}

theorem cXo_ok (h : RelD X s a w D φ F []) {y : Option Operand} {x : Option Abs.X} (hx : cXo y = some x) : (x = none ∧ y = none) ∨ ∃ x' y', x = some x' ∧ y = some y' ∧ CV w D (s.ev x') φ (a.eval y') [] := by
  cases y with
  | none => simp only [cXo, Option.some.injEq] at hx; exact .inl ⟨hx.symm, rfl⟩
  | some y =>
    simp only [cXo, Option.map_eq_some_iff] at hx
    obtain ⟨x', h1, rfl⟩ := hx
    exact .inr ⟨x', y, rfl, rfl, cX_ok h1 h⟩

omit [GInv] in
theorem lohi_some {n : Nat} {lo hi : Option V} {p : Prop} {l u : Nat} (h : lohi n lo hi = some (p, l, u)) (hp : p) :
    ((lo = none ∧ l = 0) ∨ ∃ k, lo = some (.v (.int k (l : Int)))) ∧ ((hi = none ∧ u = n) ∨ ∃ k, hi = some (.v (.int k (u : Int)))) ∧ l ≤ u ∧ u ≤ n := by
  unfold lohi at h
  split at h <;> simp only [Option.some.injEq, Prod.mk.injEq, reduceCtorEq] at h
  · obtain ⟨rfl, rfl, rfl⟩ := h
    exact ⟨.inl ⟨rfl, rfl⟩, .inl ⟨rfl, rfl⟩, Nat.zero_le _, Nat.le_refl _⟩
  · obtain ⟨rfl, rfl, rfl⟩ := h
    obtain ⟨m, rfl⟩ := Int.eq_ofNat_of_zero_le hp.1
    exact ⟨.inr ⟨_, rfl⟩, .inl ⟨rfl, rfl⟩, by have := hp.2; simp; omega, Nat.le_refl _⟩
  · obtain ⟨rfl, rfl, rfl⟩ := h
    obtain ⟨m, rfl⟩ := Int.eq_ofNat_of_zero_le hp.1
    exact ⟨.inl ⟨rfl, rfl⟩, .inr ⟨_, rfl⟩, Nat.zero_le _, by have := hp.2; simp; omega⟩
  · obtain ⟨rfl, rfl, rfl⟩ := h
    obtain ⟨m, rfl⟩ := Int.eq_ofNat_of_zero_le hp.1
    obtain ⟨m', rfl⟩ := Int.eq_ofNat_of_zero_le (Int.le_trans hp.1 hp.2.1)
    exact ⟨.inr ⟨_, rfl⟩, .inr ⟨_, rfl⟩, by have := hp.2; simp; omega, by have := hp.2; simp; omega⟩

/-- The bounds of a slice expression, as the model computes them. -/
theorem run_bounds (isSlice : Bool) (n cap : Nat) (hn : n ≤ cap) {lo hi : Option Abs.X} {yl yh : Option Operand} (h : RelD X s a w D φ F []) (hl : cXo yl = some lo) (hh : cXo yh = some hi) {p : Prop} {l u : Nat}
    (hb : lohi n (lo.map s.ev) (hi.map s.ev) = some (p, l, u)) (hp : p) : l ≤ u ∧ u ≤ n ∧ (Instr.sliceBounds isSlice n cap (yl.map a.eval) (yh.map a.eval) none).run P w = .ok (l, u, cap) w := by
  obtain ⟨q1, q2, q3, q4⟩ := lohi_some hb hp
  refine ⟨q3, q4, ?_⟩
  have c1 : u ≤ cap := by omega
  have c2 : l ≤ u := by omega
  rcases cXo_ok h hl with ⟨rfl, rfl⟩ | ⟨xl, yl', rfl, rfl, h1⟩ <;> rcases cXo_ok h hh with ⟨rfl, rfl⟩ | ⟨xh, yh', rfl, rfl, h2⟩
  · obtain ⟨_, rfl⟩ := q1.resolve_right (by simp)
    obtain ⟨_, rfl⟩ := q2.resolve_right (by simp)
    simp [Instr.sliceBounds]
  · obtain ⟨_, rfl⟩ := q1.resolve_right (by simp)
    obtain ⟨k, hk⟩ := q2.resolve_left (by simp)
    simp only [Option.map_some, Option.some.injEq] at hk
    rw [hk] at h2
    have hx := CV_v h2
    simp [Instr.sliceBounds, Instr.sliceBound, asIntOf, hx, c1]
  · obtain ⟨_, rfl⟩ := q2.resolve_right (by simp)
    obtain ⟨k, hk⟩ := q1.resolve_left (by simp)
    simp only [Option.map_some, Option.some.injEq] at hk
    rw [hk] at h1
    have hx := CV_v h1
    simp [Instr.sliceBounds, Instr.sliceBound, asIntOf, hx, c2]
  · obtain ⟨k, hk⟩ := q1.resolve_left (by simp)
    obtain ⟨k', hk'⟩ := q2.resolve_left (by simp)
    simp only [Option.map_some, Option.some.injEq] at hk hk'
    rw [hk] at h1
    rw [hk'] at h2
    have hx := CV_v h1
    have hx' := CV_v h2
    simp [Instr.sliceBounds, Instr.sliceBound, asIntOf, hx, hx', c1, c2]

omit [GInv] in
theorem vslcS_lohi {b : ByteArray} {lo hi : Option V} {p : Prop} {δ : Dl} (h : vslcS b lo hi = some (p, δ)) : ∃ l u, lohi b.size lo hi = some (p, l, u) ∧ δ = { v := .v (.string (b.extract l u)) } := by
  unfold vslcS at h
  unfold lohi
  split at h <;> simp only [pure1, pureIf, Option.some.injEq, Prod.mk.injEq, reduceCtorEq] at h
  all_goals (obtain ⟨rfl, rfl⟩ := h; exact ⟨_, _, rfl, rfl⟩)

theorem ok_slcS (h : RelD X s a w D φ F []) (hd : ∀ d, o.dst = some d → d < X.n) {t : TypeId} {y : Operand} {x : Abs.X} {yl yh : Option Operand} {lo hi : Option Abs.X} (hop : o.op = .slice t y yl yh none) (ht : P.underlying t = some .string)
    (hx : cX y = some x) (hl : cXo yl = some lo) (hh : cXo yh = some hi) {p : Prop} {δ : Dl} (he : vslcX (s.ev x) (lo.map s.ev) (hi.map s.ev) = some (p, δ)) (hp : p) : Runs P o X a w (δ.app o.dst s) := by
  have hcv := cX_ok hx h
  generalize s.ev x = u at he hcv
  unfold vslcX at he
  split at he
  rotate_left
  · cases he
  rename_i b
  obtain ⟨l, u, hb, rfl⟩ := vslcS_lohi he
  have hxv := CV_v hcv
  obtain ⟨_, _, hr⟩ := run_bounds (P := P) false b.size b.size (Nat.le_refl _) h hl hh hb hp
  have ho : one (.string (b.extract l u)) = true := by
    have h0 : one (.string b) = true := by simp only [CV] at hcv; exact hcv.2.1
    simp only [one, decide_eq_true_eq] at h0 ⊢
    rw [ByteArray.size_extract]; omega
  exact runs_pure h hd (by simp [execOp, hop, hxv, Instr.sliceAt, Instr.slice, run_underlying ht, hr]) (CV_mkv ho)

theorem ok_slcL (h : RelD X s a w D φ F []) (hd : ∀ d, o.dst = some d → d < X.n) {t e : TypeId} {i0 : TypeInfo} {y : Operand} {x : Abs.X} {yl yh : Option Operand} {lo hi : Option Abs.X} (hop : o.op = .slice t y yl yh none) (ht : P.underlying t = some (.slice e)) (hi0 : P.info? e = some i0)
    (hx : cX y = some x) (hl : cXo yl = some lo) (hh : cXo yh = some hi) {p : Prop} {δ : Dl} (he : vslcL i0.size s.hp (s.ev x) (lo.map s.ev) (hi.map s.ev) = some (p, δ)) (hp : p) : Runs P o X a w (δ.app o.dst s) := by
  have hcv := cX_ok hx h
  generalize s.ev x = u at he hcv
  have run : ∀ (b : Option Addr) n cap l u, n ≤ cap → a.eval y = .slice b n cap → lohi n (lo.map s.ev) (hi.map s.ev) = some (p, l, u) →
      (execOp a.eval o).run P w = .ok (.value (.slice (if cap = l then b else b.map (·.add (l * i0.size))) (u - l) (cap - l))) w := by
    intro b n cap l u hn hxv hb
    obtain ⟨_, _, hr⟩ := run_bounds (P := P) true n cap hn h hl hh hb hp
    simp [execOp, hop, hxv, Instr.sliceAt, Instr.slice, run_underlying ht, hr, sizeOf, typeInfo, hi0]
  unfold vslcL at he
  split at he
  · rename_i s' es
    cases hlh : lohi es.length (lo.map s.ev) (hi.map s.ev) with
    | none => simp [hlh] at he
    | some q =>
      obtain ⟨q, l, u⟩ := q
      simp only [hlh] at he
      split at he
      · rename_i hss; subst hss
        simp only [pureIf, Option.some.injEq, Prod.mk.injEq] at he
        obtain ⟨rfl, rfl⟩ := he
        obtain ⟨_, _, hlu, hun⟩ := lohi_some hlh hp
        have hlen : ((es.drop l).take (u - l)).length = u - l := by rw [List.length_take, List.length_drop]; omega
        simp only [CV] at hcv
        obtain ⟨_, ⟨rfl, a', cap, hxv, hcm⟩ | ⟨b, o', cap, arr, hxv, hnc, hcm, hD, hbk, hcr, hni⟩⟩ := hcv
        · simp only [List.length_nil] at hun
          obtain rfl : u = 0 := by omega
          obtain rfl : l = 0 := by omega
          refine runs_pure h hd (run _ _ _ _ _ (Nat.zero_le _) hxv hlh) ?_
          simp only [CV]
          exact ⟨trivial, .inl ⟨by simp, _, _, rfl, by omega⟩⟩
        · refine runs_pure h hd (run _ _ _ _ _ hnc hxv hlh) ?_
          simp only [CV]
          refine ⟨trivial, ?_⟩
          by_cases hc : cap = l
          · left
            refine ⟨List.eq_nil_of_length_eq_zero (by rw [hlen]; omega), _, _, by rw [show u - l = 0 from by omega], by omega⟩
          · right
            refine ⟨b, o' + l * i0.size, cap - l, arr, ?_, by rw [hlen]; omega, by omega, hD, hbk, ?_, ?_⟩
            · simp [hc, Addr.add_lit, hlen]
            · have := CR_take (u - l) (CR_drop l hcr)
              rw [List.drop_drop] at this
              exact this
            · exact noIdss_sub hni
      · cases he
  · rename_i id i n
    cases hb : s.hp id with
    | none => simp [hb] at he
    | some blk =>
      cases hlh : lohi n (lo.map s.ev) (hi.map s.ev) with
      | none => simp [hb, hlh] at he
      | some q =>
        obtain ⟨q, l, u⟩ := q
        simp only [hb, hlh] at he
        split at he
        · rename_i hbs
          simp only [pureIf, Option.some.injEq, Prod.mk.injEq] at he
          obtain ⟨rfl, rfl⟩ := he
          obtain ⟨_, _, hlu, hun⟩ := lohi_some hlh hp
          simp only [CV] at hcv
          obtain ⟨_, ⟨hφ, rfl, rfl, hxv⟩ | ⟨p0, o', cap, hp0, hxv, hnc, hcm, hcap⟩⟩ := hcv
          · obtain rfl : u = 0 := by omega
            obtain rfl : l = 0 := by omega
            refine runs_pure h hd (run _ _ _ _ _ (Nat.le_refl _) hxv hlh) ?_
            simp [CV, hφ]
          · refine runs_pure h hd (run _ _ _ _ _ hnc hxv hlh) ?_
            have hps : p0.s = i0.size := by
              rcases h.blks id blk hb with ⟨q1, _, _⟩ | ⟨p1, _, _, _, q1, q2, _⟩
              · rw [hp0] at q1; cases q1
              · rw [hp0] at q1; cases q1; rw [q2, hbs]
            simp only [CV]
            refine ⟨trivial, .inr ⟨p0, if cap = l then o' else o' + l * i0.size, cap - l, hp0, ?_, by omega, by omega, ?_⟩⟩
            · split <;> simp [Addr.add_lit]
            · by_cases hc : cap = l
              · left; omega
              · right
                obtain ⟨ho, hz⟩ := hcap.resolve_left (by omega)
                simp only [hc, if_false]
                have : i + l + (cap - l) = i + cap := by omega
                rw [this]
                exact ⟨by rw [ho, hps, Nat.add_mul]; omega, hz⟩
        · cases he
  · cases he
where
  noIdss_sub {es : List V} {l u : Nat} (h : noIdss es = true) : noIdss ((es.drop l).take (u - l)) = true := by
    have hall : ∀ {es : List V}, noIdss es = true ↔ ∀ e ∈ es, noIds e = true := by
      intro es
      induction es with
      | nil => simp [noIdss]
      | cons c cs ih => simp [noIdss, ih]
    rw [hall] at h ⊢
    exact fun e he => h e (List.mem_of_mem_drop (List.mem_of_mem_take he))

omit [GInv] in
/-- Cells written one by one from place off on. -/
theorem foldl_set (off : Nat) : ∀ (l : List Value) (k : Nat) (cs : Array Value), off + k + l.length ≤ cs.size →
    ((l.zipIdx k).foldl (fun cs (c : Value × Nat) => cs.setIfInBounds (off + c.2) c.1) cs).toList = cs.toList.take (off + k) ++ l ++ cs.toList.drop (off + k + l.length)
  | [], k, cs, _ => by simp
  | x :: l, k, cs, h => by
    simp only [List.length_cons] at h
    simp only [List.zipIdx_cons, List.foldl_cons]
    rw [foldl_set off l (k + 1) _ (by simp; omega)]
    simp only [Array.toList_setIfInBounds]
    have hlt : off + k < cs.toList.length := by simp; omega
    rw [List.set_eq_take_append_cons_drop]
    simp only [hlt, if_true]
    have ht : (cs.toList.take (off + k)).length = off + k := by rw [List.length_take]; omega
    rw [show off + (k + 1) = off + k + 1 from rfl, List.take_append_of_le_length' (x := x) ht, List.drop_append_of_gt' (x := x) ht (by omega)]
    simp [List.drop_drop]
    congr 1; omega
where
  List.take_append_of_le_length' {A B : List Value} {n : Nat} {x : Value} (h : A.length = n) : (A ++ x :: B).take (n + 1) = A ++ [x] := by
    subst h; rw [List.take_length_add_append]; simp
  List.drop_append_of_gt' {A B : List Value} {n m : Nat} {x : Value} (h : A.length = n) (hm : n < m) : (A ++ x :: B).drop m = B.drop (m - n - 1) := by
    subst h
    obtain ⟨k, rfl⟩ : ∃ k, m = A.length + (k + 1) := ⟨m - A.length - 1, by omega⟩
    rw [List.drop_length_add_append]; simp

omit [GInv] in
theorem array_foldl_zipIdx (l cs : Array Value) (off : Nat) (h : off + l.size ≤ cs.size) :
    (l.zipIdx.foldl (fun cs (c, j) => cs.setIfInBounds (off + j) c) cs).toList = cs.toList.take off ++ l.toList ++ cs.toList.drop (off + l.size) := by
  rw [← Array.foldl_toList, Array.toList_zipIdx]
  simpa using foldl_set off l.toList 0 cs (by simpa using h)

theorem fill_ok (h : RelD X s a w D φ F []) (places : List (Nat × Nat)) : ∀ (parts : List (Nat × Operand)) (ps : List (Nat × Nat × Abs.X)) (cs cs' : List V) (cells : Array Value), cPs places parts = some ps → CVs w D cs φ cells.toList [] →
    setPs s.ev cs ps = some cs' → ∃ arr, Instr.fill (places.toArray[·]?) cells (parts.map fun x => (x.1, a.eval x.2)) = some arr ∧ CVs w D cs' φ arr.toList []
  | [], ps, cs, cs', cells, hp, hc, hs => by
    simp only [cPs, Option.some.injEq] at hp; subst hp
    simp only [setPs, Option.some.injEq] at hs; subst hs
    exact ⟨cells, by simp [Instr.fill], hc⟩
  | (i, x) :: parts, ps, cs, cs', cells, hp, hc, hs => by
    unfold cPs at hp
    split at hp
    · rename_i off n y ys h1 h2 h3
      simp only [Option.some.injEq] at hp; subst hp
      unfold setPs at hs
      split at hs
      · rename_i vs hvs
        split at hs
        · rename_i hcond
          obtain ⟨hl, hle, hno⟩ := hcond
          have hcv := CV_cells hvs (cX_ok h2 h)
          have l1 := CVs_length hcv
          have l2 := CVs_length hc
          simp only [Array.length_toList] at l1 l2
          have hsz : (a.eval x).cells.size = n := by omega
          have hfold := array_foldl_zipIdx (a.eval x).cells cells off (by omega)
          have hc' := CVs_append (CVs_append (CVs_take off hc) hcv) (CVs_drop (off + n) hc)
          obtain ⟨arr, g1, g2⟩ := fill_ok h places parts ys _ cs' ((a.eval x).cells.zipIdx.foldl (fun cs (c, j) => cs.setIfInBounds (off + j) c) cells) h3 (by rw [hfold, hsz]; simpa using hc') hs
          refine ⟨arr, ?_, g2⟩
          simp only [List.map_cons, Instr.fill]
          have : places.toArray[i]? = some (off, n) := by simpa using h1
          rw [this]
          have hc1 : ¬ ((a.eval x).cells.size ≠ n) := by omega
          have hc2 : ¬ (off + (a.eval x).cells.size > cells.size) := by omega
          simp only [hc2, decide_false, Bool.or_false, decide_eq_true_eq, hc1, if_false]
          exact g1
        · cases hs
      · cases hs
    · cases hp

omit [GInv] in
theorem ones_ofV {x : Value} {v : V} {n : Nat} (h : ofV x = some v) (hs : sizeV v = some n) : x.cells.toList.all one = true := by
  unfold ofV at h
  split at h
  · rename_i cs
    split at h
    · rename_i hc
      rw [List.all_eq_true]
      intro y hy
      exact Array.all_eq_true'.1 hc y (by simpa [Value.cells] using hy)
    · cases h
  · split at h
    · simp only [Option.some.injEq] at h; subst h
      simp [sizeV, cells?] at hs
    · cases h
  · split at h
    · rename_i this
      rw [one_cells this]; simp [this]
    · cases h

omit [GInv] in
theorem zeroOf_eq {i : TypeInfo} {z : V} (h : zeroOf i = some z) : ∃ x, i.zero = some x ∧ ofV x = some z := by
  unfold zeroOf at h
  cases hz : i.zero with
  | none => simp [hz] at h
  | some x => exact ⟨x, rfl, by simpa [hz] using h⟩

theorem ok_build (h : RelD X s a w D φ F []) (hd : ∀ d, o.dst = some d → d < X.n) {t : TypeId} {parts : Array (Nat × Operand)} {fs : Array Field} {i0 : TypeInfo} {z : V} {places : List (Nat × Nat)} {ps : List (Nat × Nat × Abs.X)}
    (hop : o.op = .build t parts) (ht : P.underlying t = some (.struct fs)) (hi : P.info? t = some i0) (hz : zeroOf i0 = some z) (hpl : placesOf P fs = some places) (hps : cPs places parts.toList = some ps)
    {p : Prop} {δ : Dl} (he : vbuild s.ev z ps = some (p, δ)) : Runs P o X a w (δ.app o.dst s) := by
  obtain ⟨x0, hx0, hof⟩ := zeroOf_eq hz
  unfold vbuild at he
  split at he
  · rename_i cs
    split at he
    · rename_i cs' hset
      simp only [pure1, Option.some.injEq, Prod.mk.injEq] at he
      obtain ⟨_, rfl⟩ := he
      have hz0 : CV w D (.agg cs) φ x0 [] := ofV_ok hof
      simp only [CV] at hz0
      obtain ⟨xs, rfl, hcs⟩ := hz0
      obtain ⟨arr, g1, g2⟩ := fill_ok h places parts.toList ps cs cs' xs hps hcs hset
      refine runs_pure h hd (x := .agg arr) ?_ (by simp only [CV]; exact ⟨_, rfl, g2⟩)
      have hb : P.built t (parts.map fun x => (x.1, a.eval x.2)).toList = some arr := by
        unfold Program.built
        unfold placesOf at hpl
        simp only [hi, ht, hx0, hpl]
        simpa [Value.cells] using g1
      have := run_build w t _ arr hb
      simp [execOp, hop, this]
    · cases he
  · cases he

omit [GInv] in
theorem CR_replicate {z : V} {x : Value} {n : Nat} (hc : CV w D z φ x []) (hs : x.cells.size = n ∧ x.cells.toList.all one = true) : ∀ (k : Nat) (xs : List Value), xs.length = k * n → (∀ i, i < k * n → xs[i]? = x.cells[i % n]?) → CR w D n (List.replicate k z) φ xs []
  | 0, xs, hl, hx => by simp [CR]
  | k + 1, xs, hl, hx => by
    simp only [List.replicate_succ, CR]
    refine ⟨x, xs.drop n, [], [], ?_, hs, rfl, hc, CR_replicate hc hs k _ ?_ fun i hi => ?_⟩
    · refine List.ext_getElem? fun j => ?_
      by_cases hj : j < n
      · rw [hx j (by rw [Nat.add_mul, Nat.one_mul]; omega), Nat.mod_eq_of_lt hj, List.getElem?_append_left (by simpa [hs.1] using hj)]; simp
      · rw [List.getElem?_append_right (by simp [hs.1]; omega), List.getElem?_drop]; congr 1; simp [hs.1]; omega
    · rw [List.length_drop, hl, Nat.add_mul, Nat.one_mul]; omega
    · rw [List.getElem?_drop, hx (n + i) (by rw [Nat.add_mul, Nat.one_mul]; omega)]
      simp

omit [GInv] in
theorem CR_zero {z : V} {x : Value} {n : Nat} (hc : CV w D z φ x []) (hs : x.cells.size = n ∧ x.cells.toList.all one = true) (k : Nat) (hn : n ≠ 0) : CR w D n (List.replicate k z) φ ((Array.range (k * n)).map fun i => x.cells[i % x.cells.size]!).toList [] := by
  refine CR_replicate hc hs k _ (by simp) fun i hi => ?_
  have : i % n < x.cells.size := by rw [hs.1]; exact Nat.mod_lt _ (by omega)
  simp only [Array.toList_map, Array.toList_range, List.getElem?_map, List.getElem?_range hi, Option.map_some, hs.1]
  rw [getElem!_pos x.cells _ this, getElem?_pos x.cells _ this]

/-- The cells of 'fill' for a slice's literal. -/
theorem setPt_ok (h : RelD X s a w D φ F []) (n : Nat) : ∀ (parts : List (Nat × Operand)) (ps : List (Nat × Abs.X)) (es es' : List V) (cells : Array Value), cPt parts = some ps → CR w D n es φ cells.toList [] → cells.size = es.length * n → noOwns es = true →
    setPt s.ev n es ps = some es' → ∃ arr, Instr.fill (fun i => some (i * n, n)) cells (parts.map fun x => (x.1, a.eval x.2)) = some arr ∧ CR w D n es' φ arr.toList [] ∧ es'.length = es.length ∧ arr.size = cells.size
  | [], ps, es, es', cells, hp, hc, hl, hno, hs => by
    simp only [cPt, Option.some.injEq] at hp; subst hp
    simp only [setPt, Option.some.injEq] at hs; subst hs
    exact ⟨cells, by simp [Instr.fill], hc, rfl, rfl⟩
  | (i, x) :: parts, ps, es, es', cells, hp, hc, hl, hno, hs => by
    unfold cPt at hp
    split at hp
    · rename_i y ys h1 h2
      simp only [Option.some.injEq] at hp; subst hp
      unfold setPt at hs
      split at hs
      · rename_i hcond
        obtain ⟨hi, hsz, hnx, hfl⟩ := hcond
        have hcv := cX_ok h1 h
        have hxs := sizeV_eq hsz hcv
        have hmul : (i + 1) * n ≤ es.length * n := Nat.mul_le_mul_right _ hi
        rw [Nat.add_mul, Nat.one_mul] at hmul
        have hfold := array_foldl_zipIdx (a.eval x).cells cells (i * n) (by omega)
        obtain ⟨e, he⟩ : ∃ e, es[i]? = some e := ⟨es[i], List.getElem?_eq_getElem hi⟩
        have hne : noOwn e = true := noOwn_get hno he
        have hspl : cells.toList.take (i * n) ++ (a.eval x).cells.toList ++ cells.toList.drop (i * n + (a.eval x).cells.size) = cells.toList.take (i * n) ++ (a.eval x).cells.toList ++ cells.toList.drop (i * n + (a.eval x).cells.toList.length) := by simp
        have hbd : i * n + (a.eval x).cells.toList.length ≤ cells.toList.length := by simp; omega
        have hcr := CR_set (e' := s.ev y) (y := a.eval x) (ys := ((a.eval x).cells.zipIdx.foldl (fun cs (c, j) => cs.setIfInBounds (i * n + j) c) cells).toList) hc he hne hcv ⟨hxs, ones_of_flatV hfl hcv⟩
          (by rw [hfold, hspl, splice_length _ _ _ hbd]) (fun j hj => by
            rw [hfold, hspl, splice_get _ _ _ _ hbd]
            simp only [Array.length_toList, hxs]
            split
            · rfl
            · rw [if_neg (by omega)]) (fun j hj => by
            rw [hfold, hspl, splice_get _ _ _ _ hbd]
            simp only [Array.length_toList, hxs]
            rw [if_neg (by omega), if_pos (by omega), show i * n + j - i * n = j from by omega]; simp)
        have hsz' : ((a.eval x).cells.zipIdx.foldl (fun cs (c, j) => cs.setIfInBounds (i * n + j) c) cells).size = cells.size := by
          have := congrArg List.length hfold
          rw [hspl, splice_length _ _ _ hbd] at this
          simpa using this
        obtain ⟨arr, g1, g2, g3, g4⟩ := setPt_ok h n parts ys _ es' _ h2 hcr (by rw [hsz', hl, List.length_set]) (noOwns_set hno hnx) hs
        refine ⟨arr, ?_, g2, by rw [g3, List.length_set], by rw [g4, hsz']⟩
        simp only [List.map_cons, Instr.fill]
        have hc1 : ¬ ((a.eval x).cells.size ≠ n) := by omega
        have hc2 : ¬ (i * n + (a.eval x).cells.size > cells.size) := by omega
        simp only [hc2, decide_false, Bool.or_false, decide_eq_true_eq, hc1, if_false]
        exact g1
      · cases hs
    · cases hp
where
  noOwn_get {es : List V} {i : Nat} {e : V} (h : noOwns es = true) (he : es[i]? = some e) : noOwn e = true := by
    induction es generalizing i with
    | nil => simp at he
    | cons c cs ih =>
      simp only [noOwns, Bool.and_eq_true] at h
      cases i with
      | zero => simp at he; exact he ▸ h.1
      | succ i => exact ih h.2 (by simpa using he)
  noOwns_set {es : List V} {i : Nat} {e : V} (h : noOwns es = true) (he : noOwn e = true) : noOwns (es.set i e) = true := by
    induction es generalizing i with
    | nil => simp [noOwns]
    | cons c cs ih =>
      simp only [noOwns, Bool.and_eq_true] at h
      cases i with
      | zero => simp [noOwns, he, h.2]
      | succ i => simp [noOwns, h.1, ih h.2]

omit [GInv] in
theorem noOwns_replicate {z : V} (h : noOwn z = true) : ∀ n, noOwns (List.replicate n z) = true
  | 0 => rfl
  | n + 1 => by simp [List.replicate_succ, noOwns, h, noOwns_replicate h n]

omit [GInv] in
theorem ments_replicate {z : V} {d : Nat} (h : ment d z = false) : ∀ n, ments d (List.replicate n z) = false
  | 0 => rfl
  | n + 1 => by simp [List.replicate_succ, ments, h, ments_replicate h n]

omit [GInv] in
theorem ments_set {d : Nat} {e : V} (he : ment d e = false) : ∀ {es : List V} {i : Nat}, ments d es = false → ments d (es.set i e) = false
  | [], i, h => by simp [ments]
  | c :: cs, 0, h => by
    simp only [ments, Bool.or_eq_false_iff] at h
    simp [ments, he, h.2]
  | c :: cs, i + 1, h => by
    simp only [ments, Bool.or_eq_false_iff] at h
    simp [ments, h.1, ments_set he h.2]

omit [GInv] in
theorem ments_setPt {d : Nat} (hf : Fresh s d) {n : Nat} : ∀ {parts : List (Nat × Operand)} {ps : List (Nat × Abs.X)} {es es' : List V}, cPt parts = some ps → ments d es = false → setPt s.ev n es ps = some es' → ments d es' = false
  | [], ps, es, es', hp, hm, hs => by
    simp only [cPt, Option.some.injEq] at hp; subst hp
    simp only [setPt, Option.some.injEq] at hs; subst hs; exact hm
  | (i, x) :: parts, ps, es, es', hp, hm, hs => by
    unfold cPt at hp
    split at hp
    · rename_i y ys h1 h2
      simp only [Option.some.injEq] at hp; subst hp
      unfold setPt at hs
      split at hs
      · exact ments_setPt hf h2 (ments_set (cX_fresh h1 hf) hm) hs
      · cases hs
    · cases hp

omit [GInv] in
theorem CV_sl_new {d n : Nat} {b z s' : Nat} {φ : Nat → Option Pl} {cap : Nat} (hn : n ≤ cap) (hc : cap ≤ maxLen) (hz : cap * s' ≤ z) : CV w D (.sl d 0 n) (upd φ d (some ⟨b, 0, s', z⟩)) (.slice (some ⟨b, 0, none⟩) n cap) [] := by
  simp only [CV, upd_same]
  exact ⟨trivial, .inr ⟨_, 0, cap, rfl, rfl, hn, hc, .inr ⟨by simp, by simpa using hz⟩⟩⟩

theorem ok_bslice (h : RelD X s a w D φ F []) {t : TypeId} {n d : Nat} {parts : Array (Nat × Operand)} {i0 : TypeInfo} {z : V} {ps : List (Nat × Abs.X)}
    (hop : o.op = .buildSlice t n parts) (ht : sliceElem P t = some i0) (hz : zeroOf i0 = some z) (hps : cPt parts.toList = some ps) (hdst : o.dst = some d) (hd : d < X.n) (hf : Fresh s d) (hp : d ∉ X.pin)
    {p : Prop} {δ : Dl} (he : vbslice s.ev i0.size z n d ps = some (p, δ)) : Runs P o X a w (δ.app o.dst s) := by
  obtain ⟨e, hte, hie⟩ := sliceElem_eq ht
  obtain ⟨x0, hx0, hof⟩ := zeroOf_eq hz
  unfold vbslice at he
  split at he
  · rename_i hcond
    obtain ⟨hsz, hn0, hle, hno⟩ := hcond
    split at he
    · rename_i es hset
      simp only [Option.some.injEq, Prod.mk.injEq] at he
      obtain ⟨_, rfl⟩ := he
      have hz0 : CV w D z φ x0 [] := ofV_ok hof
      have hxs := sizeV_eq hsz hz0
      have hcr := CR_zero hz0 ⟨hxs, ones_ofV hof hsz⟩ n hn0
      obtain ⟨arr, g1, g2, g3, g4⟩ := setPt_ok h i0.size parts.toList ps _ es _ hps hcr (by simp) (noOwns_replicate hno n) hset
      simp only [List.length_replicate] at g3
      have hsize : arr.size = n * i0.size := by rw [g4]; simp
      refine runs_new h hdst hd hf hp (x := .slice (some ⟨w.heap.size, 0, none⟩) n n) (w' := w.alloc (.cells arr e)) ?_ rfl rfl rfl arr e rfl ⟨i0.size, es⟩ (ments_setPt hf hps (ments_replicate (ment_noIds _ _ (ofV_noIds hof)) n) hset) g2
        (CV_sl_new (Nat.le_refl _) ?_ (by show n * i0.size ≤ arr.size; omega))
      · have hnle : ¬ (16777216 < n * i0.size) := by omega
        by_cases hnz : n * i0.size = 0
        · have : n = 0 := by
            rcases Nat.mul_eq_zero.1 hnz with q | q
            · exact q
            · exact absurd q hn0
          subst this
          simp only [Nat.zero_mul, Array.range_zero', Array.map_empty] at g1
          simp [execOp, hop, Instr.buildSlice, run_underlying hte, sizeOf, typeInfo, hie, g1, newRow, Array.range_zero']
        · simp [execOp, hop, Instr.buildSlice, run_underlying hte, sizeOf, typeInfo, hie, hnle, hnz, zeroValue, hx0, newRow] at g1 ⊢
          simp [g1]
      · have : n ≤ n * i0.size := Nat.le_mul_of_pos_right _ (by omega)
        unfold maxLen; omega
    · cases he
  · cases he

theorem ok_mks (h : RelD X s a w D φ F []) {t : TypeId} {d : Nat} {yl yc : Operand} {xl xc : Abs.X} {i0 : TypeInfo} {z : V}
    (hop : o.op = .makeSlice t yl yc) (ht : sliceElem P t = some i0) (hz : zeroOf i0 = some z) (hl : cX yl = some xl) (hc : cX yc = some xc) (hdst : o.dst = some d) (hd : d < X.n) (hf : Fresh s d) (hpin : d ∉ X.pin)
    {p : Prop} {δ : Dl} (he : vmks i0.size i0.bytes z d (s.ev xl) (s.ev xc) = some (p, δ)) (hp : p) : Runs P o X a w (δ.app o.dst s) := by
  obtain ⟨e, hte, hie⟩ := sliceElem_eq ht
  obtain ⟨x0, hx0, hof⟩ := zeroOf_eq hz
  have hcl := cX_ok hl h
  have hcc := cX_ok hc h
  generalize s.ev xl = u at he hcl
  generalize s.ev xc = v at he hcc
  unfold vmks at he
  split at he
  · rename_i l c
    split at he
    · rename_i hcond
      obtain ⟨rfl, hsz, hby, hno, hn0⟩ := hcond
      simp only [Option.some.injEq, Prod.mk.injEq] at he
      obtain ⟨rfl, rfl⟩ := he
      have hxl := CV_v hcl
      have hxc := CV_v hcc
      obtain ⟨m, rfl⟩ := Int.eq_ofNat_of_zero_le hp.1
      have hm : m ≤ lenBound := by have := hp.2; omega
      have hz0 : CV w D z φ x0 [] := ofV_ok hof
      have hxs := sizeV_eq hsz hz0
      have hcr := CR_zero hz0 ⟨hxs, ones_ofV hof hsz⟩ m hn0
      have hb : i0.bytes * m ≤ 140737488355328 := Nat.le_trans (Nat.mul_le_mul hby hm) (by unfold lenBound; decide)
      simp only [Int.toNat_natCast, Int.ofNat_eq_natCast] at *
      refine runs_new h hdst hd hf hpin (x := .slice (some ⟨w.heap.size, 0, none⟩) m m) (w' := w.alloc (.cells ((Array.range (m * i0.size)).map fun i => x0.cells[i % x0.cells.size]!) e)) ?_ rfl rfl rfl _ e rfl ⟨i0.size, List.replicate m z⟩
        (ments_replicate (ment_noIds _ _ (ofV_noIds hof)) m) hcr (CV_sl_new (Nat.le_refl _) (by unfold maxLen; unfold lenBound at hm; omega) (by simp))
      have hw1 : IntKind.i64.wrap (m : Int) = m := by
        unfold lenBound at hm
        simp [IntKind.wrap, IntKind.bits, IntKind.signed]
        omega
      have hb1 : ¬ (281474976710656 < (i0.bytes : Int) * (m : Int)) := by
        rw [← Int.natCast_mul]; omega
      have hm0 : ¬ ((m : Int) < 0) := by omega
      by_cases hnz : m * i0.size = 0
      · have : m = 0 := by
          rcases Nat.mul_eq_zero.1 hnz with q | q
          · exact q
          · exact absurd q hn0
        subst this
        simp [execOp, hop, hxl, hxc, Instr.makeSlice, run_underlying hte, asInt, asIntOf, sizeOf, typeInfo, hie, newRow, IntKind.wrap, IntKind.bits, IntKind.signed, Array.range_zero']
      · simp [execOp, hop, hxl, hxc, Instr.makeSlice, run_underlying hte, asInt, asIntOf, sizeOf, typeInfo, hie, newRow, hw1, hb1, hm0, hnz, zeroValue, hx0]
    · cases he
  · cases he
end
end Go.Abs

set_option linter.unusedVariables false
set_option linter.unusedSimpArgs false
namespace Go.Abs
variable [GInv]
section
variable {P : Program} {X : Ctx} {s : St} {a : Act} {w : World} {D : Nat → Prop} {φ : Nat → Option Pl} {F : Nat → List Nat} {o : Oper}

omit [GInv] in
theorem CR_ones : ∀ {s : Nat} {es : List V} {φ : Nat → Option Pl} {xs : List Value} {f : List Nat}, CR w D s es φ xs f → ∀ x ∈ xs.take (es.length * s), one x = true
  | s, [], φ, xs, f, h, x, hx => by simp at hx
  | s, e :: es, φ, xs, f, h, x, hx => by
    simp only [CR] at h; obtain ⟨y, rest, f1, f2, rfl, ⟨hs, ho⟩, rfl, h1, h⟩ := h
    have : (e :: es).length * s = y.cells.toList.length + es.length * s := by simp [hs, Nat.add_mul]; omega
    rw [this, List.take_length_add_append] at hx
    rcases List.mem_append.1 hx with hx | hx
    · exact List.all_eq_true.1 ho x hx
    · exact CR_ones h x hx

/-- What append's source holds. -/
theorem src_ok (h : RelD X s a w D φ F []) {y : Operand} {x : Abs.X} (hx : cX y = some x) {sz : Nat} {ds : List V} (hs : srcOf sz s.hp (s.ev x) = some ds) :
    ∃ ad c news, a.eval y = .slice ad ds.length c ∧ news.length = ds.length * sz ∧ (ds.length ≠ 0 → ∃ b, ad = some b ∧ ∀ j u, news[j]? = some u → w.cell? (b.add j) = some u) ∧ (∀ u ∈ news, one u = true) ∧
      (noOwns ds = true → CR w D sz ds φ news []) := by
  have hcv := cX_ok hx h
  generalize s.ev x = v at hs hcv
  unfold srcOf at hs
  split at hs
  · rename_i id i n
    cases hb : s.hp id with
    | none => simp [hb] at hs
    | some blk =>
      simp only [hb] at hs
      split at hs
      · rename_i hcond
        obtain ⟨hbs, hno, hle⟩ := hcond
        simp only [Option.some.injEq] at hs; subst hs
        have hlen : ((blk.es.drop i).take n).length = n := by rw [List.length_take, List.length_drop]; omega
        simp only [CV] at hcv
        obtain ⟨_, ⟨_, _, rfl, hxv⟩ | ⟨p0, o', cap, hp0, hxv, hnc, hcm, hcap⟩⟩ := hcv
        · exact ⟨none, 0, [], by rw [hlen]; exact hxv, by simp, by simp, by simp, fun _ => by simp [CR]⟩
        · rw [hlen]
          by_cases hn : n = 0
          · subst hn; exact ⟨_, cap, [], hxv, by simp, by simp, by simp, fun _ => by simp [CR]⟩
          · rcases h.blks id blk hb with ⟨q, _, _⟩ | ⟨p1, arr, ty, f', q1, q2, q3, q4, q5, q6⟩
            · rw [hp0] at q; cases q
            · rw [hp0] at q1; cases q1
              have : f' = [] := CR_noOwn _ _ _ _ hno q6
              subst this
              obtain ⟨ho, _⟩ := hcap.resolve_left (by omega)
              have hcr := CR_take n (CR_drop i q6)
              rw [List.drop_drop, hbs] at hcr
              have hl := CR_length q6
              simp only [List.length_drop, Array.length_toList, hbs] at hl
              have hmul : (i + n) * sz ≤ blk.es.length * sz := Nat.mul_le_mul_right _ hle
              rw [Nat.add_mul] at hmul
              refine ⟨_, cap, (arr.toList.drop (p0.o + i * sz)).take (n * sz), hxv, ?_, fun _ => ⟨_, rfl, fun j u hu => ?_⟩, ?_, fun _ => CR_ext hcr fun j hj => ?_⟩
              · rw [List.length_take, List.length_drop, Array.length_toList]; 
                by_cases hz : n * sz = 0
                · omega
                · have : 0 < blk.es.length * sz := by omega
                  omega
              · rw [List.getElem?_take] at hu
                split at hu
                · rw [List.getElem?_drop, Array.getElem?_toList] at hu
                  rw [Addr.add_lit, cell?_of_blk q4.blk, ho, q2, hbs]
                  exact hu
                · cases hu
              · have := CR_ones hcr
                rw [hlen] at this
                exact this
              · rw [hlen] at hj
                rw [List.getElem?_take, if_pos hj]
      · cases hs
  · rename_i s' es
    split at hs
    · rename_i hss; subst hss
      simp only [Option.some.injEq] at hs; subst hs
      simp only [CV] at hcv
      obtain ⟨_, ⟨rfl, a', cap, hxv, _⟩ | ⟨b, o', cap, arr, hxv, hnc, hcm, hD, hbk, hcr, hni⟩⟩ := hcv
      · exact ⟨a', cap, [], hxv, by simp, by simp, by simp, fun _ => by simp [CR]⟩
      · have hl := CR_length hcr
        rw [List.length_drop] at hl
        refine ⟨_, cap, (arr.toList.drop o').take (es.length * s'), hxv, ?_, fun _ => ⟨_, rfl, fun j u hu => ?_⟩, CR_ones hcr, fun _ => ?_⟩
        · rw [List.length_take, List.length_drop]; omega
        · rw [List.getElem?_take] at hu
          split at hu
          · rw [List.getElem?_drop, Array.getElem?_toList] at hu
            rw [Addr.add_lit, cell?_of_blk hbk]
            exact hu
          · cases hu
        · refine CR_ext (CR_mono (fun _ hb => hb) _ _ _ _ _ _ (fun _ _ => rfl) (fun id hm => ?_) hcr) fun j hj => ?_
          · rw [ments_noIds id es hni] at hm; cases hm
          · rw [List.getElem?_take, if_pos hj]
    · cases hs
  · simp only [Option.some.injEq] at hs; subst hs
    have hxv := CV_v hcv
    exact ⟨_, _, [], hxv, by simp, by simp, by simp, fun _ => by simp [CR]⟩
  · cases hs

omit [GInv] in
theorem run_app {t : TypeId} {yx yy : Operand} {c : Call} (hop : o.op = .call c) (hcal : c.callee = .builtin .append) (harg : c.args.toList = [yx, yy]) (hty : c.argTypes.toList = [t, t]) {r : Value} {w' : World}
    (hr : (Builtin.append_ #[t, t] o.type #[a.eval yx, a.eval yy]).run P w = .ok r w') : (execOp a.eval o).run P w = .ok (.value r) w' := by
  obtain ⟨cal, args, tys⟩ := c
  simp only at hcal harg hty
  obtain rfl : args = #[yx, yy] := by rw [← Array.toArray_toList (xs := args), harg]
  obtain rfl : tys = #[t, t] := by rw [← Array.toArray_toList (xs := tys), hty]
  subst hcal
  simp [execOp, hop, resolve, invoke, builtin, hr]

omit [GInv] in
/-- Nothing is appended. -/
theorem run_append_zero {t e ty : TypeId} {i : TypeInfo} (ht : P.underlying t = some (.slice e)) (hi : P.info? e = some i) (base : Option Addr) (n cap : Nat) (hn : n ≤ cap) (y : Option Addr) (c : Nat) :
    (Builtin.append_ #[t, t] ty #[.slice base n cap, .slice y 0 c]).run P w = .ok (.slice base n cap) w := by
  have hf : (Builtin.firstCells i.size 0 (.slice y 0 c)).run P w = .ok #[] w := by
    cases y <;> simp [Builtin.firstCells, loadCells, loadCellsFrom]
  cases base <;> simp [Builtin.append_, run_underlying ht, sizeOf, typeInfo, hi, Builtin.lenOf, hn, hf, storeCells]

omit [GInv] in
/-- There is room. -/
theorem run_append_room' {t e ty ety : TypeId} {i : TypeInfo} (ht : P.underlying t = some (.slice e)) (hi : P.info? e = some i) {b f n cap m c : Nat} {arr : Array Value} {fr : Nat × Nat} (hok : frOk arr fr) (hw : w.heap[b]? = some (.cells arr ety fr)) {ad : Addr} (news : List Value)
    (hl : news.length = m * i.size) (hnews : ∀ j u, news[j]? = some u → w.cell? (ad.add j) = some u) (h1 : ∀ u ∈ news, one u = true) (hroom : n + m ≤ cap) (hfit : f + n * i.size + news.length ≤ arr.size) :
    ∃ arr' : Array Value, arr'.toList = arr.toList.take (f + n * i.size) ++ news ++ arr.toList.drop (f + n * i.size + news.length) ∧
      (Builtin.append_ #[t, t] ty #[.slice (some ⟨b, f, none⟩) n cap, .slice (some ad) m c]).run P w = .ok (.slice (some ⟨b, f, none⟩) (n + m) cap) { w with heap := w.heap.setIfInBounds b (.cells arr' ety fr) } := by
  obtain ⟨arr', g1, g2⟩ := run_store_at (P := P) hok hw news h1 hfit
  refine ⟨arr', g1, ?_⟩
  have hf := run_firstCells_some (P := P) w i.size m ad m c news hl hnews
  simp [Builtin.append_, run_underlying ht, sizeOf, typeInfo, hi, Builtin.lenOf, hroom, hf, Addr.add_lit, g2]

omit [GInv] in
theorem ments_of_take {d : Nat} {es : List V} (h : ments d es = false) (i n : Nat) : ments d ((es.drop i).take n) = false := by
  have hall : ∀ {es : List V}, ments d es = false ↔ ∀ e ∈ es, ment d e = false := by
    intro es
    induction es with
    | nil => simp [ments]
    | cons c cs ih => simp [ments, ih]
  rw [hall] at h ⊢
  exact fun e he => h e (List.mem_of_mem_drop (List.mem_of_mem_take he))

omit [GInv] in
theorem ments_append {d : Nat} : ∀ {es ds : List V}, ments d es = false → ments d ds = false → ments d (es ++ ds) = false
  | [], ds, _, h => h
  | c :: cs, ds, h, h' => by
    simp only [ments, Bool.or_eq_false_iff, List.cons_append] at h ⊢
    exact ⟨h.1, ments_append h.2 h'⟩

omit [GInv] in
theorem src_fresh {y : Operand} {x : Abs.X} (hx : cX y = some x) {d : Nat} (hf : Fresh s d) {sz : Nat} {ds : List V} (hs : srcOf sz s.hp (s.ev x) = some ds) (hn : ∀ sz es, s.ev x = .ro sz es → ments d es = false) : ments d ds = false := by
  generalize s.ev x = v at hs hn
  unfold srcOf at hs
  split at hs
  · rename_i id i n
    cases hb : s.hp id with
    | none => simp [hb] at hs
    | some blk =>
      simp only [hb] at hs
      split at hs
      · simp only [Option.some.injEq] at hs; subst hs
        exact ments_of_take (hf.hp id blk hb) i n
      · cases hs
  · split at hs
    · simp only [Option.some.injEq] at hs; subst hs; exact hn _ _ rfl
    · cases hs
  · simp only [Option.some.injEq] at hs; subst hs; rfl
  · cases hs

/-- Behind append: a nil slice stays nil. -/
theorem app_nil (h : RelD X s a w D φ F []) {d : Nat} (hdst : o.dst = some d) (hd : d < X.n) (hf : Fresh s d) (hp : d ∉ X.pin) (sz : Nat) (hr : (execOp a.eval o).run P w = .ok (.value (.slice none 0 0)) w) :
    Rel X (({ v := .sl d 0 0, new := some ⟨sz, []⟩ } : Dl).app (some d) s) (a.put (some d) (.slice none 0 0)) w := by
  have h1 := RelD.settle (f := []) (G := []) h d hf hp none ⟨sz, []⟩ (.inl ⟨by simp, rfl, rfl⟩)
  exact ⟨D, _, _, h1.put d hd (.sl d 0 0) (.slice none 0 0) (by simp [CV])⟩

omit [GInv] in
theorem maxLen_lenBound {n : Nat} (h : n ≤ lenBound) : n ≤ maxLen := by unfold lenBound at h; unfold maxLen; omega

/-- Behind append: new memory. -/
theorem app_new (h : RelD X s a w D φ F []) {d : Nat} (hdst : o.dst = some d) (hd : d < X.n) (hf : Fresh s d) (hp : d ∉ X.pin) {sz n cap : Nat} {es : List V} {arr : Array Value} {e : TypeId} {w' : World}
    (hr : (execOp a.eval o).run P w = .ok (.value (.slice (some ⟨w.heap.size, 0, none⟩) n cap)) w') (hh : w'.heap = w.heap.push (.cells arr e (0, 0))) (hos : w'.os = w.os) (htape : w'.tape = w.tape) (hout : w'.output = w.output)
    (hm : ments d es = false) (hc : CR w D sz es φ arr.toList []) (hn : n ≤ cap) (hcm : cap ≤ maxLen) (hz : cap * sz ≤ arr.size) (del : Option Nat) :
    Runs P o X a w (({ v := .sl d 0 n, new := some ⟨sz, es⟩, del := del } : Dl).app o.dst s) := by
  cases del with
  | none => exact runs_new h hdst hd hf hp hr hos htape hout arr e hh ⟨sz, es⟩ hm hc (CV_sl_new hn hcm hz)
  | some id =>
    have h0 := (h.release id).gsub (G' := []) (List.nil_sublist _)
    have hf' : Fresh { s with hp := upd s.hp id none } d := ⟨hf.sl, fun i b hb => by
      by_cases e : i = id
      · subst e; simp at hb
      · simp only [upd, e, if_false] at hb; exact hf.hp i b hb, by
      by_cases e : d = id
      · subst e; simp
      · simp only [upd, e, if_false]; exact hf.no⟩
    have h1 := runs_new (o := o) (P := P) h0 hdst hd hf' hp hr hos htape hout arr e hh ⟨sz, es⟩ hm hc (CV_sl_new hn hcm hz)
    exact h1

/-- Behind append: new memory, into which the elements of the old block go with all that they lead to. -/
theorem app_grow (h : RelD X s a w D φ F []) {d : Nat} (hdst : o.dst = some d) (hd : d < X.n) (hf : Fresh s d) (hp : d ∉ X.pin) {sz n cap : Nat} {es : List V} {arr : Array Value} {e : TypeId} {w' : World}
    (hr : (execOp a.eval o).run P w = .ok (.value (.slice (some ⟨w.heap.size, 0, none⟩) n cap)) w') (hh : w'.heap = w.heap.push (.cells arr e (0, 0))) (hos : w'.os = w.os) (htape : w'.tape = w.tape) (hout : w'.output = w.output)
    (hm : ments d es = false) (id : Nat) {f0 : List Nat} (hsub : f0.Sublist (F id)) (hc : CR w D sz es φ arr.toList f0) (hn : n ≤ cap) (hcm : cap ≤ maxLen) (hz : cap * sz ≤ arr.size) :
    Runs P o X a w (({ v := .sl d 0 n, new := some ⟨sz, es⟩, del := some id } : Dl).app o.dst s) := by
  have h0 := (h.release id).gsub (G' := f0 ++ []) (hsub.append (List.Sublist.refl []))
  have hf' : Fresh { s with hp := upd s.hp id none } d := ⟨hf.sl, fun i b hb => by
    by_cases e : i = id
    · subst e; simp at hb
    · simp only [upd, e, if_false] at hb; exact hf.hp i b hb, by
    by_cases e : d = id
    · subst e; simp
    · simp only [upd, e, if_false]; exact hf.no⟩
  have h1 := (RelD.newF h0 d hf' hp w' hos htape hout arr e hh ⟨sz, es⟩ hm hc).put d hd _ _ (CV_sl_new hn hcm hz)
  have h2 : Rel X (({ v := .sl d 0 n, new := some ⟨sz, es⟩, del := some id } : Dl).app (some d) s) (a.put (some d) (.slice (some ⟨w.heap.size, 0, none⟩) n cap)) w' := ⟨D, _, _, h1⟩
  rw [← hdst] at h2
  exact ⟨_, _, w', hr, .inl rfl, h2⟩

theorem ok_app (h : RelD X s a w D φ F []) {t : TypeId} {d : Nat} {yx yy : Operand} {xx xy : Abs.X} {i0 : TypeInfo} {c : Call} (hop : o.op = .call c) (hcal : c.callee = .builtin .append) (harg : c.args.toList = [yx, yy]) (hty : c.argTypes.toList = [t, t])
    (ht : sliceElem P t = some i0) (hsz : i0.size ≠ 0) (hzs : (i0.zero.map (·.cells.size)) = some i0.size) (hx : cX yx = some xx) (hy : cX yy = some xy) (hdst : o.dst = some d) (hd : d < X.n) (hf : Fresh s d) (hpin : d ∉ X.pin)
    (hro : ∀ sz es, s.ev xy = .ro sz es → ments d es = false)
    {p : Prop} {δ : Dl} (he : vapp i0.size i0.bytes s.hp d (s.ev xy) (s.ev xx) = some (p, δ)) (hp : p) : Runs P o X a w (δ.app o.dst s) := by
  obtain ⟨e, hte, hie⟩ := sliceElem_eq ht
  obtain ⟨z, hz, hzsz⟩ : ∃ z, i0.zero = some z ∧ z.cells.size = i0.size := by
    cases hz : i0.zero with
    | none => simp [hz] at hzs
    | some z => exact ⟨z, rfl, by simpa [hz] using hzs⟩
  have hcv := cX_ok hx h
  generalize s.ev xx = u at he hcv
  -- a nil slice is grown
  have key0 : ∀ ds, a.eval yx = .slice none 0 0 → srcOf i0.size s.hp (s.ev xy) = some ds → noOwns ds = true → i0.bytes ≤ 32768 → ds.length ≤ lenBound → ∀ del, (∀ id, del = some id → s.hp d = none) →
      Runs P o X a w (({ v := .sl d 0 ds.length, new := some ⟨i0.size, ds⟩, del := del } : Dl).app o.dst s) := by
    intro ds hxv hds hno hby hln del hdel
    obtain ⟨ad, c', news, s1, s2, s3, s4, s5⟩ := src_ok h hy hds
    have hmd : ments d ds = false := src_fresh hy hf hds hro
    by_cases h0 : ds.length = 0
    · obtain rfl : ds = [] := List.eq_nil_of_length_eq_zero h0
      have hr := run_append_zero (P := P) (w := w) (ty := o.type) hte hie none 0 0 (Nat.le_refl _) ad c'
      simp only [List.length_nil] at s1
      rw [← hxv, ← s1] at hr
      have hrun := run_app hop hcal harg hty hr
      rw [hxv] at hrun
      refine ⟨_, _, w, hrun, .inl rfl, ?_⟩
      rw [hdst]
      cases del with
      | none => exact app_nil h hdst hd hf hpin i0.size hrun
      | some id =>
        have hh0 := (h.release id).gsub (G' := []) (List.nil_sublist _)
        have hf' : Fresh { s with hp := upd s.hp id none } d := ⟨hf.sl, fun i b hb => by
          by_cases e : i = id
          · subst e; simp at hb
          · simp only [upd, e, if_false] at hb; exact hf.hp i b hb, by
          by_cases e : d = id
          · subst e; simp
          · simp only [upd, e, if_false]; exact hf.no⟩
        exact app_nil hh0 hdst hd hf' hpin i0.size hrun
    · obtain ⟨b, rfl, hnews⟩ := s3 h0
      have hb48 : ds.length * i0.bytes ≤ 281474976710656 := by
        have : ds.length * i0.bytes ≤ 4294967296 * 32768 := Nat.mul_le_mul hln hby
        omega
      have h63 : ((ds.length : Int)) ≤ 9223372036854775807 := by unfold lenBound at hln; omega
      have hr := run_append_nil (P := P) w t o.type e i0 z hte hie hz b ds.length c' news s2 hnews (by omega) h63 hb48
      rw [← hxv, ← s1] at hr
      have hrun := run_app hop hcal harg hty hr
      have hge := grownCap_ge w ds.length 0 e
      have hcm := grownCap_le_maxLen w ds.length 0 e (maxLen_lenBound hln)
      refine app_new h hdst hd hf hpin hrun rfl rfl rfl rfl hmd (CR_ext (s5 hno) fun j hj => ?_) hge hcm ?_ del
      · simp only [Array.toList_append, List.toList_toArray]
        rw [List.getElem?_append_left (by omega)]
      · simp only [Array.size_append, List.size_toArray, size_zeroCells, hzsz, s2]
        rw [← Nat.add_mul]
        exact Nat.mul_le_mul_right _ (by omega)
  unfold vapp at he
  split at he
  · cases hds : srcOf i0.size s.hp (s.ev xy) with
    | none => simp [hds] at he
    | some ds =>
      simp only [hds] at he
      split at he
      · rename_i hcond
        simp only [Option.some.injEq, Prod.mk.injEq] at he
        obtain ⟨rfl, rfl⟩ := he
        exact key0 ds (CV_v hcv) hds hcond.1 hcond.2 hp none (by simp)
      · cases he
  · rename_i id i n
    cases hb : s.hp id with
    | none => simp [hb] at he
    | some blk =>
      cases hds : srcOf i0.size s.hp (s.ev xy) with
      | none => simp [hb, hds] at he
      | some ds =>
        simp only [hb, hds] at he
        split at he
        · rename_i hcond
          obtain ⟨hbs, hno, rfl, hby⟩ := hcond
          simp only [Option.some.injEq, Prod.mk.injEq] at he
          obtain ⟨rfl, rfl⟩ := he
          obtain ⟨hnl, hnob, hln⟩ := hp
          simp only [CV] at hcv
          obtain ⟨_, ⟨_, _, rfl, hxv⟩ | ⟨p0, o', cap, hp0, hxv, hnc, hcm, hcap⟩⟩ := hcv
          · have := key0 ds hxv hds hno hby (by omega) (some id) (fun _ _ => hf.no)
            simpa using this
          · obtain ⟨ad, c', news, s1, s2, s3, s4, s5⟩ := src_ok h hy hds
            have hmd : ments d ds = false := src_fresh hy hf hds hro
            have hme : ments d (blk.es.take n ++ ds) = false := ments_append (by simpa using ments_of_take (hf.hp id blk hb) 0 n) hmd
            rcases h.blks id blk hb with ⟨q, _, _⟩ | ⟨p1, arr, ty, f', q1, q2, q3, q4, q5, q6⟩
            · rw [hp0] at q; cases q
            · rw [hp0] at q1; cases q1
              have hl := CR_length q6
              rw [List.length_drop, Array.length_toList, hbs] at hl
              have hcr : CR w D i0.size (blk.es.take n) φ (arr.toList.drop p0.o) f' := by
                rw [← hbs]
                rcases hnob with hnob | hnob
                · have : f' = [] := CR_noOwn _ _ _ _ hnob q6
                  subst this
                  exact CR_take n q6
                · rw [hnob, List.take_length]; exact q6
              by_cases hroom : n + ds.length ≤ cap
              · -- the block goes on, under its new id
                have h0 := h.release id
                rw [q5] at h0
                have hf' : Fresh { s with hp := upd s.hp id none } d := ⟨hf.sl, fun i b hb' => by
                  by_cases e : i = id
                  · subst e; simp at hb'
                  · simp only [upd, e, if_false] at hb'; exact hf.hp i b hb', by
                  by_cases e : d = id
                  · subst e; simp
                  · simp only [upd, e, if_false]; exact hf.no⟩
                by_cases hm0 : ds.length = 0
                · obtain rfl : ds = [] := List.eq_nil_of_length_eq_zero hm0
                  have hr := run_append_zero (P := P) (w := w) (ty := o.type) hte hie (some ⟨p0.b, o', none⟩) n cap hnc ad c'
                  simp only [List.length_nil] at s1
                  rw [← hxv, ← s1] at hr
                  have hrun := run_app hop hcal harg hty hr
                  rw [hxv] at hrun
                  have h1 := RelD.settle (f := p0.b :: f') (G := []) h0 d hf' hpin (some p0) ⟨i0.size, blk.es.take n⟩ (.inr ⟨p0, arr, ty, f', by simp, by rw [q2, hbs], q3, q4, rfl,
                    CR_mono (fun _ hb => hb) _ _ _ _ _ _ (fun _ _ => rfl) (fun i hi => upd_ne _ _ (ne_of_ments (d := d) (by simpa using ments_of_take (hf.hp id blk hb) 0 n) hi)) hcr⟩)
                  have h2 := h1.put d hd (.sl d 0 n) (.slice (some ⟨p0.b, o', none⟩) n cap) (by
                    simp only [CV, upd_same]
                    exact ⟨trivial, .inr ⟨p0, o', cap, rfl, rfl, hnc, hcm, by simpa using hcap⟩⟩)
                  have h6 : Rel X (({ v := .sl d 0 (n + ([] : List V).length), new := some ⟨i0.size, blk.es.take n ++ []⟩, del := some id } : Dl).app (some d) s) (a.put (some d) (.slice (some ⟨p0.b, o', none⟩) n cap)) w :=
                    ⟨D, _, _, by simpa [Dl.app, Dl.hp, hpN, hpD, hpW] using h2⟩
                  exact ⟨_, _, w, hrun, .inl rfl, by rw [hdst]; exact h6⟩
                · obtain ⟨b, rfl, hnews⟩ := s3 hm0
                  obtain ⟨ho, hzz⟩ := hcap.resolve_left (by omega)
                  simp only [Nat.zero_mul, Nat.add_zero, Nat.zero_add, q2, hbs, q3] at ho hzz
                  have hmul : (n + ds.length) * i0.size ≤ cap * i0.size := Nat.mul_le_mul_right _ hroom
                  rw [Nat.add_mul] at hmul
                  obtain ⟨fr, hok, q4⟩ := q4
                  obtain ⟨arr', g1, g2⟩ := run_append_room' (P := P) (ty := o.type) (f := o') (cap := cap) (c := c') hte hie hok q4 news s2 hnews s4 hroom (by rw [ho, s2]; omega)
                  rw [← hxv, ← s1] at g2
                  have hrun := run_app hop hcal harg hty g2
                  have hfit : o' + n * i0.size + news.length ≤ arr.toList.length := by rw [s2, ho, Array.length_toList (xs := arr)]; omega
                  have hl' : arr'.size = arr.size := by
                    have := congrArg List.length g1
                    rw [splice_length _ _ _ hfit] at this
                    simpa using this
                  -- the block is written first, then it gets its new id
                  have hw0 := h.write id blk hb p0 hp0 arr arr' ty hok q4 hl' { w with heap := w.heap.setIfInBounds p0.b (.cells arr' ty fr) } rfl rfl rfl rfl (blk.es.take n ++ ds) (fun f1 hf1 _ => by
                    rw [q5] at hf1; cases hf1
                    rw [hbs]
                    rw [← List.append_nil f']
                    refine CR_append (f := f') (g := []) (CR_ext hcr fun j hj => ?_) (CR_ext (s5 hno) fun j hj => ?_)
                    · rw [List.length_take, Nat.min_eq_left hnl] at hj
                      rw [List.getElem?_drop, List.getElem?_drop, g1, splice_get _ _ _ _ hfit, if_pos (by omega)]
                    · rw [List.length_take, Nat.min_eq_left hnl, List.drop_drop, List.getElem?_drop, g1, splice_get _ _ _ _ hfit, if_neg (by omega), if_pos (by omega)]
                      congr 1; omega)
                  have h3 := hw0.release id
                  rw [q5] at h3
                  have hnew : (w.heap.setIfInBounds p0.b (.cells arr' ty fr))[p0.b]? = some (.cells arr' ty fr) := by
                    rw [Array.getElem?_setIfInBounds]; simp [(Array.getElem?_eq_some_iff.1 q4).1]
                  have hblk := hw0.blks id ⟨blk.s, blk.es.take n ++ ds⟩ (by simp)
                  have hf3 : Fresh { sl := s.sl, hp := upd (upd s.hp id (some ⟨blk.s, blk.es.take n ++ ds⟩)) id none } d := ⟨hf.sl, fun i b hb' => by
                    by_cases e : i = id
                    · subst e; simp at hb'
                    · simp only [upd, e, if_false] at hb'; exact hf.hp i b hb', by
                    by_cases e : d = id
                    · subst e; simp
                    · simp only [upd, e, if_false]; exact hf.no⟩
                  have h4 := RelD.settle (f := p0.b :: f') (G := []) h3 d hf3 hpin (some p0) ⟨i0.size, blk.es.take n ++ ds⟩ (by
                    rcases hblk with ⟨k, _, _⟩ | ⟨p2, arr2, ty2, f2, k1, k2, k3, k4, k5, k6⟩
                    · rw [hp0] at k; cases k
                    · rw [hp0] at k1; cases k1
                      rw [q5] at k5; cases k5
                      obtain ⟨fr2, hok2, k4⟩ := k4
                      rw [hnew] at k4; cases k4
                      refine .inr ⟨p0, arr', ty, f', by simp, by rw [q2, hbs], k3, ⟨fr, hok2, hnew⟩, rfl, ?_⟩
                      rw [hbs] at k6
                      exact CR_mono (fun _ hb => hb) _ _ _ _ _ _ (fun _ _ => rfl) (fun i hi => upd_ne _ _ (ne_of_ments hme hi)) k6)
                  have h5 := h4.put d hd (.sl d 0 (n + ds.length)) (.slice (some ⟨p0.b, o', none⟩) (n + ds.length) cap) (by
                    simp only [CV, upd_same]
                    refine ⟨trivial, .inr ⟨p0, o', cap, rfl, rfl, hroom, hcm, .inr ⟨by omega, ?_⟩⟩⟩
                    rw [Nat.zero_add, q2, hbs, q3]; exact hzz)
                  have e : upd (upd s.hp id (some ⟨blk.s, blk.es.take n ++ ds⟩)) id none = upd s.hp id none := by
                    funext i; unfold upd; split <;> rfl
                  simp only [e] at h5
                  have h6 : Rel X (({ v := .sl d 0 (n + ds.length), new := some ⟨i0.size, blk.es.take n ++ ds⟩, del := some id } : Dl).app (some d) s) (a.put (some d) (.slice (some ⟨p0.b, o', none⟩) (n + ds.length) cap)) { w with heap := w.heap.setIfInBounds p0.b (.cells arr' ty fr) } :=
                    ⟨D, _, _, h5⟩
                  exact ⟨_, _, _, hrun, .inl rfl, by rw [hdst]; exact h6⟩
              · -- new memory
                have hm0 : ds.length ≠ 0 := by omega
                obtain ⟨b, rfl, hnews⟩ := s3 hm0
                have hb47 : (n + ds.length) * i0.bytes ≤ 140737488355328 := by
                  have : (n + ds.length) * i0.bytes ≤ 4294967296 * 32768 := Nat.mul_le_mul hln hby
                  omega
                have h63 : ((n + ds.length : Nat) : Int) ≤ 9223372036854775807 := by unfold lenBound at hln; omega
                have holds : ∀ j v, (((arr.toList.drop p0.o).take (n * i0.size)))[j]? = some v → w.cell? ((⟨p0.b, o', none⟩ : Addr).add j) = some v := by
                  intro j v hv
                  rw [List.getElem?_take] at hv
                  split at hv
                  · rename_i hj
                    obtain ⟨ho, _⟩ := hcap.resolve_left (fun hc => by
                      obtain rfl : n = 0 := by omega
                      simp at hj)
                    rw [List.getElem?_drop, Array.getElem?_toList] at hv
                    rw [Addr.add_lit, cell?_of_blk q4.blk, ho]
                    simpa using hv
                  · cases hv
                have hlo : ((arr.toList.drop p0.o).take (n * i0.size)).length = n * i0.size := by
                  have hmul : n * i0.size ≤ blk.es.length * i0.size := Nat.mul_le_mul_right _ hnl
                  rw [List.length_take, List.length_drop, Array.length_toList]; omega
                have hr := run_append_grow (P := P) w t o.type e i0 z hte hie hz ⟨p0.b, o', none⟩ n cap _ hlo holds b ds.length c' news s2 hnews (by omega) h63 (growslice_fits (by omega) hb47)
                rw [← hxv, ← s1] at hr
                have hrun := run_app hop hcal harg hty hr
                have hge := grownCap_ge w (n + ds.length) cap e
                have hcm' := grownCap_le_maxLen w (n + ds.length) cap e (maxLen_lenBound hln)
                refine app_grow h hdst hd hf hpin hrun rfl rfl rfl rfl hme id (f0 := f' ++ []) (by rw [q5, List.append_nil]; exact List.sublist_cons_self _ _) (CR_append (f := f') (g := []) (CR_ext hcr fun j hj => ?_) (CR_ext (s5 hno) fun j hj => ?_)) hge hcm' ?_
                · rw [List.length_take, Nat.min_eq_left hnl] at hj
                  simp only [Array.toList_append, List.toList_toArray, List.append_assoc]
                  rw [List.getElem?_append_left (by rw [hlo]; exact hj), List.getElem?_take, if_pos hj]
                · rw [List.length_take, Nat.min_eq_left hnl, List.getElem?_drop]
                  simp only [Array.toList_append, List.toList_toArray, List.append_assoc]
                  rw [List.getElem?_append_right (by rw [hlo]; omega), List.getElem?_append_left (by rw [hlo, s2]; omega)]
                  congr 1; rw [hlo]; omega
                · simp only [Array.size_append, List.size_toArray, size_zeroCells, hzsz, s2, hlo]
                  rw [← Nat.add_mul, ← Nat.add_mul]
                  exact Nat.mul_le_mul_right _ (by omega)
        · cases he
  · cases he
omit [GInv] in
theorem bytesOf_noOwns : ∀ (ds : List V) (l : List UInt8), bytesOf ds = some l → noOwns ds = true
  | [], _, _ => by simp [noOwns]
  | .v (.int .u8 n) :: ds, l, h => by
    simp only [bytesOf, Option.map_eq_some_iff] at h
    obtain ⟨r, h1, _⟩ := h
    simp [noOwns, noOwn, bytesOf_noOwns ds r h1]
omit [GInv] in
theorem bytes_CR : ∀ (ds : List V) (l : List UInt8) (news : List Value), bytesOf ds = some l → CR w D 1 ds φ news [] → news.length = ds.length →
    ∃ ns : List Int, news = ns.map (Value.int .u8) ∧ l = ns.map fun n => UInt8.ofNat n.toNat
  | [], l, news, h, _, hn => by
    simp only [bytesOf, Option.some.injEq] at h
    subst h
    exact ⟨[], by simpa using List.eq_nil_of_length_eq_zero hn, rfl⟩
  | .v (.int .u8 n) :: ds, l, news, h, hc, hn => by
    simp only [bytesOf, Option.map_eq_some_iff] at h
    obtain ⟨r, h1, rfl⟩ := h
    simp only [CR] at hc
    obtain ⟨x, rest, f1, f2, rfl, ⟨hs, _⟩, hf, h2, h3⟩ := hc
    have hx := CV_v h2
    subst hx
    obtain ⟨rfl, rfl⟩ := List.append_eq_nil_iff.1 hf.symm
    have hcl : (Value.int .u8 n).cells.toList = [Value.int .u8 n] := rfl
    rw [hcl] at hn ⊢
    simp only [List.length_append, List.length_cons, List.length_nil] at hn
    obtain ⟨ns, rfl, rfl⟩ := bytes_CR ds r rest h1 h3 (by omega)
    exact ⟨n :: ns, by simp, by simp⟩
omit [GInv] in
theorem foldl_bytes (ns : List Int) : ns.foldl (fun r n => r.push (UInt8.ofNat n.toNat)) ByteArray.empty = bs (ns.map fun n => UInt8.ofNat n.toNat) := by
  have : ∀ (ns : List Int) (a : List UInt8), ns.foldl (fun r n => r.push (UInt8.ofNat n.toNat)) (bs a) = bs (a ++ ns.map fun n => UInt8.ofNat n.toNat) := by
    intro ns
    induction ns with
    | nil => intro a; simp
    | cons n ns ih =>
      intro a
      have e : (bs a).push (UInt8.ofNat n.toNat) = bs (a ++ [UInt8.ofNat n.toNat]) := by simp [bs, ByteArray.push]
      simp only [List.foldl_cons, e, ih]
      simp
  exact this ns []

omit [GInv] in
theorem CR_bytes {rest : List Value} : ∀ l : List UInt8, CR w D 1 (l.map fun x => .v (.int .u8 x.toNat)) φ ((l.map fun x => Value.int .u8 x.toNat) ++ rest) []
  | [] => by simp [CR]
  | x :: l => by
    simp only [List.map_cons, CR]
    exact ⟨.int .u8 x.toNat, (l.map fun x => Value.int .u8 x.toNat) ++ rest, [], [], rfl, ⟨rfl, rfl⟩, rfl, ⟨rfl, rfl, rfl⟩, CR_bytes l⟩
omit [GInv] in
theorem bytesWorld_push (w : World) (e : TypeId) (b : ByteArray) : (Lib.bytesWorld w e b).heap = w.heap.push (.cells (Lib.bytesCells w e b) e ((Lib.bytesCells w e b).size, (Lib.bytesCells w e b).size + 1)) := by
  apply Array.ext_getElem?
  intro i
  rw [Array.getElem?_push]
  split
  · rename_i hi
    rw [hi]; exact Lib.bytesWorld_at_new w e b
  · rename_i hi
    by_cases h : i < w.heap.size
    · exact Lib.bytesWorld_at_old w e b i h
    · rw [Array.getElem?_eq_none (by rw [Lib.bytesWorld_size]; omega), Array.getElem?_eq_none (by omega)]
omit [GInv] in
theorem ments_strV (d : Nat) (b : ByteArray) : ments d (strV b) = false := by
  unfold strV
  generalize b.data.toList = l
  induction l with
  | nil => rfl
  | cons x l ih => simp only [List.map_cons, ments, ment, ih, Bool.or_false]

theorem ok_conv (h : RelD X s a w D φ F []) (hd : ∀ d, o.dst = some d → d < X.n) (hns : ∃ d, o.dst = some d) {src dst : TypeId} {y : Operand} {x : Abs.X} {c : CK} (hop : o.op = .convert src dst y) (hx : cX y = some x) (hc : cck P src dst = some c)
    {p : Prop} {δ : Dl} (he : vconv c s.hp (o.dst.getD 0) (s.ev x) = some (p, δ)) (hp : p) (hn : δ.new.isSome = true → ∀ d, o.dst = some d → Fresh s d ∧ d ∉ X.pin) : Runs P o X a w (δ.app o.dst s) := by
  have hcv := cX_ok hx h
  have key : ∀ ds, srcOf 1 s.hp (s.ev x) = some ds → _ := fun ds hs => src_ok h hx hs
  generalize s.ev x = u at he hcv key
  unfold vconv at he
  split at he
  · rename_i k0 n
    have hxv := CV_v hcv
    split at he
    · rename_i k
      simp only [pure1, Option.some.injEq, Prod.mk.injEq] at he
      obtain ⟨_, rfl⟩ := he
      have : ∃ k1, P.underlying src = some (.int k1) ∧ P.underlying dst = some (.int k) := by
        unfold cck at hc
        split at hc <;> first | (simp_all; done) | (split at hc <;> simp_all)
      obtain ⟨k1, h1, h2⟩ := this
      exact runs_pure h hd (by simp [execOp, hop, hxv, convert, run_underlying h1, run_underlying h2, Conv.intToInt]) (CV_mkv rfl)
    · simp only [pureIf, Option.some.injEq, Prod.mk.injEq] at he
      obtain ⟨rfl, rfl⟩ := he
      have : ∃ k1, P.underlying src = some (.int k1) ∧ P.underlying dst = some .string := by
        unfold cck at hc
        split at hc <;> first | (simp_all; done) | (split at hc <;> simp_all)
      obtain ⟨k1, h1, h2⟩ := this
      exact runs_pure h hd (by simp [execOp, hop, hxv, convert, run_underlying h1, run_underlying h2, Conv.intToString]) (CV_mkv (by simpa [one] using hp))
    · cases he
  · rename_i b
    have hxv := CV_v hcv
    split at he
    · simp only [pure1, Option.some.injEq, Prod.mk.injEq] at he
      obtain ⟨_, rfl⟩ := he
      have : P.underlying src = some .string ∧ P.underlying dst = some .string := by
        unfold cck at hc
        split at hc <;> first | (simp_all; done) | (split at hc <;> simp_all)
      obtain ⟨h1, h2⟩ := this
      have ho : one (.string b) = true := by simp only [CV] at hcv; exact hcv.2.1
      exact runs_pure h hd (by simp [execOp, hop, hxv, convert, run_underlying h1, run_underlying h2]) (CV_mkv ho)
    · have : ∃ e, P.underlying src = some .string ∧ P.underlying dst = some (.slice e) ∧ P.underlying e = some (.int .u8) := by
        unfold cck at hc
        split at hc <;> first | (simp_all; done) | (split at hc <;> simp_all)
      obtain ⟨e, h1, h2, h3⟩ := this
      obtain ⟨d, hdst⟩ := hns
      have hone : b.size ≤ maxLen := by
        simp only [CV] at hcv
        have := hcv.2.1
        simpa [one, maxLen] using this
      have hge := grownCap_ge w b.size 0 e
      have hcm := grownCap_le_maxLen w b.size 0 e hone
      have hrun : (execOp a.eval o).run P w = .ok (.value (.slice (some ⟨w.heap.size, 0, none⟩) b.size (grownCap w b.size 0 e))) (Lib.bytesWorld w e b) := by
        simp [execOp, hop, hxv, Lib.run_convert_string_bytes w src dst e b h1 h2 h3]
      have hasz : (Lib.bytesCells w e b).size = grownCap w b.size 0 e := by
        simp only [Lib.bytesCells, Array.size_append, Array.size_map, Array.size_replicate]
        have : b.data.size = b.size := rfl
        omega
      split at he
      · rename_i h0
        simp only [pure1, Option.some.injEq, Prod.mk.injEq] at he
        obtain ⟨_, rfl⟩ := he
        have g := (h.grow (Lib.bytesWorld w e b) D [] rfl rfl rfl (by rw [Lib.bytesWorld_size]; omega) (fun k hk => Lib.bytesWorld_at_old w e b k hk) (fun _ hb => hb) (fun k hk => ⟨.inl hk, by rw [Lib.bytesWorld_size]; have := h.Dlt k hk; omega⟩) (by simp) (by simp)).gsub (G' := []) (List.nil_sublist _)
        have h4 := g.put d (hd d hdst) (.ro 1 []) (.slice (some ⟨w.heap.size, 0, none⟩) b.size (grownCap w b.size 0 e)) (by
          simp only [CV]
          exact ⟨trivial, .inl ⟨trivial, some ⟨w.heap.size, 0, none⟩, _, by rw [h0], by rw [h0] at hcm; exact hcm⟩⟩)
        have h5 : Rel X (({ v := .ro 1 [] } : Dl).app (some d) s) (a.put (some d) (.slice (some ⟨w.heap.size, 0, none⟩) b.size (grownCap w b.size 0 e))) (Lib.bytesWorld w e b) := ⟨D, _, _, h4⟩
        rw [← hdst] at h5
        exact ⟨_, _, _, hrun, .inl rfl, h5⟩
      · rename_i h0
        simp only [Option.some.injEq, Prod.mk.injEq] at he
        obtain ⟨_, rfl⟩ := he
        obtain ⟨hf, hpin⟩ := hn rfl d hdst
        have hcells : CR w D 1 (strV b) φ (Lib.bytesCells w e b).toList [] := by
          have := CR_bytes (w := w) (D := D) (φ := φ) (rest := (Array.replicate (grownCap w b.size 0 e - b.size) (Value.int .u8 0)).toList) b.data.toList
          simpa [strV, Lib.bytesCells] using this
        have h3' := (h.newM d hf hpin (Lib.bytesWorld w e b) rfl rfl rfl (Lib.bytesCells w e b) e (.inr ⟨by omega, by simp⟩) (bytesWorld_push w e b) ⟨1, strV b⟩ (ments_strV d b) hcells).put d (hd d hdst) (.sl d 0 b.size) (.slice (some ⟨w.heap.size, 0, none⟩) b.size (grownCap w b.size 0 e)) (CV_sl_new hge hcm (by show grownCap w b.size 0 e * 1 ≤ _; omega))
        have h5 : Rel X (({ v := .sl d 0 b.size, new := some ⟨1, strV b⟩ } : Dl).app (some d) s) (a.put (some d) (.slice (some ⟨w.heap.size, 0, none⟩) b.size (grownCap w b.size 0 e))) (Lib.bytesWorld w e b) := ⟨D, _, _, h3'⟩
        have hde : o.dst.getD 0 = d := by rw [hdst]; rfl
        rw [hde]
        rw [← hdst] at h5
        exact ⟨_, _, _, hrun, .inl rfl, h5⟩
    · cases he
  · split at he
    · split at he
      · rename_i ds hds
        split at he
        · rename_i l hl
          simp only [pureIf, Option.some.injEq, Prod.mk.injEq] at he
          obtain ⟨rfl, rfl⟩ := he
          obtain ⟨ad, c', news, s1, s2, s3, _, s5⟩ := key ds hds
          obtain ⟨ns, rfl, rfl⟩ := bytes_CR ds l news hl (s5 (bytesOf_noOwns ds l hl)) (by rw [s2]; omega)
          have : ∃ e, P.underlying src = some (.slice e) ∧ P.underlying e = some (.int .u8) ∧ P.underlying dst = some .string := by
            unfold cck at hc
            split at hc <;> first | (simp_all; done) | (split at hc <;> simp_all)
          obtain ⟨e, h1, h2, h3⟩ := this
          have hlen : ns.length = ds.length := by simpa using s2
          have hrun : (convert src dst (.slice ad ds.length c')).run P w = .ok (.string (bs (ns.map fun n => UInt8.ofNat n.toNat))) w := by
            rw [run_convert_bytes_string w src dst e ad ds.length c' h1 h2 h3]
            by_cases h0 : ds.length = 0
            · have : ns = [] := List.eq_nil_of_length_eq_zero (by omega)
              subst this
              rw [h0]
              cases ad with
              | none => rfl
              | some b => rfl
            · obtain ⟨b, rfl, hb⟩ := s3 h0
              have hload := run_loadCells_list (P := P) w b (ns.map (Value.int .u8)) hb
              rw [List.length_map, hlen] at hload
              rw [run_bytesToString w b ds.length c' ns hload, foldl_bytes]
          refine runs_pure h hd (x := .string (bs (ns.map fun n => UInt8.ofNat n.toNat))) ?_ (CV_mkv ?_)
          · simp [execOp, hop, s1, hrun]
          · have hsz : (bs (ns.map fun n => UInt8.ofNat n.toNat)).size = (ns.map fun n => UInt8.ofNat n.toNat).length := by simp [bs, ByteArray.size]
            simp only [one, decide_eq_true_eq, hsz]; exact hp
        · cases he
      · cases he
    · cases he
end
end Go.Abs

set_option linter.unusedVariables false
set_option linter.unusedSimpArgs false
namespace Go.Abs
variable [GInv]

def isSt : O → Bool
  | .st _ _ _ => true
  | _ => false

def dOk (st : Bool) (d : Option Nat) (n : Nat) : Bool := match st, d with
  | true, none => true
  | false, some d => decide (d < n)
  | _, _ => false

/-- The compact form of an operation with its slot and its guard. 'ops': the region's operations. -/
def cOper (P : Program) (ops : Array Oper) (n : Nat) (o : Oper) : Option CO :=
  match cOp P o.op with
  | none => none
  | some q =>
    if dOk (isSt q) o.dst n = true then
      match o.guard with
      | none => some ⟨none, o.dst, q⟩
      | some (j, b) => match (ops[j]?).bind (·.dst) with
        | some t => some ⟨some (t, b), o.dst, q⟩
        | none => none
    else none

section
variable {P : Program} {X : Ctx} {s : St} {a : Act} {w : World} {D : Nat → Prop} {φ : Nat → Option Pl} {F : Nat → List Nat} {o : Oper}

omit [GInv] in
theorem ro_ments {sz : Nat} {es : List V} {x : Value} {f : List Nat} (h : CV w D (.ro sz es) φ x f) (d : Nat) : ments d es = false := by
  simp only [CV] at h
  obtain ⟨_, ⟨rfl, _⟩ | ⟨b, o', cap, arr, hxv, hnc, hcm, hD, hbk, hcr, hni⟩⟩ := h
  · rfl
  · exact ments_noIds d es hni

theorem eff_ok {q : O} (hc : cOp P o.op = some q) (h : RelD X s a w D φ F []) (hd : ∀ d, o.dst = some d → d < X.n) (hst : isSt q = true → o.dst = none) (hns : isSt q = false → ∃ d, o.dst = some d)
    {p : Prop} {δ : Dl} (he : eff s.ev s.hp (o.dst.getD 0) q = some (p, δ)) (hp : p) (hn : δ.new.isSome = true → ∀ d, o.dst = some d → Fresh s d ∧ d ∉ X.pin) : Runs P o X a w (δ.app o.dst s) := by
  cases hop : o.op with
  | move x =>
    simp only [hop, cOp, Option.map_eq_some_iff] at hc
    obtain ⟨x', hx, rfl⟩ := hc
    simp only [eff, pure1, Option.some.injEq, Prod.mk.injEq] at he
    obtain ⟨_, rfl⟩ := he
    exact ok_mv h hd (.inl hop) hx
  | assign x =>
    simp only [hop, cOp, Option.map_eq_some_iff] at hc
    obtain ⟨x', hx, rfl⟩ := hc
    simp only [eff, pure1, Option.some.injEq, Prod.mk.injEq] at he
    obtain ⟨_, rfl⟩ := he
    exact ok_mv h hd (.inr hop) hx
  | pick c y z =>
    simp only [hop, cOp] at hc
    split at hc <;> simp only [Option.some.injEq, reduceCtorEq] at hc
    rename_i xc xy xz h1 h2 h3
    subst hc
    simp only [eff] at he
    split at he
    · rename_i t ht
      simp only [pure1, Option.some.injEq, Prod.mk.injEq] at he
      obtain ⟨_, rfl⟩ := he
      exact ok_pick h hd hop h1 h2 h3 ht
    · cases he
  | alloc t =>
    simp only [hop, cOp] at hc
    split at hc
    · rename_i i hi
      split at hc <;> simp only [Option.some.injEq, reduceCtorEq] at hc
      rename_i z hz
      subst hc
      obtain ⟨d, hdst⟩ := hns rfl
      simp only [eff, hdst, Option.getD_some] at he
      split at he
      · rename_i hcond
        simp only [Option.some.injEq, Prod.mk.injEq] at he
        obtain ⟨_, rfl⟩ := he
        obtain ⟨hf, hpin⟩ := hn rfl d hdst
        obtain ⟨x0, hx0, hof⟩ := zeroOf_eq hz
        exact ok_box (y := .const .nilFunc) h (.inr ⟨hop, i, hi, hx0⟩) (ofV_ok hof) hcond.1 hcond.2.2 (ment_noIds _ _ (ofV_noIds hof)) hdst (hd d hdst) hf hpin
      · cases he
    · cases hc
  | box t y =>
    simp only [hop, cOp] at hc
    split at hc <;> simp only [Option.some.injEq, reduceCtorEq] at hc
    rename_i i x hi hx
    subst hc
    obtain ⟨d, hdst⟩ := hns rfl
    simp only [eff, hdst, Option.getD_some] at he
    split at he
    · rename_i hcond
      simp only [Option.some.injEq, Prod.mk.injEq] at he
      obtain ⟨_, rfl⟩ := he
      obtain ⟨hf, hpin⟩ := hn rfl d hdst
      exact ok_box h (.inl ⟨hop, rfl⟩) (cX_ok hx h) hcond.1 hcond.2.2 (cX_fresh hx hf) hdst (hd d hdst) hf hpin
    · cases he
  | build t ps =>
    simp only [hop, cOp] at hc
    split at hc
    · rename_i fs i hfs hi
      split at hc
      · rename_i z pl hz hpl
        simp only [Option.map_eq_some_iff] at hc
        obtain ⟨ps', hps, rfl⟩ := hc
        simp only [eff] at he
        exact ok_build h hd hop hfs hi hz hpl hps he
      · cases hc
    · cases hc
  | buildSlice t n ps =>
    simp only [hop, cOp] at hc
    split at hc
    · rename_i i hi
      split at hc <;> simp only [Option.some.injEq, reduceCtorEq] at hc
      rename_i z ps' hz hps
      subst hc
      obtain ⟨d, hdst⟩ := hns rfl
      simp only [eff, hdst, Option.getD_some] at he
      have hnew : δ.new.isSome = true := by
        unfold vbslice at he
        split at he
        · split at he
          · simp only [Option.some.injEq, Prod.mk.injEq] at he; obtain ⟨_, rfl⟩ := he; rfl
          · cases he
        · cases he
      obtain ⟨hf, hpin⟩ := hn hnew d hdst
      exact ok_bslice h hop hi hz hps hdst (hd d hdst) hf hpin he
    · cases hc
  | load t y =>
    simp only [hop, cOp] at hc
    split at hc <;> simp only [Option.some.injEq, reduceCtorEq] at hc
    rename_i b n x ht hx
    subst hc
    simp only [eff] at he
    exact ok_ld h hd hop ht hx he
  | store t y x =>
    simp only [hop, cOp] at hc
    split at hc <;> simp only [Option.some.injEq, reduceCtorEq] at hc
    rename_i i xa xx hi hxa hxx
    subst hc
    simp only [eff] at he
    exact ok_st h hop hi hxa hxx (hst rfl) he
  | binOp op t x y t' =>
    simp only [hop, cOp] at hc
    split at hc <;> simp only [Option.some.injEq, reduceCtorEq] at hc
    rename_i k xx xy hk hx hy
    subst hc
    simp only [eff] at he
    exact ok_bin h hd hop hk hx hy he hp
  | unOp op t x =>
    simp only [hop, cOp, Option.map_eq_some_iff] at hc
    obtain ⟨x', hx, rfl⟩ := hc
    simp only [eff] at he
    exact ok_un h hd hop hx he
  | convert sr dt x =>
    simp only [hop, cOp] at hc
    split at hc <;> simp only [Option.some.injEq, reduceCtorEq] at hc
    rename_i c x' hcc hx
    subst hc
    simp only [eff] at he
    exact ok_conv h hd (hns rfl) hop hx hcc he hp hn
  | makeFunc fn first cs =>
    simp only [hop] at hc
    cases fn <;> simp only [cOp, reduceCtorEq] at hc
    rename_i f
    split at hc
    · rename_i hfi
      simp only [Option.map_eq_some_iff] at hc
      obtain ⟨xs, hx, rfl⟩ := hc
      simp only [eff, pure1, Option.some.injEq, Prod.mk.injEq] at he
      obtain ⟨_, rfl⟩ := he
      exact ok_clo h hd hop hfi hx
    · cases hc
  | makeSlice t l c =>
    simp only [hop, cOp] at hc
    split at hc
    · rename_i i xl xc hi hl hcc
      split at hc <;> simp only [Option.some.injEq, reduceCtorEq] at hc
      rename_i z hz
      subst hc
      obtain ⟨d, hdst⟩ := hns rfl
      simp only [eff, hdst, Option.getD_some] at he
      have hnew : δ.new.isSome = true := by
        unfold vmks at he
        split at he
        · split at he
          · simp only [Option.some.injEq, Prod.mk.injEq] at he; obtain ⟨_, rfl⟩ := he; rfl
          · cases he
        · cases he
      obtain ⟨hf, hpin⟩ := hn hnew d hdst
      exact ok_mks h hop hi hz hl hcc hdst (hd d hdst) hf hpin he hp
    · cases hc
  | slice t x lo hi mx =>
    simp only [hop] at hc
    cases mx <;> simp only [cOp, reduceCtorEq] at hc
    split at hc
    · rename_i xx lo' hi' ht hx hl hh
      simp only [Option.some.injEq] at hc
      subst hc
      simp only [eff] at he
      exact ok_slcS h hd hop ht hx hl hh he hp
    · rename_i e xx lo' hi' ht hx hl hh
      split at hc <;> simp only [Option.some.injEq, reduceCtorEq] at hc
      rename_i i hi
      subst hc
      simp only [eff] at he
      exact ok_slcL h hd hop ht hi hx hl hh he hp
    · cases hc
  | nilCheck x =>
    simp only [hop, cOp, Option.map_eq_some_iff] at hc
    obtain ⟨x', hx, rfl⟩ := hc
    simp only [eff] at he
    exact ok_nilc h hd hop hx he
  | fieldAddr t x f =>
    simp only [hop, cOp] at hc
    split at hc
    · rename_i fs x' ht hx
      split at hc
      · rename_i fd hfd
        split at hc
        · rename_i i hi
          split at hc
          · rename_i hs0
            simp only [Option.some.injEq] at hc
            subst hc
            simp only [eff] at he
            exact ok_faddr h hd hop hx ht hfd hi hs0 he
          · cases hc
        · cases hc
      · cases hc
    · cases hc
  | field t x f =>
    simp only [hop, cOp] at hc
    split at hc
    · rename_i fs x' ht hx
      split at hc
      · rename_i fd hfd
        split at hc <;> simp only [Option.some.injEq, reduceCtorEq] at hc
        rename_i b n hty
        subst hc
        simp only [eff] at he
        exact ok_fld h hd hop hx ht hfd hty he
      · cases hc
    · cases hc
  | indexAddr t x i =>
    simp only [hop, cOp] at hc
    split at hc <;> simp only [Option.some.injEq, reduceCtorEq] at hc
    rename_i e x' i' ht hx hi
    subst hc
    simp only [eff] at he
    exact ok_iaddr h hd hop hx hi ht he hp
  | index t x i =>
    simp only [hop, cOp] at hc
    split at hc <;> simp only [Option.some.injEq, reduceCtorEq] at hc
    rename_i x' i' ht hx hi
    subst hc
    simp only [eff] at he
    exact ok_idx h hd hop hx hi ht he hp
  | extract x i =>
    simp only [hop, cOp, Option.map_eq_some_iff] at hc
    obtain ⟨x', hx, rfl⟩ := hc
    simp only [eff] at he
    exact ok_ext h hd hop hx he
  | call c =>
    simp only [hop, cOp] at hc
    split at hc
    · rename_i hcal
      split at hc
      · rename_i y t hargs htys
        split at hc <;> simp only [Option.some.injEq, reduceCtorEq] at hc
        · rename_i x ht hx
          subst hc
          simp only [eff, if_true] at he
          exact ok_lenS h hd hop hcal hargs htys ht hx he
        · rename_i e x ht hx
          subst hc
          simp only [eff, Bool.false_eq_true, if_false] at he
          exact ok_lenL h hd hop hcal hargs htys ht hx he
      · cases hc
    · rename_i hcal
      split at hc
      · rename_i yx yy t u hargs htys
        split at hc
        · rename_i i x y hi hx hy
          split at hc
          · rename_i hcond
            obtain ⟨rfl, hs0, hz⟩ := hcond
            simp only [Option.some.injEq] at hc
            subst hc
            obtain ⟨d, hdst⟩ := hns rfl
            simp only [eff, hdst, Option.getD_some] at he
            have hnew : δ.new.isSome = true := by
              unfold vapp at he
              split at he
              · split at he
                · split at he
                  · simp only [Option.some.injEq, Prod.mk.injEq] at he; obtain ⟨_, rfl⟩ := he; rfl
                  · cases he
                · cases he
              · split at he
                · split at he
                  · split at he
                    · simp only [Option.some.injEq, Prod.mk.injEq] at he; obtain ⟨_, rfl⟩ := he; rfl
                    · cases he
                  · cases he
                · cases he
              · cases he
            obtain ⟨hf, hpin⟩ := hn hnew d hdst
            exact ok_app h hop hcal hargs htys hi hs0 hz hx hy hdst (hd d hdst) hf hpin (fun sz es hro => ro_ments (by have := cX_ok hy h; rw [hro] at this; exact this) d) he hp
          · cases hc
        · cases hc
      · cases hc
    · rename_i hcal
      simp only [Option.map_eq_some_iff] at hc
      obtain ⟨xs, hx, rfl⟩ := hc
      simp only [eff] at he
      exact ok_mm (max := false) h hd hop (by simpa using hcal) hx he
    · rename_i hcal
      simp only [Option.map_eq_some_iff] at hc
      obtain ⟨xs, hx, rfl⟩ := hc
      simp only [eff] at he
      exact ok_mm (max := true) h hd hop (by simpa using hcal) hx he
    · simp only [Option.map_eq_some_iff] at hc
      obtain ⟨xs, hx, rfl⟩ := hc
      simp [eff] at he
    · simp only [Option.map_eq_some_iff] at hc
      obtain ⟨xs, hx, rfl⟩ := hc
      simp [eff] at he
    · cases hc
  | _ => simp [hop, cOp] at hc
end
end Go.Abs

set_option linter.unusedVariables false
set_option linter.unusedSimpArgs false
namespace Go.Abs
variable [GInv]

/-- The world has grown: what was there stays, but for the blocks of W. -/
structure Grow (w : World) (D : Nat → Prop) (W : List Nat) (w' : World) (D' : Nat → Prop) : Prop where
  os : w'.os = w.os
  tape : w'.tape = w.tape
  output : w'.output = w.output
  size : w.heap.size ≤ w'.heap.size
  old : ∀ b, b < w.heap.size → b ∉ W → w'.heap[b]? = w.heap[b]?
  Dup : ∀ b, D b → D' b
  Ddn : ∀ b, D' b → D b ∨ w.heap.size ≤ b ∨ b ∈ W
  Dlt : ∀ b, D' b → b < w'.heap.size

/-- A function with a body. -/
def callable (P : Program) (f : Nat) : Bool := (P.funcs[f]?).map (fun fn => fn.body.isSome && fn.name != "runtime.NumGoroutine") == some true

/-- The contract of a function that writes nothing that was there: with the arguments 'args' it returns 'res'. -/
def PCall (P : Program) (f : Nat) (args : List V) (res : V) : Prop :=
  callable P f = true ∧ ∀ (w : World) (D : Nat → Prop) (xs : List Value), (∀ b, D b → b < w.heap.size) → GInv.holds w D → CVs w D args (fun _ => none) xs [] →
    Calls P f xs.toArray w fun e w' => ∃ y D' fp, e = .returned y ∧ Grow w D [] w' D' ∧ CV w' D' res (fun _ => none) y fp ∧ fp.Nodup ∧ ∀ b, b ∈ fp → w.heap.size ≤ b ∧ b < w'.heap.size ∧ ¬ D' b

/-! ### Values that are handed to a function that only reads -/

/-- What a value reads as, for a callee that writes nothing. -/
def borrow (hp : Nat → Option Blk) : Nat → V → V
  | 0, _ => .undef
  | k + 1, .ref id i j => match hp id with
    | some b => .rp b.s (b.es.map (borrow hp k)) i j
    | none => .undef
  | k + 1, .sl id i n => match hp id with
    | some b => if i + n ≤ b.es.length then .ro b.s (((b.es.drop i).take n).map (borrow hp k)) else .undef
    | none => .undef
  | k + 1, .own s es => .ro s (es.map (borrow hp k))
  | k + 1, .agg cs => .agg (cs.map (borrow hp k))
  | k + 1, .tup cs => .tup (cs.map (borrow hp k))
  | k + 1, .clo f cs => .clo f (cs.map (borrow hp k))
  | _ + 1, .rp s es i j => .rp s es i j
  | _ + 1, .ro s es => .ro s es
  | _ + 1, .v x => .v x
  | _ + 1, .undef => .undef

omit [GInv] in
theorem noIdss_map {f : V → V} (h : ∀ v, noIds (f v) = true) : ∀ es : List V, noIdss (es.map f) = true
  | [] => rfl
  | e :: es => by simp [noIdss, h e, noIdss_map h es]

omit [GInv] in
theorem borrow_noIds (hp : Nat → Option Blk) : ∀ (k : Nat) (v : V), noIds (borrow hp k v) = true
  | 0, v => rfl
  | k + 1, .ref id i j => by simp only [borrow]; split <;> rfl
  | k + 1, .sl id i n => by simp only [borrow]; split <;> first | rfl | (split <;> rfl)
  | k + 1, .own s es => by simp [borrow, noIds]
  | k + 1, .agg cs => by simp only [borrow, noIds]; exact noIdss_map (borrow_noIds hp k) cs
  | k + 1, .tup cs => by simp only [borrow, noIds]; exact noIdss_map (borrow_noIds hp k) cs
  | k + 1, .clo f cs => by simp only [borrow, noIds]; exact noIdss_map (borrow_noIds hp k) cs
  | k + 1, .rp s es i j => by simp [borrow, noIds]
  | k + 1, .ro s es => by simp [borrow, noIds]
  | k + 1, .v x => by simp [borrow, noIds]
  | k + 1, .undef => by simp [borrow, noIds]

section
variable {w : World} {D : Nat → Prop} {φ : Nat → Option Pl} {F : Nat → List Nat} {hp : Nat → Option Blk}

omit [GInv] in
theorem CVs_map {D' : Nat → Prop} {ψ : Nat → Option Pl} {f : V → V} (hf : ∀ v x fp, (∀ b, b ∈ fp → D' b) → CV w D v φ x fp → CV w D' (f v) ψ x []) :
    ∀ (cs : List V) (xs : List Value) (fp : List Nat), (∀ b, b ∈ fp → D' b) → CVs w D cs φ xs fp → CVs w D' (cs.map f) ψ xs []
  | [], xs, fp, _, h => by simp only [CVs] at h; obtain ⟨rfl, _⟩ := h; exact CVs_nil
  | c :: cs, xs, fp, hfp, h => by
    simp only [CVs] at h; obtain ⟨x, xs', f1, f2, rfl, rfl, h1, h2⟩ := h
    simp only [List.map_cons, CVs]
    exact ⟨x, xs', [], [], rfl, rfl, hf c x f1 (fun b hb => hfp b (List.mem_append_left _ hb)) h1, CVs_map hf cs xs' f2 (fun b hb => hfp b (List.mem_append_right _ hb)) h2⟩

omit [GInv] in
theorem CR_map {D' : Nat → Prop} {ψ : Nat → Option Pl} {f : V → V} {s : Nat} (hf : ∀ v x fp, (∀ b, b ∈ fp → D' b) → CV w D v φ x fp → CV w D' (f v) ψ x []) :
    ∀ (cs : List V) (xs : List Value) (fp : List Nat), (∀ b, b ∈ fp → D' b) → CR w D s cs φ xs fp → CR w D' s (cs.map f) ψ xs []
  | [], xs, fp, _, h => by simp [CR]
  | c :: cs, xs, fp, hfp, h => by
    simp only [CR] at h; obtain ⟨x, rest, f1, f2, rfl, hs, rfl, h1, h2⟩ := h
    simp only [List.map_cons, CR]
    exact ⟨x, rest, [], [], rfl, hs, rfl, hf c x f1 (fun b hb => hfp b (List.mem_append_left _ hb)) h1, CR_map hf cs rest f2 (fun b hb => hfp b (List.mem_append_right _ hb)) h2⟩

omit [GInv] in
/-- A value of the state, read where all that the state owns is read-only. -/
theorem borrow_ok {D' : Nat → Prop} (hD : ∀ b, D b → D' b) (hF : ∀ id b, b ∈ F id → D' b) (hb : ∀ id blk, hp id = some blk → BlkOk w D φ id blk (F id)) :
    ∀ (k : Nat) (ψ : Nat → Option Pl), (ψ = φ ∨ ψ = fun _ => none) → ∀ (v : V) (x : Value) (fp : List Nat), (∀ b, b ∈ fp → D' b) → CV w D v ψ x fp → CV w D' (borrow hp k v) (fun _ => none) x []
  | 0, ψ, hψ, v, x, fp, hfp, h => by simp [borrow, CV]
  | k + 1, ψ, hψ, v, x, fp, hfp, h => by
    have ih : ∀ ψ, (ψ = φ ∨ ψ = fun _ => none) → ∀ v x fp, (∀ b, b ∈ fp → D' b) → CV w D v ψ x fp → CV w D' (borrow hp k v) (fun _ => none) x [] := fun ψ hψ => borrow_ok hD hF hb k ψ hψ
    have same : noOwn v = true → CV w D v ψ x fp → noIds v = true → CV w D' v (fun _ => none) x [] := fun hn h hi => by
      have hf := CV_noOwn v ψ x fp hn h
      subst hf
      exact CV_mono hD _ _ _ _ _ (fun _ _ => rfl) (fun id hm => by rw [ment_noIds id v hi] at hm; cases hm) h
    cases v with
    | undef => simp [borrow, CV]
    | v y => simp only [borrow]; exact same rfl h rfl
    | rp s es i j => simp only [borrow]; exact same rfl h rfl
    | ro s es => simp only [borrow]; exact same rfl h rfl
    | ref id i j =>
      simp only [CV] at h
      obtain ⟨_, p, hp0, rfl⟩ := h
      have hψ' : ψ = φ := hψ.resolve_right (fun e => by rw [e] at hp0; cases hp0)
      subst hψ'
      simp only [borrow]
      split
      · rename_i blk hbl
        rcases hb id blk hbl with ⟨q, _, _⟩ | ⟨p1, arr, ty, f', q1, q2, q3, q4, q5, q6⟩
        · rw [hp0] at q; cases q
        · rw [hp0] at q1; cases q1
          simp only [CV]
          refine ⟨trivial, p.b, p.o, arr, by rw [q2], hF id p.b (by rw [q5]; exact List.mem_cons_self), q4.blk, ?_, noIdss_map (borrow_noIds hp k) _⟩
          exact CR_map (ih ψ (.inl rfl)) _ _ f' (fun b hb' => hF id b (by rw [q5]; exact List.mem_cons_of_mem _ hb')) q6
      · simp [CV]
    | sl id i n =>
      simp only [CV] at h
      simp only [borrow]
      split
      · rename_i blk hbl
        split
        · rename_i hle
          have hlen : (((blk.es.drop i).take n).map (borrow hp k)).length = n := by rw [List.length_map, List.length_take, List.length_drop]; omega
          simp only [CV]
          refine ⟨trivial, ?_⟩
          obtain ⟨_, ⟨hφ, rfl, rfl, rfl⟩ | ⟨p0, o', cap, hp0, rfl, hnc, hcm, hcap⟩⟩ := h
          · exact .inl ⟨by simp, none, 0, rfl, Nat.zero_le _⟩
          · by_cases hn : n = 0
            · subst hn
              exact .inl ⟨by simp, _, cap, rfl, hcm⟩
            · have hψ' : ψ = φ := hψ.resolve_right (fun e => by rw [e] at hp0; cases hp0)
              subst hψ'
              rcases hb id blk hbl with ⟨q, _, _⟩ | ⟨p1, arr, ty, f', q1, q2, q3, q4, q5, q6⟩
              · rw [hp0] at q; cases q
              · rw [hp0] at q1; cases q1
                obtain ⟨ho, _⟩ := hcap.resolve_left (by omega)
                refine .inr ⟨p0.b, o', cap, arr, by rw [hlen], by rw [hlen]; exact hnc, hcm, hF id p0.b (by rw [q5]; exact List.mem_cons_self), q4.blk, ?_, noIdss_map (borrow_noIds hp k) _⟩
                have hm := CR_map (D' := D') (ψ := fun _ => none) (f := borrow hp k) (ih ψ (.inl rfl)) _ _ f' (fun b hb' => hF id b (by rw [q5]; exact List.mem_cons_of_mem _ hb')) q6
                have h3 := CR_take n (CR_drop i hm)
                rw [List.drop_drop] at h3
                rw [List.map_take, List.map_drop, ho, q2]
                exact h3
        · simp [CV]
      · simp [CV]
    | own s es =>
      simp only [CV] at h
      simp only [borrow, CV]
      refine ⟨trivial, ?_⟩
      rcases h with ⟨rfl, rfl, rfl⟩ | ⟨b, o, cap, arr, ty, fp', rfl, h2, h3, h4, h5, rfl, h7, h8⟩
      · exact .inl ⟨rfl, none, 0, rfl, Nat.zero_le _⟩
      · refine .inr ⟨b, o, cap, arr, by simp, by simpa using h2, h3, hfp b List.mem_cons_self, h5.blk, ?_, noIdss_map (borrow_noIds hp k) _⟩
        exact CR_map (ih _ (.inr rfl)) _ _ fp' (fun b hb' => hfp b (List.mem_cons_of_mem _ hb')) h7
    | agg cs =>
      simp only [CV] at h
      obtain ⟨xs, rfl, h⟩ := h
      simp only [borrow, CV]
      exact ⟨xs, rfl, CVs_map (ih ψ hψ) cs _ fp hfp h⟩
    | tup cs =>
      simp only [CV] at h
      obtain ⟨xs, rfl, h⟩ := h
      simp only [borrow, CV]
      exact ⟨xs, rfl, CVs_map (ih ψ hψ) cs _ fp hfp h⟩
    | clo f cs =>
      simp only [CV] at h
      obtain ⟨xs, rfl, h⟩ := h
      simp only [borrow, CV]
      exact ⟨xs, rfl, CVs_map (ih ψ hψ) cs _ fp hfp h⟩
end

/-! ### Values that go out: blocks become fresh memory of the value's own -/

mutual
def give (hp : Nat → Option Blk) : V → Option (Prop × V × List Nat)
  | .sl id i n => match hp id with
    | some b => if noIdss b.es then some (i = 0 ∧ n = b.es.length, .own b.s b.es, [id]) else none
    | none => none
  | .agg cs => match gives hp cs with
    | some (p, vs, ids) => some (p, .agg vs, ids)
    | none => none
  | .tup cs => match gives hp cs with
    | some (p, vs, ids) => some (p, .tup vs, ids)
    | none => none
  | .v x => some (True, .v x, [])
  | .ro s es => some (True, .ro s es, [])
  | .rp s es i j => some (True, .rp s es i j, [])
  | _ => none
def gives (hp : Nat → Option Blk) : List V → Option (Prop × List V × List Nat)
  | [] => some (True, [], [])
  | c :: cs => match give hp c, gives hp cs with
    | some (p, v, ids), some (q, vs, ids') => some (p ∧ q, v :: vs, ids ++ ids')
    | _, _ => none
end

section
variable {w : World} {D : Nat → Prop} {φ : Nat → Option Pl} {F : Nat → List Nat} {hp : Nat → Option Blk}

omit [GInv] in
mutual
theorem give_ok (hb : ∀ id blk, hp id = some blk → BlkOk w D φ id blk (F id)) : ∀ (v : V) (x : Value) (p : Prop) (v' : V) (ids : List Nat), give hp v = some (p, v', ids) → p → CV w D v φ x [] → CV w D v' (fun _ => none) x (ids.flatMap F)
  | .undef, x, p, v', ids, hg, hp', h => by simp [give] at hg
  | .ref _ _ _, x, p, v', ids, hg, hp', h => by simp [give] at hg
  | .own _ _, x, p, v', ids, hg, hp', h => by simp [give] at hg
  | .clo _ _, x, p, v', ids, hg, hp', h => by simp [give] at hg
  | .v y, x, p, v', ids, hg, hp', h => by
    simp only [give, Option.some.injEq, Prod.mk.injEq] at hg; obtain ⟨_, rfl, rfl⟩ := hg
    simpa [CV] using h
  | .ro s es, x, p, v', ids, hg, hp', h => by
    simp only [give, Option.some.injEq, Prod.mk.injEq] at hg; obtain ⟨_, rfl, rfl⟩ := hg
    simp only [CV] at h ⊢
    exact ⟨rfl, h.2⟩
  | .rp s es i j, x, p, v', ids, hg, hp', h => by
    simp only [give, Option.some.injEq, Prod.mk.injEq] at hg; obtain ⟨_, rfl, rfl⟩ := hg
    simp only [CV] at h ⊢
    exact ⟨rfl, h.2⟩
  | .agg cs, x, p, v', ids, hg, hp', h => by
    simp only [give] at hg
    split at hg <;> simp only [Option.some.injEq, Prod.mk.injEq, reduceCtorEq] at hg
    rename_i q vs ids' e
    obtain ⟨rfl, rfl, rfl⟩ := hg
    simp only [CV] at h ⊢
    obtain ⟨xs, rfl, h⟩ := h
    exact ⟨xs, rfl, gives_ok hb cs _ _ _ _ e hp' h⟩
  | .tup cs, x, p, v', ids, hg, hp', h => by
    simp only [give] at hg
    split at hg <;> simp only [Option.some.injEq, Prod.mk.injEq, reduceCtorEq] at hg
    rename_i q vs ids' e
    obtain ⟨rfl, rfl, rfl⟩ := hg
    simp only [CV] at h ⊢
    obtain ⟨xs, rfl, h⟩ := h
    exact ⟨xs, rfl, gives_ok hb cs _ _ _ _ e hp' h⟩
  | .sl id i n, x, p, v', ids, hg, hp', h => by
    simp only [give] at hg
    split at hg
    · rename_i blk hbl
      split at hg
      · rename_i hni
        simp only [Option.some.injEq, Prod.mk.injEq] at hg
        obtain ⟨rfl, rfl, rfl⟩ := hg
        obtain ⟨rfl, rfl⟩ := hp'
        simp only [CV, List.flatMap_cons, List.flatMap_nil, List.append_nil] at h ⊢
        obtain ⟨_, ⟨hφ, _, hn, rfl⟩ | ⟨p0, o', cap, hp0, rfl, hnc, hcm, hcap⟩⟩ := h
        · rcases hb id blk hbl with ⟨_, q, q'⟩ | ⟨p1, arr, ty, f', q1, q2, q3, q4, q5, q6⟩
          · exact .inl ⟨q, rfl, q'⟩
          · rw [hφ] at q1; cases q1
        · rcases hb id blk hbl with ⟨q, _, _⟩ | ⟨p1, arr, ty, f', q1, q2, q3, q4, q5, q6⟩
          · rw [hp0] at q; cases q
          · rw [hp0] at q1; cases q1
            have q6' := CR_mono (w' := w) (D' := D) (fun _ hb => hb) _ _ _ (fun _ => none) _ _ (fun _ _ => rfl) (fun id hm => by rw [ments_noIds id _ hni] at hm; cases hm) q6
            refine .inr ⟨p0.b, o', cap, arr, ty, f', rfl, hnc, hcm, ?_, q4, q5, ?_, hni⟩
            · rcases hcap with hc | ⟨ho, hz⟩
              · exact .inl hc
              · exact .inr (by rw [ho, ← q3, ← q2]; simpa using hz)
            · rcases hcap with hc | ⟨ho, hz⟩
              · have : blk.es = [] := List.eq_nil_of_length_eq_zero (by omega)
                rw [this] at q6' ⊢
                simpa [CR] using q6'
              · rw [ho]; simpa using q6'
      · cases hg
    · cases hg
theorem gives_ok (hb : ∀ id blk, hp id = some blk → BlkOk w D φ id blk (F id)) : ∀ (cs : List V) (xs : List Value) (p : Prop) (vs : List V) (ids : List Nat), gives hp cs = some (p, vs, ids) → p → CVs w D cs φ xs [] → CVs w D vs (fun _ => none) xs (ids.flatMap F)
  | [], xs, p, vs, ids, hg, hp', h => by
    simp only [gives, Option.some.injEq, Prod.mk.injEq] at hg; obtain ⟨_, rfl, rfl⟩ := hg
    simp only [CVs] at h ⊢
    exact ⟨h.1, rfl⟩
  | c :: cs, xs, p, vs, ids, hg, hp', h => by
    simp only [gives] at hg
    split at hg <;> simp only [Option.some.injEq, Prod.mk.injEq, reduceCtorEq] at hg
    rename_i p1 v ids1 q vs' ids' e1 e2
    obtain ⟨rfl, rfl, rfl⟩ := hg
    simp only [CVs] at h
    obtain ⟨x, xs', f1, f2, rfl, hf, h1, h2⟩ := h
    have hf := List.append_eq_nil_iff.1 hf.symm
    obtain ⟨rfl, rfl⟩ := hf
    simp only [CVs, List.flatMap_append]
    exact ⟨x, xs', _, _, rfl, rfl, give_ok hb c _ _ _ _ e1 hp'.1 h1, gives_ok hb cs _ _ _ _ e2 hp'.2 h2⟩
end
end

theorem flatMap_nodup {X : Ctx} {s : St} {a : Act} {w : World} {D : Nat → Prop} {φ : Nat → Option Pl} {F : Nat → List Nat} (h : RelD X s a w D φ F []) : ∀ (ids : List Nat), ids.Nodup → (ids.flatMap F).Nodup
  | [], _ => by simp
  | i :: ids, hn => by
    rw [List.nodup_cons] at hn
    rw [List.flatMap_cons, List.nodup_append]
    refine ⟨h.nodup i, flatMap_nodup h ids hn.2, fun b hb c hc e => ?_⟩
    subst e
    obtain ⟨j, hj, hbj⟩ := List.mem_flatMap.1 hc
    exact h.sep i j (fun e => hn.1 (e ▸ hj)) b hb hbj
end Go.Abs

set_option linter.unusedVariables false
set_option linter.unusedSimpArgs false
namespace Go.Abs
variable [GInv]

mutual
/-- Fresh memory of a value becomes blocks of the state: ids d, d + 1000, .. -/
def take (d : Nat) : Nat → V → V × List (Nat × Blk) × Nat
  | k, .own s es => (.sl (d + 1000 * k) 0 es.length, [(d + 1000 * k, ⟨s, es⟩)], k + 1)
  | k, .agg cs => (.agg (takes d k cs).1, (takes d k cs).2.1, (takes d k cs).2.2)
  | k, .tup cs => (.tup (takes d k cs).1, (takes d k cs).2.1, (takes d k cs).2.2)
  | k, v => (v, [], k)
def takes (d : Nat) : Nat → List V → List V × List (Nat × Blk) × Nat
  | k, [] => ([], [], k)
  | k, c :: cs => ((take d k c).1 :: (takes d (take d k c).2.2 cs).1, (take d k c).2.1 ++ (takes d (take d k c).2.2 cs).2.1, (takes d (take d k c).2.2 cs).2.2)
end

mutual
/-- A result that can come in. -/
def resOk : V → Bool
  | .sl _ _ _ => false
  | .ref _ _ _ => false
  | .clo _ _ => false
  | .agg cs => resOks cs
  | .tup cs => resOks cs
  | _ => true
def resOks : List V → Bool
  | [] => true
  | c :: cs => resOk c && resOks cs
end

def updl (f : Nat → Option Blk) : List (Nat × Blk) → Nat → Option Blk
  | [] => f
  | (i, b) :: l => updl (upd f i (some b)) l

omit [GInv] in
theorem updl_append (f : Nat → Option Blk) : ∀ (l l' : List (Nat × Blk)), updl f (l ++ l') = updl (updl f l) l'
  | [], l' => rfl
  | (i, b) :: l, l' => by simp only [List.cons_append, updl]; exact updl_append _ l l'

mutual
/-- All that a value leads to is its own. -/
def noRo : V → Bool
  | .ro _ es => es.isEmpty
  | .rp _ _ _ _ => false
  | .own _ es => noRos es
  | .agg cs => noRos cs
  | .tup cs => noRos cs
  | .clo _ cs => noRos cs
  | _ => true
def noRos : List V → Bool
  | [] => true
  | c :: cs => noRo c && noRos cs
end

omit [GInv] in
mutual
theorem CV_noRo {w : World} {D D' : Nat → Prop} : ∀ (v : V) (φ : Nat → Option Pl) (x : Value) (fp : List Nat), noRo v = true → CV w D v φ x fp → CV w D' v φ x fp
  | .undef, φ, x, fp, _, h => by simpa [CV] using h
  | .v y, φ, x, fp, _, h => by simpa [CV] using h
  | .ref _ _ _, φ, x, fp, _, h => by simpa [CV] using h
  | .sl _ _ _, φ, x, fp, _, h => by simpa [CV] using h
  | .rp _ _ _ _, φ, x, fp, hn, h => by simp [noRo] at hn
  | .ro s es, φ, x, fp, hn, h => by
    simp only [noRo, List.isEmpty_iff] at hn; subst hn
    simp only [CV] at h ⊢
    obtain ⟨hf, ⟨_, h⟩ | ⟨b, o, cap, arr, h1, h2, h3, h4⟩⟩ := h
    · exact ⟨hf, .inl ⟨trivial, h⟩⟩
    · exact ⟨hf, .inl ⟨trivial, _, cap, by simpa using h1, h3⟩⟩
  | .own s es, φ, x, fp, hn, h => by
    simp only [noRo] at hn
    simp only [CV] at h ⊢
    rcases h with h | ⟨b, o, cap, arr, ty, fp', h1, h2, h3, h4, h5, h6, h7, h8⟩
    · exact .inl h
    · exact .inr ⟨b, o, cap, arr, ty, fp', h1, h2, h3, h4, h5, h6, CR_noRo s es _ _ _ hn h7, h8⟩
  | .agg cs, φ, x, fp, hn, h => by
    simp only [noRo] at hn
    simp only [CV] at h ⊢
    obtain ⟨xs, h1, h2⟩ := h; exact ⟨xs, h1, CVs_noRo cs _ _ _ hn h2⟩
  | .tup cs, φ, x, fp, hn, h => by
    simp only [noRo] at hn
    simp only [CV] at h ⊢
    obtain ⟨xs, h1, h2⟩ := h; exact ⟨xs, h1, CVs_noRo cs _ _ _ hn h2⟩
  | .clo _ cs, φ, x, fp, hn, h => by
    simp only [noRo] at hn
    simp only [CV] at h ⊢
    obtain ⟨xs, h1, h2⟩ := h; exact ⟨xs, h1, CVs_noRo cs _ _ _ hn h2⟩
theorem CVs_noRo {w : World} {D D' : Nat → Prop} : ∀ (cs : List V) (φ : Nat → Option Pl) (xs : List Value) (fp : List Nat), noRos cs = true → CVs w D cs φ xs fp → CVs w D' cs φ xs fp
  | [], φ, xs, fp, _, h => by simpa [CVs] using h
  | c :: cs, φ, xs, fp, hn, h => by
    simp only [noRos, Bool.and_eq_true] at hn
    simp only [CVs] at h ⊢
    obtain ⟨x, xs', f1, f2, h1, h2, h3, h4⟩ := h
    exact ⟨x, xs', f1, f2, h1, h2, CV_noRo c _ _ _ hn.1 h3, CVs_noRo cs _ _ _ hn.2 h4⟩
theorem CR_noRo {w : World} {D D' : Nat → Prop} (s : Nat) : ∀ (cs : List V) (φ : Nat → Option Pl) (xs : List Value) (fp : List Nat), noRos cs = true → CR w D s cs φ xs fp → CR w D' s cs φ xs fp
  | [], φ, xs, fp, _, h => by simpa [CR] using h
  | c :: cs, φ, xs, fp, hn, h => by
    simp only [noRos, Bool.and_eq_true] at hn
    simp only [CR] at h ⊢
    obtain ⟨x, xs', f1, f2, h1, h0, h2, h3, h4⟩ := h
    exact ⟨x, xs', f1, f2, h1, h0, h2, CV_noRo c _ _ _ hn.1 h3, CR_noRo s cs _ _ _ hn.2 h4⟩
end

omit [GInv] in
/-- Without ids nothing hangs on the state. -/
theorem borrow_noIds_eq (hp : Nat → Option Blk) : ∀ (k : Nat) (v : V), noIds v = true → noOwn v = true → borrow hp k v = borrow (fun _ => none) k v
  | 0, v, _, _ => rfl
  | k + 1, v, hi, ho => by
    have hall : ∀ cs : List V, noIdss cs = true → noOwns cs = true → cs.map (borrow hp k) = cs.map (borrow (fun _ => none) k) := by
      intro cs
      induction cs with
      | nil => intros; rfl
      | cons c cs ih =>
        intro h1 h2
        simp only [noIdss, noOwns, Bool.and_eq_true] at h1 h2
        simp [borrow_noIds_eq hp k c h1.1 h2.1, ih h1.2 h2.2]
    cases v with
    | undef => rfl
    | v y => rfl
    | rp s es i j => rfl
    | ro s es => rfl
    | ref id i j => simp [noIds] at hi
    | sl id i n => simp [noIds] at hi
    | own s es => simp [noOwn] at ho
    | agg cs => simp only [borrow]; rw [hall cs (by simpa [noIds] using hi) (by simpa [noOwn] using ho)]
    | tup cs => simp only [borrow]; rw [hall cs (by simpa [noIds] using hi) (by simpa [noOwn] using ho)]
    | clo f cs => simp only [borrow]; rw [hall cs (by simpa [noIds] using hi) (by simpa [noOwn] using ho)]

section
variable {X : Ctx} {a : Act} {w : World} {D : Nat → Prop}

omit [GInv] in
mutual
theorem take_le (d : Nat) : ∀ (v : V) (k : Nat), k ≤ (take d k v).2.2
  | .own s es, k => by simp [take]
  | .agg cs, k => by simp only [take]; exact takes_le d cs k
  | .tup cs, k => by simp only [take]; exact takes_le d cs k
  | .undef, k | .v _, k | .ref _ _ _, k | .sl _ _ _, k | .rp _ _ _ _, k | .ro _ _, k | .clo _ _, k => by simp [take]
theorem takes_le (d : Nat) : ∀ (cs : List V) (k : Nat), k ≤ (takes d k cs).2.2
  | [], k => by simp [takes]
  | c :: cs, k => by simp only [takes]; exact Nat.le_trans (take_le d c k) (takes_le d cs _)
end

/-- What has come of the state when a value has come in. -/
structure Took (X : Ctx) (s : St) (a : Act) (w : World) (D : Nat → Prop) (φ : Nat → Option Pl) (F : Nat → List Nat) (G : List Nat) (d k k' : Nat) (l : List (Nat × Blk)) (φ' : Nat → Option Pl) (F' : Nat → List Nat) : Prop where
  rel : RelD X { s with hp := updl s.hp l } a w D φ' F' G
  same : ∀ id, (∀ i, k ≤ i → i < k' → id ≠ d + 1000 * i) → φ' id = φ id
  fresh : ∀ j, Fresh s (d + 1000 * j) → (∀ i, k ≤ i → i < k' → j ≠ i) → Fresh { s with hp := updl s.hp l } (d + 1000 * j)
  sameF : ∀ id, (∀ i, k ≤ i → i < k' → id ≠ d + 1000 * i) → F' id = F id

mutual
theorem take_ok {d : Nat} : ∀ (v : V) (k : Nat) (s : St) (φ : Nat → Option Pl) (F : Nat → List Nat) (x : Value) (fp G : List Nat), resOk v = true → RelD X s a w D φ F (fp ++ G) → CV w D v (fun _ => none) x fp →
    (∀ i, k ≤ i → i < (take d k v).2.2 → Fresh s (d + 1000 * i) ∧ d + 1000 * i ∉ X.pin) →
    ∃ φ' F', Took X s a w D φ F G d k (take d k v).2.2 (take d k v).2.1 φ' F' ∧ CV w D (take d k v).1 φ' x [] ∧ (∀ id, ment id (take d k v).1 = true → ∃ i, k ≤ i ∧ i < (take d k v).2.2 ∧ id = d + 1000 * i)
  | .own sz es, k, s, φ, F, x, fp, G, hro, h, hv, hf => by
    simp only [take] at hf ⊢
    obtain ⟨hfr, hpin⟩ := hf k (Nat.le_refl _) (Nat.lt_succ_self _)
    have hmem : ∀ id, ment id (.sl (d + 1000 * k) 0 es.length) = true → ∃ i, k ≤ i ∧ i < k + 1 ∧ id = d + 1000 * i := fun id hm => by
      simp only [ment, beq_iff_eq] at hm
      exact ⟨k, Nat.le_refl _, Nat.lt_succ_self _, hm.symm⟩
    have hsame : ∀ (pl : Option Pl) id, (∀ i, k ≤ i → i < k + 1 → id ≠ d + 1000 * i) → upd φ (d + 1000 * k) pl id = φ id := fun pl id hi => upd_ne _ _ (hi k (Nat.le_refl _) (Nat.lt_succ_self _))
    have hsameF : ∀ (fl : List Nat) id, (∀ i, k ≤ i → i < k + 1 → id ≠ d + 1000 * i) → upd F (d + 1000 * k) fl id = F id := fun fl id hi => upd_ne _ _ (hi k (Nat.le_refl _) (Nat.lt_succ_self _))
    have hfresh : ∀ (hni : ∀ j, ments (d + 1000 * j) es = false) j, Fresh s (d + 1000 * j) → (∀ i, k ≤ i → i < k + 1 → j ≠ i) → Fresh { s with hp := updl s.hp [(d + 1000 * k, ⟨sz, es⟩)] } (d + 1000 * j) := fun hni j hj hne => by
      have hjk : j ≠ k := hne k (Nat.le_refl _) (Nat.lt_succ_self _)
      refine ⟨hj.sl, fun id blk hb => ?_, ?_⟩
      · simp only [updl] at hb
        by_cases e : id = d + 1000 * k
        · rw [e, upd_same] at hb; cases hb; exact hni j
        · rw [upd_ne _ _ e] at hb; exact hj.hp id blk hb
      · simp only [updl]; rw [upd_ne _ _ (by omega)]; exact hj.no
    simp only [CV] at hv
    rcases hv with ⟨rfl, rfl, rfl⟩ | ⟨b, o, cap, arr, ty, fp', rfl, h2, h3, h4, h5, rfl, h7, h8⟩
    · refine ⟨_, _, ⟨RelD.settle (f := []) h (d + 1000 * k) hfr hpin none ⟨sz, []⟩ (.inl ⟨by simp, rfl, rfl⟩), hsame none, hfresh fun _ => rfl, hsameF _⟩, ?_, hmem⟩
      simp [CV]
    · refine ⟨_, _, ⟨RelD.settle h (d + 1000 * k) hfr hpin (some ⟨b, o, sz, arr.size⟩) ⟨sz, es⟩ (.inr ⟨⟨b, o, sz, arr.size⟩, arr, ty, fp', by simp, rfl, rfl, h5, rfl, ?_⟩), hsame _, hfresh fun j => ments_noIds _ _ h8, hsameF _⟩, ?_, hmem⟩
      · exact CR_mono (fun _ hb => hb) _ _ _ _ _ _ (fun _ _ => rfl) (fun id hm => by rw [ments_noIds id es h8] at hm; cases hm) h7
      · simp only [CV, upd_same]
        refine ⟨trivial, .inr ⟨_, o, cap, rfl, rfl, h2, h3, ?_⟩⟩
        rcases h4 with h4 | h4
        · exact .inl h4
        · exact .inr ⟨by simp, by simpa using h4⟩
  | .agg cs, k, s, φ, F, x, fp, G, hro, h, hv, hf => by
    simp only [take] at hf ⊢
    simp only [CV] at hv
    obtain ⟨xs, rfl, hv⟩ := hv
    obtain ⟨φ', F', h1, h2, h3⟩ := takes_ok cs k s φ F xs.toList fp G (by simpa [resOk] using hro) h hv hf
    exact ⟨φ', F', h1, by simp only [CV]; exact ⟨xs, rfl, h2⟩, fun id hm => h3 id (by simpa [ment] using hm)⟩
  | .tup cs, k, s, φ, F, x, fp, G, hro, h, hv, hf => by
    simp only [take] at hf ⊢
    simp only [CV] at hv
    obtain ⟨xs, rfl, hv⟩ := hv
    obtain ⟨φ', F', h1, h2, h3⟩ := takes_ok cs k s φ F xs.toList fp G (by simpa [resOk] using hro) h hv hf
    exact ⟨φ', F', h1, by simp only [CV]; exact ⟨xs, rfl, h2⟩, fun id hm => h3 id (by simpa [ment] using hm)⟩
  | .undef, k, s, φ, F, x, fp, G, hro, h, hv, hf => by
    simp only [take] at hf ⊢
    simp only [CV] at hv; subst hv
    exact ⟨φ, F, ⟨h, fun _ _ => rfl, fun j hj _ => hj, fun _ _ => rfl⟩, by simp [CV], fun id hm => by simp [ment] at hm⟩
  | .v y, k, s, φ, F, x, fp, G, hro, h, hv, hf => by
    simp only [take] at hf ⊢
    have hfp : fp = [] := CV_noOwn _ _ _ _ rfl hv
    subst hfp
    exact ⟨φ, F, ⟨h, fun _ _ => rfl, fun j hj _ => hj, fun _ _ => rfl⟩, by simpa [CV] using hv, fun id hm => by simp [ment] at hm⟩
  | .ref id i j, k, s, φ, F, x, fp, G, hro, h, hv, hf => by
    simp only [CV] at hv; obtain ⟨_, p, hp, _⟩ := hv; cases hp
  | .sl id i n, k, s, φ, F, x, fp, G, hro, h, hv, hf => by
    simp [resOk] at hro
  | .rp s' es i j, k, s, φ, F, x, fp, G, hro, h, hv, hf => by
    simp only [take] at hf ⊢
    have hfp : fp = [] := CV_noOwn _ _ _ _ rfl hv
    subst hfp
    exact ⟨φ, F, ⟨h, fun _ _ => rfl, fun j hj _ => hj, fun _ _ => rfl⟩, by simpa [CV] using hv, fun id hm => by simp [ment] at hm⟩
  | .ro s' es, k, s, φ, F, x, fp, G, hro, h, hv, hf => by
    simp only [take] at hf ⊢
    have hfp : fp = [] := CV_noOwn _ _ _ _ rfl hv
    subst hfp
    exact ⟨φ, F, ⟨h, fun _ _ => rfl, fun j hj _ => hj, fun _ _ => rfl⟩, by simpa [CV] using hv, fun id hm => by simp [ment] at hm⟩
  | .clo g cs, k, s, φ, F, x, fp, G, hro, h, hv, hf => by
    simp [resOk] at hro
theorem takes_ok {d : Nat} : ∀ (cs : List V) (k : Nat) (s : St) (φ : Nat → Option Pl) (F : Nat → List Nat) (xs : List Value) (fp G : List Nat), resOks cs = true → RelD X s a w D φ F (fp ++ G) → CVs w D cs (fun _ => none) xs fp →
    (∀ i, k ≤ i → i < (takes d k cs).2.2 → Fresh s (d + 1000 * i) ∧ d + 1000 * i ∉ X.pin) →
    ∃ φ' F', Took X s a w D φ F G d k (takes d k cs).2.2 (takes d k cs).2.1 φ' F' ∧ CVs w D (takes d k cs).1 φ' xs [] ∧ (∀ id, ments id (takes d k cs).1 = true → ∃ i, k ≤ i ∧ i < (takes d k cs).2.2 ∧ id = d + 1000 * i)
  | [], k, s, φ, F, xs, fp, G, hro, h, hv, hf => by
    simp only [CVs] at hv; obtain ⟨rfl, rfl⟩ := hv
    simp only [takes] at hf ⊢
    exact ⟨φ, F, ⟨h, fun _ _ => rfl, fun j hj _ => hj, fun _ _ => rfl⟩, CVs_nil, fun id hm => by simp [ments] at hm⟩
  | c :: cs, k, s, φ, F, xs, fp, G, hro, h, hv, hf => by
    simp only [CVs] at hv
    obtain ⟨x, xs', f1, f2, rfl, rfl, h1, h2⟩ := hv
    simp only [takes] at hf ⊢
    simp only [resOks, Bool.and_eq_true] at hro
    have hle1 := take_le d c k
    have hle2 := takes_le d cs (take d k c).2.2
    rw [List.append_assoc] at h
    obtain ⟨φ1, F1, t1, t2, t3⟩ := take_ok c k s φ F x f1 (f2 ++ G) hro.1 h h1 (fun i hi hi' => hf i hi (Nat.lt_of_lt_of_le hi' hle2))
    obtain ⟨φ2, F2, u1, u2, u3⟩ := takes_ok cs (take d k c).2.2 _ φ1 F1 xs' f2 G hro.2 t1.rel h2 (fun i hi hi' => by
      have := hf i (Nat.le_trans hle1 hi) hi'
      exact ⟨t1.fresh i this.1 (fun j hj hj' => by omega), this.2⟩)
    refine ⟨φ2, F2, ⟨?_, fun id hid => ?_, fun j hj hne => ?_, fun id hid => ?_⟩, ?_, fun id hm => ?_⟩
    · rw [updl_append]; exact u1.rel
    · rw [u1.same id (fun i hi hi' => hid i (Nat.le_trans hle1 hi) hi'), t1.same id (fun i hi hi' => hid i hi (Nat.lt_of_lt_of_le hi' hle2))]
    · rw [updl_append]
      exact u1.fresh j (t1.fresh j hj (fun i hi hi' => hne i hi (Nat.lt_of_lt_of_le hi' hle2))) (fun i hi hi' => hne i (Nat.le_trans hle1 hi) hi')
    · rw [u1.sameF id (fun i hi hi' => hid i (Nat.le_trans hle1 hi) hi'), t1.sameF id (fun i hi hi' => hid i hi (Nat.lt_of_lt_of_le hi' hle2))]
    · simp only [CVs]
      refine ⟨x, xs', [], [], rfl, rfl, CV_mono (fun _ hb => hb) _ _ _ _ _ (fun _ _ => rfl) (fun id hm => u1.same id fun i hi hi' => ?_) t2, u2⟩
      obtain ⟨j, hj, hj', rfl⟩ := t3 id hm
      omega
    · simp only [ments, Bool.or_eq_true] at hm
      rcases hm with hm | hm
      · obtain ⟨i, hi, hi', rfl⟩ := t3 id hm
        exact ⟨i, hi, Nat.lt_of_lt_of_le hi' hle2, rfl⟩
      · obtain ⟨i, hi, hi', rfl⟩ := u3 id hm
        exact ⟨i, Nat.le_trans hle1 hi, hi', rfl⟩
end

/-- The state behind a call whose result 'res' goes to slot d. -/
def St.took (s : St) (d : Nat) (res : V) : St := { sl := upd s.sl d (take d 0 res).1, hp := updl s.hp (take d 0 res).2.1 }

theorem CVs_borrow {X : Ctx} {s : St} {φ : Nat → Option Pl} {F : Nat → List Nat} (h : RelD X s a w D φ F []) {D' : Nat → Prop} (hD : ∀ b, D b → D' b) (hF : ∀ id b, b ∈ F id → D' b) (k : Nat) :
    ∀ (vs : List V) (xs : List Value), CVs w D vs φ xs [] → CVs w D' (vs.map (borrow s.hp k)) (fun _ => none) xs [] := fun vs xs hv =>
  CVs_map (fun v x fp hfp hc => borrow_ok hD hF h.blks k φ (.inl rfl) v x fp hfp hc) vs xs [] (by simp) hv

omit [GInv] in
theorem CVs_direct {φ : Nat → Option Pl} (hp : Nat → Option Blk) (k : Nat) : ∀ (vs : List V) (xs : List Value), noIdss vs = true → noOwns vs = true → CVs w D vs φ xs [] → CVs w D (vs.map (borrow hp k)) (fun _ => none) xs []
  | [], xs, _, _, h => by simpa [CVs] using h
  | v :: vs, xs, hi, ho, h => by
    simp only [noIdss, noOwns, Bool.and_eq_true] at hi ho
    simp only [CVs] at h
    obtain ⟨x, xs', f1, f2, rfl, hf, h1, h2⟩ := h
    have hf := List.append_eq_nil_iff.1 hf.symm
    obtain ⟨rfl, rfl⟩ := hf
    simp only [List.map_cons, CVs]
    refine ⟨x, xs', [], [], rfl, rfl, ?_, CVs_direct hp k vs xs' hi.2 ho.2 h2⟩
    rw [borrow_noIds_eq hp k v hi.1 ho.1]
    exact borrow_ok (F := fun _ => []) (hp := fun _ => none) (fun _ hb => hb) (by simp) (by simp) k φ (.inl rfl) v x [] (by simp) h1

/-- THE RULE OF A CALL. -/
theorem call_ok {P : Program} {X : Ctx} {s : St} {f d k : Nat} {vs : List V} {res : V} {xs : List Value} (hP : PCall P f (vs.map (borrow s.hp k)) res) (h : Rel X s a w) (hv : ∀ D φ F, RelD X s a w D φ F [] → CVs w D vs φ xs [])
    (hd : d < X.n) (hres : resOk res = true) (hro : noRo res = true ∨ (noIdss vs = true ∧ noOwns vs = true)) (hf : ∀ i, i < (take d 0 res).2.2 → Fresh s (d + 1000 * i) ∧ d + 1000 * i ∉ X.pin) :
    Calls P f xs.toArray w fun e w' => ∃ y, e = .returned y ∧ Rel X (s.took d res) (a.put (some d) y) w' := by
  obtain ⟨D, φ, F, h⟩ := h
  have hvs := hv D φ F h
  have finish : ∀ (D2 : Nat → Prop) (w' : World) (y : Value) (fp : List Nat), Grow w D [] w' D2 → CV w' D2 res (fun _ => none) y fp → fp.Nodup → (∀ b, b ∈ fp → w.heap.size ≤ b ∧ b < w'.heap.size ∧ ¬ D2 b) → Rel X (s.took d res) (a.put (some d) y) w' := by
    intro D2 w' y fp hg hc hn hfr
    have h1 := h.grow w' D2 fp hg.os hg.tape hg.output hg.size (fun b hb => hg.old b hb (by simp)) hg.Dup (fun b hb => ⟨(hg.Ddn b hb).imp id fun h => h.resolve_right (by simp), hg.Dlt b hb⟩) hn hfr
    rw [List.nil_append, ← List.append_nil fp] at h1
    obtain ⟨φ', F', t1, t2, _⟩ := take_ok (d := d) res 0 s φ F y fp [] hres h1 hc (fun i _ hi => hf i hi)
    exact ⟨D2, φ', F', t1.rel.put d hd _ _ t2⟩
  rcases hro with hro | hdir
  · -- all that is there is read-only for the callee
    have hargs := CVs_borrow h (D' := fun b => b < w.heap.size) (fun b hb => h.Dlt b hb) (fun id b hb => (h.notD id b hb).2.1) k vs xs hvs
    refine (hP.2 w (fun b => b < w.heap.size) xs (fun _ hb => hb) (GInv.mono h.gi (fun b hb => h.Dlt b hb) fun _ _ => rfl) hargs).mono ?_
    rintro e w' ⟨y, D', fp, rfl, hg, hc, hn, hfr⟩
    refine ⟨y, rfl, finish (fun b => D b ∨ (w.heap.size ≤ b ∧ D' b)) w' y fp ?_ (CV_noRo res _ _ _ hro hc) hn ?_⟩
    · exact { hg with Dup := fun b hb => .inl hb, Ddn := fun b hb => hb.imp id fun h => .inl h.1, Dlt := fun b hb => hb.elim (fun hb => Nat.lt_of_lt_of_le (h.Dlt b hb) hg.size) (fun hb => hg.Dlt b hb.2) }
    · intro b hb
      have := hfr b hb
      exact ⟨this.1, this.2.1, fun hd => hd.elim (fun hd => by have := h.Dlt b hd; omega) (fun hd => this.2.2 hd.2)⟩
  · have hargs := CVs_direct s.hp k vs xs hdir.1 hdir.2 hvs
    refine (hP.2 w D xs h.Dlt h.gi hargs).mono ?_
    rintro e w' ⟨y, D', fp, rfl, hg, hc, hn, hfr⟩
    exact ⟨y, rfl, finish D' w' y fp hg hc hn hfr⟩
end
end Go.Abs
