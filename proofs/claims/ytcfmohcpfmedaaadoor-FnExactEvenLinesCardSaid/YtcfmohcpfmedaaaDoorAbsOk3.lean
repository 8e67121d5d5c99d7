/- The abstract layer, part 6: slices, and operations that make memory. -/
import Derived.Test.YtcfmohcpfmedaaaDoorAbsOk2
set_option linter.unusedVariables false
set_option linter.unusedSimpArgs false
namespace Go.Abs
variable [GInv]
section
variable {P : Program} {X : Ctx} {s : St} {a : Act} {w : World} {D : Nat → Prop} {φ : Nat → Option Pl} {F : Nat → List Nat} {o : Oper}

theorem cXo_ok (h : RelD X s a w D φ F []) {y : Option Operand} {x : Option Abs.X} (hx : cXo y = some x) : (x = none ∧ y = none) ∨ ∃ x' y', x = some x' ∧ y = some y' ∧ CV w D (s.ev x') φ (a.eval y') [] := by
  cases y with
  | none => simp only [cXo, Option.some.injEq] at hx; exact .inl ⟨hx.symm, rfl⟩
  | some y =>
    simp only [cXo, Option.map_eq_some_iff] at hx
    obtain ⟨x', h1, rfl⟩ := hx
    exact .inr ⟨x', y, rfl, rfl, cX_ok h1 h⟩

omit [GInv] in
theorem lohi_some {n : Nat} {lo hi : Option V} {p : Prop} {l u : Nat} (h : lohi n lo hi = some (p, l, u)) (hp : p) :
    ((lo = none ∧ l = 0) ∨ ∃ k, lo = some (.v (.int k (l : Int)))) ∧ ((hi = none ∧ u = n) ∨ ∃ k, hi = some (.v (.int k (u : Int)))) ∧ l ≤ u ∧ u ≤ n := by
  unfold lohi at h
  split at h <;> simp only [Option.some.injEq, Prod.mk.injEq, reduceCtorEq] at h
  · obtain ⟨rfl, rfl, rfl⟩ := h
    exact ⟨.inl ⟨rfl, rfl⟩, .inl ⟨rfl, rfl⟩, Nat.zero_le _, Nat.le_refl _⟩
  · obtain ⟨rfl, rfl, rfl⟩ := h
    obtain ⟨m, rfl⟩ := Int.eq_ofNat_of_zero_le hp.1
    exact ⟨.inr ⟨_, rfl⟩, .inl ⟨rfl, rfl⟩, by have := hp.2; simp; omega, Nat.le_refl _⟩
  · obtain ⟨rfl, rfl, rfl⟩ := h
    obtain ⟨m, rfl⟩ := Int.eq_ofNat_of_zero_le hp.1
    exact ⟨.inl ⟨rfl, rfl⟩, .inr ⟨_, rfl⟩, Nat.zero_le _, by have := hp.2; simp; omega⟩
  · obtain ⟨rfl, rfl, rfl⟩ := h
    obtain ⟨m, rfl⟩ := Int.eq_ofNat_of_zero_le hp.1
    obtain ⟨m', rfl⟩ := Int.eq_ofNat_of_zero_le (Int.le_trans hp.1 hp.2.1)
    exact ⟨.inr ⟨_, rfl⟩, .inr ⟨_, rfl⟩, by have := hp.2; simp; omega, by have := hp.2; simp; omega⟩

/-- The bounds of a slice expression, as the model computes them. -/
theorem run_bounds (isSlice : Bool) (n cap : Nat) (hn : n ≤ cap) {lo hi : Option Abs.X} {yl yh : Option Operand} (h : RelD X s a w D φ F []) (hl : cXo yl = some lo) (hh : cXo yh = some hi) {p : Prop} {l u : Nat}
    (hb : lohi n (lo.map s.ev) (hi.map s.ev) = some (p, l, u)) (hp : p) : l ≤ u ∧ u ≤ n ∧ (Instr.sliceBounds isSlice n cap (yl.map a.eval) (yh.map a.eval) none).run P w = .ok (l, u, cap) w := by
  obtain ⟨q1, q2, q3, q4⟩ := lohi_some hb hp
  refine ⟨q3, q4, ?_⟩
  have c1 : u ≤ cap := by omega
  have c2 : l ≤ u := by omega
  rcases cXo_ok h hl with ⟨rfl, rfl⟩ | ⟨xl, yl', rfl, rfl, h1⟩ <;> rcases cXo_ok h hh with ⟨rfl, rfl⟩ | ⟨xh, yh', rfl, rfl, h2⟩
  · obtain ⟨_, rfl⟩ := q1.resolve_right (by simp)
    obtain ⟨_, rfl⟩ := q2.resolve_right (by simp)
    simp [Instr.sliceBounds]
  · obtain ⟨_, rfl⟩ := q1.resolve_right (by simp)
    obtain ⟨k, hk⟩ := q2.resolve_left (by simp)
    simp only [Option.map_some, Option.some.injEq] at hk
    rw [hk] at h2
    have hx := CV_v h2
    simp [Instr.sliceBounds, Instr.sliceBound, asIntOf, hx, c1]
  · obtain ⟨_, rfl⟩ := q2.resolve_right (by simp)
    obtain ⟨k, hk⟩ := q1.resolve_left (by simp)
    simp only [Option.map_some, Option.some.injEq] at hk
    rw [hk] at h1
    have hx := CV_v h1
    simp [Instr.sliceBounds, Instr.sliceBound, asIntOf, hx, c2]
  · obtain ⟨k, hk⟩ := q1.resolve_left (by simp)
    obtain ⟨k', hk'⟩ := q2.resolve_left (by simp)
    simp only [Option.map_some, Option.some.injEq] at hk hk'
    rw [hk] at h1
    rw [hk'] at h2
    have hx := CV_v h1
    have hx' := CV_v h2
    simp [Instr.sliceBounds, Instr.sliceBound, asIntOf, hx, hx', c1, c2]

omit [GInv] in
theorem vslcS_lohi {b : ByteArray} {lo hi : Option V} {p : Prop} {δ : Dl} (h : vslcS b lo hi = some (p, δ)) : ∃ l u, lohi b.size lo hi = some (p, l, u) ∧ δ = { v := .v (.string (b.extract l u)) } := by
  unfold vslcS at h
  unfold lohi
  split at h <;> simp only [pure1, pureIf, Option.some.injEq, Prod.mk.injEq, reduceCtorEq] at h
  all_goals (obtain ⟨rfl, rfl⟩ := h; exact ⟨_, _, rfl, rfl⟩)

theorem ok_slcS (h : RelD X s a w D φ F []) (hd : ∀ d, o.dst = some d → d < X.n) {t : TypeId} {y : Operand} {x : Abs.X} {yl yh : Option Operand} {lo hi : Option Abs.X} (hop : o.op = .slice t y yl yh none) (ht : P.underlying t = some .string)
    (hx : cX y = some x) (hl : cXo yl = some lo) (hh : cXo yh = some hi) {p : Prop} {δ : Dl} (he : vslcX (s.ev x) (lo.map s.ev) (hi.map s.ev) = some (p, δ)) (hp : p) : Runs P o X a w (δ.app o.dst s) := by
  have hcv := cX_ok hx h
  generalize s.ev x = u at he hcv
  unfold vslcX at he
  split at he
  rotate_left
  · cases he
  rename_i b
  obtain ⟨l, u, hb, rfl⟩ := vslcS_lohi he
  have hxv := CV_v hcv
  obtain ⟨_, _, hr⟩ := run_bounds (P := P) false b.size b.size (Nat.le_refl _) h hl hh hb hp
  have ho : one (.string (b.extract l u)) = true := by
    have h0 : one (.string b) = true := by simp only [CV] at hcv; exact hcv.2.1
    simp only [one, decide_eq_true_eq] at h0 ⊢
    rw [ByteArray.size_extract]; omega
  exact runs_pure h hd (by simp [execOp, hop, hxv, Instr.sliceAt, Instr.slice, run_underlying ht, hr]) (CV_mkv ho)

theorem ok_slcL (h : RelD X s a w D φ F []) (hd : ∀ d, o.dst = some d → d < X.n) {t e : TypeId} {i0 : TypeInfo} {y : Operand} {x : Abs.X} {yl yh : Option Operand} {lo hi : Option Abs.X} (hop : o.op = .slice t y yl yh none) (ht : P.underlying t = some (.slice e)) (hi0 : P.info? e = some i0)
    (hx : cX y = some x) (hl : cXo yl = some lo) (hh : cXo yh = some hi) {p : Prop} {δ : Dl} (he : vslcL i0.size s.hp (s.ev x) (lo.map s.ev) (hi.map s.ev) = some (p, δ)) (hp : p) : Runs P o X a w (δ.app o.dst s) := by
  have hcv := cX_ok hx h
  generalize s.ev x = u at he hcv
  have run : ∀ (b : Option Addr) n cap l u, n ≤ cap → a.eval y = .slice b n cap → lohi n (lo.map s.ev) (hi.map s.ev) = some (p, l, u) →
      (execOp a.eval o).run P w = .ok (.value (.slice (if cap = l then b else b.map (·.add (l * i0.size))) (u - l) (cap - l))) w := by
    intro b n cap l u hn hxv hb
    obtain ⟨_, _, hr⟩ := run_bounds (P := P) true n cap hn h hl hh hb hp
    simp [execOp, hop, hxv, Instr.sliceAt, Instr.slice, run_underlying ht, hr, sizeOf, typeInfo, hi0]
  unfold vslcL at he
  split at he
  · rename_i s' es
    cases hlh : lohi es.length (lo.map s.ev) (hi.map s.ev) with
    | none => simp [hlh] at he
    | some q =>
      obtain ⟨q, l, u⟩ := q
      simp only [hlh] at he
      split at he
      · rename_i hss; subst hss
        simp only [pureIf, Option.some.injEq, Prod.mk.injEq] at he
        obtain ⟨rfl, rfl⟩ := he
        obtain ⟨_, _, hlu, hun⟩ := lohi_some hlh hp
        have hlen : ((es.drop l).take (u - l)).length = u - l := by rw [List.length_take, List.length_drop]; omega
        simp only [CV] at hcv
        obtain ⟨_, ⟨rfl, a', cap, hxv, hcm⟩ | ⟨b, o', cap, arr, hxv, hnc, hcm, hD, hbk, hcr, hni⟩⟩ := hcv
        · simp only [List.length_nil] at hun
          obtain rfl : u = 0 := by omega
          obtain rfl : l = 0 := by omega
          refine runs_pure h hd (run _ _ _ _ _ (Nat.zero_le _) hxv hlh) ?_
          simp only [CV]
          exact ⟨trivial, .inl ⟨by simp, _, _, rfl, by omega⟩⟩
        · refine runs_pure h hd (run _ _ _ _ _ hnc hxv hlh) ?_
          simp only [CV]
          refine ⟨trivial, ?_⟩
          by_cases hc : cap = l
          · left
            refine ⟨List.eq_nil_of_length_eq_zero (by rw [hlen]; omega), _, _, by rw [show u - l = 0 from by omega], by omega⟩
          · right
            refine ⟨b, o' + l * i0.size, cap - l, arr, ?_, by rw [hlen]; omega, by omega, hD, hbk, ?_, ?_⟩
            · simp [hc, Addr.add_lit, hlen]
            · have := CR_take (u - l) (CR_drop l hcr)
              rw [List.drop_drop] at this
              exact this
            · exact noIdss_sub hni
      · cases he
  · rename_i id i n
    cases hb : s.hp id with
    | none => simp [hb] at he
    | some blk =>
      cases hlh : lohi n (lo.map s.ev) (hi.map s.ev) with
      | none => simp [hb, hlh] at he
      | some q =>
        obtain ⟨q, l, u⟩ := q
        simp only [hb, hlh] at he
        split at he
        · rename_i hbs
          simp only [pureIf, Option.some.injEq, Prod.mk.injEq] at he
          obtain ⟨rfl, rfl⟩ := he
          obtain ⟨_, _, hlu, hun⟩ := lohi_some hlh hp
          simp only [CV] at hcv
          obtain ⟨_, ⟨hφ, rfl, rfl, hxv⟩ | ⟨p0, o', cap, hp0, hxv, hnc, hcm, hcap⟩⟩ := hcv
          · obtain rfl : u = 0 := by omega
            obtain rfl : l = 0 := by omega
            refine runs_pure h hd (run _ _ _ _ _ (Nat.le_refl _) hxv hlh) ?_
            simp [CV, hφ]
          · refine runs_pure h hd (run _ _ _ _ _ hnc hxv hlh) ?_
            have hps : p0.s = i0.size := by
              rcases h.blks id blk hb with ⟨q1, _, _⟩ | ⟨p1, _, _, _, q1, q2, _⟩
              · rw [hp0] at q1; cases q1
              · rw [hp0] at q1; cases q1; rw [q2, hbs]
            simp only [CV]
            refine ⟨trivial, .inr ⟨p0, if cap = l then o' else o' + l * i0.size, cap - l, hp0, ?_, by omega, by omega, ?_⟩⟩
            · split <;> simp [Addr.add_lit]
            · by_cases hc : cap = l
              · left; omega
              · right
                obtain ⟨ho, hz⟩ := hcap.resolve_left (by omega)
                simp only [hc, if_false]
                have : i + l + (cap - l) = i + cap := by omega
                rw [this]
                exact ⟨by rw [ho, hps, Nat.add_mul]; omega, hz⟩
        · cases he
  · cases he
where
  noIdss_sub {es : List V} {l u : Nat} (h : noIdss es = true) : noIdss ((es.drop l).take (u - l)) = true := by
    have hall : ∀ {es : List V}, noIdss es = true ↔ ∀ e ∈ es, noIds e = true := by
      intro es
      induction es with
      | nil => simp [noIdss]
      | cons c cs ih => simp [noIdss, ih]
    rw [hall] at h ⊢
    exact fun e he => h e (List.mem_of_mem_drop (List.mem_of_mem_take he))

omit [GInv] in
/-- Cells written one by one from place off on. -/
theorem foldl_set (off : Nat) : ∀ (l : List Value) (k : Nat) (cs : Array Value), off + k + l.length ≤ cs.size →
    ((l.zipIdx k).foldl (fun cs (c : Value × Nat) => cs.setIfInBounds (off + c.2) c.1) cs).toList = cs.toList.take (off + k) ++ l ++ cs.toList.drop (off + k + l.length)
  | [], k, cs, _ => by simp
  | x :: l, k, cs, h => by
    simp only [List.length_cons] at h
    simp only [List.zipIdx_cons, List.foldl_cons]
    rw [foldl_set off l (k + 1) _ (by simp; omega)]
    simp only [Array.toList_setIfInBounds]
    have hlt : off + k < cs.toList.length := by simp; omega
    rw [List.set_eq_take_append_cons_drop]
    simp only [hlt, if_true]
    have ht : (cs.toList.take (off + k)).length = off + k := by rw [List.length_take]; omega
    rw [show off + (k + 1) = off + k + 1 from rfl, List.take_append_of_le_length' (x := x) ht, List.drop_append_of_gt' (x := x) ht (by omega)]
    simp [List.drop_drop]
    congr 1; omega
where
  List.take_append_of_le_length' {A B : List Value} {n : Nat} {x : Value} (h : A.length = n) : (A ++ x :: B).take (n + 1) = A ++ [x] := by
    subst h; rw [List.take_length_add_append]; simp
  List.drop_append_of_gt' {A B : List Value} {n m : Nat} {x : Value} (h : A.length = n) (hm : n < m) : (A ++ x :: B).drop m = B.drop (m - n - 1) := by
    subst h
    obtain ⟨k, rfl⟩ : ∃ k, m = A.length + (k + 1) := ⟨m - A.length - 1, by omega⟩
    rw [List.drop_length_add_append]; simp

omit [GInv] in
theorem array_foldl_zipIdx (l cs : Array Value) (off : Nat) (h : off + l.size ≤ cs.size) :
    (l.zipIdx.foldl (fun cs (c, j) => cs.setIfInBounds (off + j) c) cs).toList = cs.toList.take off ++ l.toList ++ cs.toList.drop (off + l.size) := by
  rw [← Array.foldl_toList, Array.toList_zipIdx]
  simpa using foldl_set off l.toList 0 cs (by simpa using h)

theorem fill_ok (h : RelD X s a w D φ F []) (places : List (Nat × Nat)) : ∀ (parts : List (Nat × Operand)) (ps : List (Nat × Nat × Abs.X)) (cs cs' : List V) (cells : Array Value), cPs places parts = some ps → CVs w D cs φ cells.toList [] →
    setPs s.ev cs ps = some cs' → ∃ arr, Instr.fill (places.toArray[·]?) cells (parts.map fun x => (x.1, a.eval x.2)) = some arr ∧ CVs w D cs' φ arr.toList []
  | [], ps, cs, cs', cells, hp, hc, hs => by
    simp only [cPs, Option.some.injEq] at hp; subst hp
    simp only [setPs, Option.some.injEq] at hs; subst hs
    exact ⟨cells, by simp [Instr.fill], hc⟩
  | (i, x) :: parts, ps, cs, cs', cells, hp, hc, hs => by
    unfold cPs at hp
    split at hp
    · rename_i off n y ys h1 h2 h3
      simp only [Option.some.injEq] at hp; subst hp
      unfold setPs at hs
      split at hs
      · rename_i vs hvs
        split at hs
        · rename_i hcond
          obtain ⟨hl, hle, hno⟩ := hcond
          have hcv := CV_cells hvs (cX_ok h2 h)
          have l1 := CVs_length hcv
          have l2 := CVs_length hc
          simp only [Array.length_toList] at l1 l2
          have hsz : (a.eval x).cells.size = n := by omega
          have hfold := array_foldl_zipIdx (a.eval x).cells cells off (by omega)
          have hc' := CVs_append (CVs_append (CVs_take off hc) hcv) (CVs_drop (off + n) hc)
          obtain ⟨arr, g1, g2⟩ := fill_ok h places parts ys _ cs' ((a.eval x).cells.zipIdx.foldl (fun cs (c, j) => cs.setIfInBounds (off + j) c) cells) h3 (by rw [hfold, hsz]; simpa using hc') hs
          refine ⟨arr, ?_, g2⟩
          simp only [List.map_cons, Instr.fill]
          have : places.toArray[i]? = some (off, n) := by simpa using h1
          rw [this]
          have hc1 : ¬ ((a.eval x).cells.size ≠ n) := by omega
          have hc2 : ¬ (off + (a.eval x).cells.size > cells.size) := by omega
          simp only [hc2, decide_false, Bool.or_false, decide_eq_true_eq, hc1, if_false]
          exact g1
        · cases hs
      · cases hs
    · cases hp

omit [GInv] in
theorem ones_ofV {x : Value} {v : V} {n : Nat} (h : ofV x = some v) (hs : sizeV v = some n) : x.cells.toList.all one = true := by
  unfold ofV at h
  split at h
  · rename_i cs
    split at h
    · rename_i hc
      rw [List.all_eq_true]
      intro y hy
      exact Array.all_eq_true'.1 hc y (by simpa [Value.cells] using hy)
    · cases h
  · split at h
    · simp only [Option.some.injEq] at h; subst h
      simp [sizeV, cells?] at hs
    · cases h
  · split at h
    · rename_i this
      rw [one_cells this]; simp [this]
    · cases h

omit [GInv] in
theorem zeroOf_eq {i : TypeInfo} {z : V} (h : zeroOf i = some z) : ∃ x, i.zero = some x ∧ ofV x = some z := by
  unfold zeroOf at h
  cases hz : i.zero with
  | none => simp [hz] at h
  | some x => exact ⟨x, rfl, by simpa [hz] using h⟩

theorem ok_build (h : RelD X s a w D φ F []) (hd : ∀ d, o.dst = some d → d < X.n) {t : TypeId} {parts : Array (Nat × Operand)} {fs : Array Field} {i0 : TypeInfo} {z : V} {places : List (Nat × Nat)} {ps : List (Nat × Nat × Abs.X)}
    (hop : o.op = .build t parts) (ht : P.underlying t = some (.struct fs)) (hi : P.info? t = some i0) (hz : zeroOf i0 = some z) (hpl : placesOf P fs = some places) (hps : cPs places parts.toList = some ps)
    {p : Prop} {δ : Dl} (he : vbuild s.ev z ps = some (p, δ)) : Runs P o X a w (δ.app o.dst s) := by
  obtain ⟨x0, hx0, hof⟩ := zeroOf_eq hz
  unfold vbuild at he
  split at he
  · rename_i cs
    split at he
    · rename_i cs' hset
      simp only [pure1, Option.some.injEq, Prod.mk.injEq] at he
      obtain ⟨_, rfl⟩ := he
      have hz0 : CV w D (.agg cs) φ x0 [] := ofV_ok hof
      simp only [CV] at hz0
      obtain ⟨xs, rfl, hcs⟩ := hz0
      obtain ⟨arr, g1, g2⟩ := fill_ok h places parts.toList ps cs cs' xs hps hcs hset
      refine runs_pure h hd (x := .agg arr) ?_ (by simp only [CV]; exact ⟨_, rfl, g2⟩)
      have hb : P.built t (parts.map fun x => (x.1, a.eval x.2)).toList = some arr := by
        unfold Program.built
        unfold placesOf at hpl
        simp only [hi, ht, hx0, hpl]
        simpa [Value.cells] using g1
      have := run_build w t _ arr hb
      simp [execOp, hop, this]
    · cases he
  · cases he

omit [GInv] in
theorem CR_replicate {z : V} {x : Value} {n : Nat} (hc : CV w D z φ x []) (hs : x.cells.size = n ∧ x.cells.toList.all one = true) : ∀ (k : Nat) (xs : List Value), xs.length = k * n → (∀ i, i < k * n → xs[i]? = x.cells[i % n]?) → CR w D n (List.replicate k z) φ xs []
  | 0, xs, hl, hx => by simp [CR]
  | k + 1, xs, hl, hx => by
    simp only [List.replicate_succ, CR]
    refine ⟨x, xs.drop n, [], [], ?_, hs, rfl, hc, CR_replicate hc hs k _ ?_ fun i hi => ?_⟩
    · refine List.ext_getElem? fun j => ?_
      by_cases hj : j < n
      · rw [hx j (by rw [Nat.add_mul, Nat.one_mul]; omega), Nat.mod_eq_of_lt hj, List.getElem?_append_left (by simpa [hs.1] using hj)]; simp
      · rw [List.getElem?_append_right (by simp [hs.1]; omega), List.getElem?_drop]; congr 1; simp [hs.1]; omega
    · rw [List.length_drop, hl, Nat.add_mul, Nat.one_mul]; omega
    · rw [List.getElem?_drop, hx (n + i) (by rw [Nat.add_mul, Nat.one_mul]; omega)]
      simp

omit [GInv] in
theorem CR_zero {z : V} {x : Value} {n : Nat} (hc : CV w D z φ x []) (hs : x.cells.size = n ∧ x.cells.toList.all one = true) (k : Nat) (hn : n ≠ 0) : CR w D n (List.replicate k z) φ ((Array.range (k * n)).map fun i => x.cells[i % x.cells.size]!).toList [] := by
  refine CR_replicate hc hs k _ (by simp) fun i hi => ?_
  have : i % n < x.cells.size := by rw [hs.1]; exact Nat.mod_lt _ (by omega)
  simp only [Array.toList_map, Array.toList_range, List.getElem?_map, List.getElem?_range hi, Option.map_some, hs.1]
  rw [getElem!_pos x.cells _ this, getElem?_pos x.cells _ this]

/-- The cells of 'fill' for a slice's literal. -/
theorem setPt_ok (h : RelD X s a w D φ F []) (n : Nat) : ∀ (parts : List (Nat × Operand)) (ps : List (Nat × Abs.X)) (es es' : List V) (cells : Array Value), cPt parts = some ps → CR w D n es φ cells.toList [] → cells.size = es.length * n → noOwns es = true →
    setPt s.ev n es ps = some es' → ∃ arr, Instr.fill (fun i => some (i * n, n)) cells (parts.map fun x => (x.1, a.eval x.2)) = some arr ∧ CR w D n es' φ arr.toList [] ∧ es'.length = es.length ∧ arr.size = cells.size
  | [], ps, es, es', cells, hp, hc, hl, hno, hs => by
    simp only [cPt, Option.some.injEq] at hp; subst hp
    simp only [setPt, Option.some.injEq] at hs; subst hs
    exact ⟨cells, by simp [Instr.fill], hc, rfl, rfl⟩
  | (i, x) :: parts, ps, es, es', cells, hp, hc, hl, hno, hs => by
    unfold cPt at hp
    split at hp
    · rename_i y ys h1 h2
      simp only [Option.some.injEq] at hp; subst hp
      unfold setPt at hs
      split at hs
      · rename_i hcond
        obtain ⟨hi, hsz, hnx, hfl⟩ := hcond
        have hcv := cX_ok h1 h
        have hxs := sizeV_eq hsz hcv
        have hmul : (i + 1) * n ≤ es.length * n := Nat.mul_le_mul_right _ hi
        rw [Nat.add_mul, Nat.one_mul] at hmul
        have hfold := array_foldl_zipIdx (a.eval x).cells cells (i * n) (by omega)
        obtain ⟨e, he⟩ : ∃ e, es[i]? = some e := ⟨es[i], List.getElem?_eq_getElem hi⟩
        have hne : noOwn e = true := noOwn_get hno he
        have hspl : cells.toList.take (i * n) ++ (a.eval x).cells.toList ++ cells.toList.drop (i * n + (a.eval x).cells.size) = cells.toList.take (i * n) ++ (a.eval x).cells.toList ++ cells.toList.drop (i * n + (a.eval x).cells.toList.length) := by simp
        have hbd : i * n + (a.eval x).cells.toList.length ≤ cells.toList.length := by simp; omega
        have hcr := CR_set (e' := s.ev y) (y := a.eval x) (ys := ((a.eval x).cells.zipIdx.foldl (fun cs (c, j) => cs.setIfInBounds (i * n + j) c) cells).toList) hc he hne hcv ⟨hxs, ones_of_flatV hfl hcv⟩
          (by rw [hfold, hspl, splice_length _ _ _ hbd]) (fun j hj => by
            rw [hfold, hspl, splice_get _ _ _ _ hbd]
            simp only [Array.length_toList, hxs]
            split
            · rfl
            · rw [if_neg (by omega)]) (fun j hj => by
            rw [hfold, hspl, splice_get _ _ _ _ hbd]
            simp only [Array.length_toList, hxs]
            rw [if_neg (by omega), if_pos (by omega), show i * n + j - i * n = j from by omega]; simp)
        have hsz' : ((a.eval x).cells.zipIdx.foldl (fun cs (c, j) => cs.setIfInBounds (i * n + j) c) cells).size = cells.size := by
          have := congrArg List.length hfold
          rw [hspl, splice_length _ _ _ hbd] at this
          simpa using this
        obtain ⟨arr, g1, g2, g3, g4⟩ := setPt_ok h n parts ys _ es' _ h2 hcr (by rw [hsz', hl, List.length_set]) (noOwns_set hno hnx) hs
        refine ⟨arr, ?_, g2, by rw [g3, List.length_set], by rw [g4, hsz']⟩
        simp only [List.map_cons, Instr.fill]
        have hc1 : ¬ ((a.eval x).cells.size ≠ n) := by omega
        have hc2 : ¬ (i * n + (a.eval x).cells.size > cells.size) := by omega
        simp only [hc2, decide_false, Bool.or_false, decide_eq_true_eq, hc1, if_false]
        exact g1
      · cases hs
    · cases hp
where
  noOwn_get {es : List V} {i : Nat} {e : V} (h : noOwns es = true) (he : es[i]? = some e) : noOwn e = true := by
    induction es generalizing i with
    | nil => simp at he
    | cons c cs ih =>
      simp only [noOwns, Bool.and_eq_true] at h
      cases i with
      | zero => simp at he; exact he ▸ h.1
      | succ i => exact ih h.2 (by simpa using he)
  noOwns_set {es : List V} {i : Nat} {e : V} (h : noOwns es = true) (he : noOwn e = true) : noOwns (es.set i e) = true := by
    induction es generalizing i with
    | nil => simp [noOwns]
    | cons c cs ih =>
      simp only [noOwns, Bool.and_eq_true] at h
      cases i with
      | zero => simp [noOwns, he, h.2]
      | succ i => simp [noOwns, h.1, ih h.2]

omit [GInv] in
theorem noOwns_replicate {z : V} (h : noOwn z = true) : ∀ n, noOwns (List.replicate n z) = true
  | 0 => rfl
  | n + 1 => by simp [List.replicate_succ, noOwns, h, noOwns_replicate h n]

omit [GInv] in
theorem ments_replicate {z : V} {d : Nat} (h : ment d z = false) : ∀ n, ments d (List.replicate n z) = false
  | 0 => rfl
  | n + 1 => by simp [List.replicate_succ, ments, h, ments_replicate h n]

omit [GInv] in
theorem ments_set {d : Nat} {e : V} (he : ment d e = false) : ∀ {es : List V} {i : Nat}, ments d es = false → ments d (es.set i e) = false
  | [], i, h => by simp [ments]
  | c :: cs, 0, h => by
    simp only [ments, Bool.or_eq_false_iff] at h
    simp [ments, he, h.2]
  | c :: cs, i + 1, h => by
    simp only [ments, Bool.or_eq_false_iff] at h
    simp [ments, h.1, ments_set he h.2]

omit [GInv] in
theorem ments_setPt {d : Nat} (hf : Fresh s d) {n : Nat} : ∀ {parts : List (Nat × Operand)} {ps : List (Nat × Abs.X)} {es es' : List V}, cPt parts = some ps → ments d es = false → setPt s.ev n es ps = some es' → ments d es' = false
  | [], ps, es, es', hp, hm, hs => by
    simp only [cPt, Option.some.injEq] at hp; subst hp
    simp only [setPt, Option.some.injEq] at hs; subst hs; exact hm
  | (i, x) :: parts, ps, es, es', hp, hm, hs => by
    unfold cPt at hp
    split at hp
    · rename_i y ys h1 h2
      simp only [Option.some.injEq] at hp; subst hp
      unfold setPt at hs
      split at hs
      · exact ments_setPt hf h2 (ments_set (cX_fresh h1 hf) hm) hs
      · cases hs
    · cases hp

omit [GInv] in
theorem CV_sl_new {d n : Nat} {b z s' : Nat} {φ : Nat → Option Pl} {cap : Nat} (hn : n ≤ cap) (hc : cap ≤ maxLen) (hz : cap * s' ≤ z) : CV w D (.sl d 0 n) (upd φ d (some ⟨b, 0, s', z⟩)) (.slice (some ⟨b, 0, none⟩) n cap) [] := by
  simp only [CV, upd_same]
  exact ⟨trivial, .inr ⟨_, 0, cap, rfl, rfl, hn, hc, .inr ⟨by simp, by simpa using hz⟩⟩⟩

theorem ok_bslice (h : RelD X s a w D φ F []) {t : TypeId} {n d : Nat} {parts : Array (Nat × Operand)} {i0 : TypeInfo} {z : V} {ps : List (Nat × Abs.X)}
    (hop : o.op = .buildSlice t n parts) (ht : sliceElem P t = some i0) (hz : zeroOf i0 = some z) (hps : cPt parts.toList = some ps) (hdst : o.dst = some d) (hd : d < X.n) (hf : Fresh s d) (hp : d ∉ X.pin)
    {p : Prop} {δ : Dl} (he : vbslice s.ev i0.size z n d ps = some (p, δ)) : Runs P o X a w (δ.app o.dst s) := by
  obtain ⟨e, hte, hie⟩ := sliceElem_eq ht
  obtain ⟨x0, hx0, hof⟩ := zeroOf_eq hz
  unfold vbslice at he
  split at he
  · rename_i hcond
    obtain ⟨hsz, hn0, hle, hno⟩ := hcond
    split at he
    · rename_i es hset
      simp only [Option.some.injEq, Prod.mk.injEq] at he
      obtain ⟨_, rfl⟩ := he
      have hz0 : CV w D z φ x0 [] := ofV_ok hof
      have hxs := sizeV_eq hsz hz0
      have hcr := CR_zero hz0 ⟨hxs, ones_ofV hof hsz⟩ n hn0
      obtain ⟨arr, g1, g2, g3, g4⟩ := setPt_ok h i0.size parts.toList ps _ es _ hps hcr (by simp) (noOwns_replicate hno n) hset
      simp only [List.length_replicate] at g3
      have hsize : arr.size = n * i0.size := by rw [g4]; simp
      refine runs_new h hdst hd hf hp (x := .slice (some ⟨w.heap.size, 0, none⟩) n n) (w' := w.alloc (.cells arr e)) ?_ rfl rfl rfl arr e rfl ⟨i0.size, es⟩ (ments_setPt hf hps (ments_replicate (ment_noIds _ _ (ofV_noIds hof)) n) hset) g2
        (CV_sl_new (Nat.le_refl _) ?_ (by show n * i0.size ≤ arr.size; omega))
      · have hnle : ¬ (16777216 < n * i0.size) := by omega
        by_cases hnz : n * i0.size = 0
        · have : n = 0 := by
            rcases Nat.mul_eq_zero.1 hnz with q | q
            · exact q
            · exact absurd q hn0
          subst this
          simp only [Nat.zero_mul, Array.range_zero', Array.map_empty] at g1
          simp [execOp, hop, Instr.buildSlice, run_underlying hte, sizeOf, typeInfo, hie, g1, newRow, Array.range_zero']
        · simp [execOp, hop, Instr.buildSlice, run_underlying hte, sizeOf, typeInfo, hie, hnle, hnz, zeroValue, hx0, newRow] at g1 ⊢
          simp [g1]
      · have : n ≤ n * i0.size := Nat.le_mul_of_pos_right _ (by omega)
        unfold maxLen; omega
    · cases he
  · cases he

theorem ok_mks (h : RelD X s a w D φ F []) {t : TypeId} {d : Nat} {yl yc : Operand} {xl xc : Abs.X} {i0 : TypeInfo} {z : V}
    (hop : o.op = .makeSlice t yl yc) (ht : sliceElem P t = some i0) (hz : zeroOf i0 = some z) (hl : cX yl = some xl) (hc : cX yc = some xc) (hdst : o.dst = some d) (hd : d < X.n) (hf : Fresh s d) (hpin : d ∉ X.pin)
    {p : Prop} {δ : Dl} (he : vmks i0.size i0.bytes z d (s.ev xl) (s.ev xc) = some (p, δ)) (hp : p) : Runs P o X a w (δ.app o.dst s) := by
  obtain ⟨e, hte, hie⟩ := sliceElem_eq ht
  obtain ⟨x0, hx0, hof⟩ := zeroOf_eq hz
  have hcl := cX_ok hl h
  have hcc := cX_ok hc h
  generalize s.ev xl = u at he hcl
  generalize s.ev xc = v at he hcc
  unfold vmks at he
  split at he
  · rename_i l c
    split at he
    · rename_i hcond
      obtain ⟨rfl, hsz, hby, hno, hn0⟩ := hcond
      simp only [Option.some.injEq, Prod.mk.injEq] at he
      obtain ⟨rfl, rfl⟩ := he
      have hxl := CV_v hcl
      have hxc := CV_v hcc
      obtain ⟨m, rfl⟩ := Int.eq_ofNat_of_zero_le hp.1
      have hm : m ≤ lenBound := by have := hp.2; omega
      have hz0 : CV w D z φ x0 [] := ofV_ok hof
      have hxs := sizeV_eq hsz hz0
      have hcr := CR_zero hz0 ⟨hxs, ones_ofV hof hsz⟩ m hn0
      have hb : i0.bytes * m ≤ 140737488355328 := Nat.le_trans (Nat.mul_le_mul hby hm) (by unfold lenBound; decide)
      simp only [Int.toNat_natCast, Int.ofNat_eq_natCast] at *
      refine runs_new h hdst hd hf hpin (x := .slice (some ⟨w.heap.size, 0, none⟩) m m) (w' := w.alloc (.cells ((Array.range (m * i0.size)).map fun i => x0.cells[i % x0.cells.size]!) e)) ?_ rfl rfl rfl _ e rfl ⟨i0.size, List.replicate m z⟩
        (ments_replicate (ment_noIds _ _ (ofV_noIds hof)) m) hcr (CV_sl_new (Nat.le_refl _) (by unfold maxLen; unfold lenBound at hm; omega) (by simp))
      have hw1 : IntKind.i64.wrap (m : Int) = m := by
        unfold lenBound at hm
        simp [IntKind.wrap, IntKind.bits, IntKind.signed]
        omega
      have hb1 : ¬ (281474976710656 < (i0.bytes : Int) * (m : Int)) := by
        rw [← Int.natCast_mul]; omega
      have hm0 : ¬ ((m : Int) < 0) := by omega
      by_cases hnz : m * i0.size = 0
      · have : m = 0 := by
          rcases Nat.mul_eq_zero.1 hnz with q | q
          · exact q
          · exact absurd q hn0
        subst this
        simp [execOp, hop, hxl, hxc, Instr.makeSlice, run_underlying hte, asInt, asIntOf, sizeOf, typeInfo, hie, newRow, IntKind.wrap, IntKind.bits, IntKind.signed, Array.range_zero']
      · simp [execOp, hop, hxl, hxc, Instr.makeSlice, run_underlying hte, asInt, asIntOf, sizeOf, typeInfo, hie, newRow, hw1, hb1, hm0, hnz, zeroValue, hx0]
    · cases he
  · cases he
end
end Go.Abs
