/- The abstract layer, merged part 3 of 5. -/
import Derived.Test.YtbeoijlggphklaaGreatDoorAbs2
set_option linter.unusedVariables false
set_option linter.unusedSimpArgs false
namespace Go.Abs
variable [GInv]

/-- The ids under which a function sees the blocks that it is handed. -/
def mid (k : Nat) : Nat := 1000000 + k

def plM (N : Nat) (p0 : Nat → Option Pl) (id : Nat) : Option Pl := if 1000000 ≤ id ∧ id < 1000000 + N then p0 (id - 1000000) else none
def flM (N : Nat) (F0 : Nat → List Nat) (id : Nat) : List Nat := if 1000000 ≤ id ∧ id < 1000000 + N then F0 (id - 1000000) else []

omit [GInv] in
theorem plM_mid {N k : Nat} (p0 : Nat → Option Pl) (h : k < N) : plM N p0 (mid k) = p0 k := by
  have e : mid k - 1000000 = k := by unfold mid; omega
  unfold plM; rw [if_pos (by unfold mid; omega), e]
omit [GInv] in
theorem flM_mid {N k : Nat} (F0 : Nat → List Nat) (h : k < N) : flM N F0 (mid k) = F0 k := by
  have e : mid k - 1000000 = k := by unfold mid; omega
  unfold flM; rw [if_pos (by unfold mid; omega), e]

/-- The places of the blocks that are still there at the end. -/
def stayK : List (Option Blk) → Nat → List Nat
  | [], _ => []
  | some _ :: l, k => k :: stayK l (k + 1)
  | none :: l, k => stayK l (k + 1)

omit [GInv] in
theorem mem_stayK : ∀ (l : List (Option Blk)) (k j : Nat), j ∈ stayK l k ↔ k ≤ j ∧ ∃ b, l[j - k]? = some (some b)
  | [], k, j => by simp [stayK]
  | some b :: l, k, j => by
    simp only [stayK, List.mem_cons, mem_stayK l (k + 1) j]
    constructor
    · rintro (rfl | ⟨h1, b', h2⟩)
      · exact ⟨Nat.le_refl _, b, by simp⟩
      · refine ⟨by omega, b', ?_⟩
        rw [show j - k = (j - (k + 1)) + 1 from by omega]; simpa using h2
    · rintro ⟨h1, b', h2⟩
      by_cases e : j = k
      · exact .inl e
      · refine .inr ⟨by omega, b', ?_⟩
        rw [show j - k = (j - (k + 1)) + 1 from by omega] at h2; simpa using h2
  | none :: l, k, j => by
    simp only [stayK, mem_stayK l (k + 1) j]
    constructor
    · rintro ⟨h1, b', h2⟩
      refine ⟨by omega, b', ?_⟩
      rw [show j - k = (j - (k + 1)) + 1 from by omega]; simpa using h2
    · rintro ⟨h1, b', h2⟩
      by_cases e : j = k
      · subst e; simp at h2
      · refine ⟨by omega, b', ?_⟩
        rw [show j - k = (j - (k + 1)) + 1 from by omega] at h2; simpa using h2

omit [GInv] in
theorem stayK_nodup : ∀ (l : List (Option Blk)) (k : Nat), (stayK l k).Nodup
  | [], k => List.nodup_nil
  | some b :: l, k => by
    simp only [stayK, List.nodup_cons, mem_stayK]
    exact ⟨fun h => by omega, stayK_nodup l (k + 1)⟩
  | none :: l, k => stayK_nodup l (k + 1)

/-- A function that writes the blocks H0 that it is handed, and leaves them as H1 says ('none': the block has gone). -/
def MCall (P : Program) (f : Nat) (H0 : List Blk) (args : List V) (res : V) (H1 : List (Option Blk)) : Prop :=
  callable P f = true ∧ H1.length = H0.length ∧ ∀ (w : World) (D : Nat → Prop) (xs : List Value) (p0 : Nat → Option Pl) (F0 : Nat → List Nat), (∀ b, D b → b < w.heap.size) → GInv.holds w D →
    (∀ k blk, H0[k]? = some blk → BlkOk w D (fun _ => p0 k) 0 blk (F0 k)) → ((List.range H0.length).flatMap F0).Nodup → (∀ b, b ∈ (List.range H0.length).flatMap F0 → ¬ D b ∧ b < w.heap.size) →
    CVs w D args (plM H0.length p0) xs [] →
    Calls P f xs.toArray w fun e w' => ∃ y D' fp F1, e = .returned y ∧ Grow w D ((List.range H0.length).flatMap F0) w' D' ∧ CV w' D' res (fun _ => none) y fp ∧
      (∀ k blk, H1[k]? = some (some blk) → BlkOk w' D' (fun _ => p0 k) 0 blk (F1 k)) ∧ (fp ++ (stayK H1 0).flatMap F1).Nodup ∧
      ∀ b, b ∈ fp ++ (stayK H1 0).flatMap F1 → (w.heap.size ≤ b ∨ b ∈ (List.range H0.length).flatMap F0) ∧ b < w'.heap.size ∧ ¬ D' b

/-- The same, where of the results and the blocks that stay behind only R is told. -/
def MCallR (P : Program) (f : Nat) (H0 : List Blk) (args : List V) (R : V → List Blk → Prop) : Prop :=
  callable P f = true ∧ ∀ (w : World) (D : Nat → Prop) (xs : List Value) (p0 : Nat → Option Pl) (F0 : Nat → List Nat), (∀ b, D b → b < w.heap.size) → GInv.holds w D →
    (∀ k blk, H0[k]? = some blk → BlkOk w D (fun _ => p0 k) 0 blk (F0 k)) → ((List.range H0.length).flatMap F0).Nodup → (∀ b, b ∈ (List.range H0.length).flatMap F0 → ¬ D b ∧ b < w.heap.size) →
    CVs w D args (plM H0.length p0) xs [] →
    Calls P f xs.toArray w fun e w' => ∃ res l, R res l ∧ l.length = H0.length ∧ ∃ y D' fp F1, e = .returned y ∧ Grow w D ((List.range H0.length).flatMap F0) w' D' ∧ CV w' D' res (fun _ => none) y fp ∧
      (∀ k blk, l[k]? = some blk → BlkOk w' D' (fun _ => p0 k) 0 blk (F1 k)) ∧ (fp ++ (List.range H0.length).flatMap F1).Nodup ∧
      ∀ b, b ∈ fp ++ (List.range H0.length).flatMap F1 → (w.heap.size ≤ b ∨ b ∈ (List.range H0.length).flatMap F0) ∧ b < w'.heap.size ∧ ¬ D' b

omit [GInv] in
theorem stayK_some : ∀ (l : List Blk) (k : Nat), stayK (l.map some) k = List.range' k l.length
  | [], k => rfl
  | b :: l, k => by simp [stayK, stayK_some l (k + 1), List.range'_succ]

omit [GInv] in
theorem BlkOk_noIds {w : World} {D : Nat → Prop} {φ φ' : Nat → Option Pl} {id id' : Nat} {blk : Blk} {f : List Nat} (hn : noIdss blk.es = true) (hφ : φ' id' = φ id) (h : BlkOk w D φ id blk f) : BlkOk w D φ' id' blk f := by
  rcases h with ⟨h1, h2, h3⟩ | ⟨p, arr, ty, f', h1, h2, h3, h4, h5, h6⟩
  · exact .inl ⟨hφ.trans h1, h2, h3⟩
  · exact .inr ⟨p, arr, ty, f', hφ.trans h1, h2, h3, h4, h5, CR_mono (fun _ hb => hb) _ _ _ _ _ _ (fun _ _ => rfl) (fun i hm => by rw [ments_noIds i _ hn] at hm; cases hm) h6⟩

/-! ### The caller's side -/

def idx? (M : List Nat) (id : Nat) : Option Nat := match M with
  | [] => none
  | m :: M => if m = id then some 0 else (idx? M id).map (· + 1)

omit [GInv] in
theorem idx?_some : ∀ (M : List Nat) (id k : Nat), idx? M id = some k → M[k]? = some id
  | [], id, k, h => by simp [idx?] at h
  | m :: M, id, k, h => by
    simp only [idx?] at h
    split at h
    · rename_i e; simp only [Option.some.injEq] at h; subst h; subst e; rfl
    · simp only [Option.map_eq_some_iff] at h
      obtain ⟨j, hj, rfl⟩ := h
      simpa using idx?_some M id j hj
omit [GInv] in
theorem idx?_none : ∀ (M : List Nat) (id : Nat), idx? M id = none → id ∉ M
  | [], id, h => by simp
  | m :: M, id, h => by
    simp only [idx?] at h
    split at h
    · cases h
    · rename_i e
      simp only [Option.map_eq_none_iff] at h
      simp only [List.mem_cons, not_or]
      exact ⟨fun e' => e e'.symm, idx?_none M id h⟩
omit [GInv] in
theorem idx?_get : ∀ (M : List Nat) (k id : Nat), M.Nodup → M[k]? = some id → idx? M id = some k
  | [], k, id, _, h => by simp at h
  | m :: M, k, id, hn, h => by
    simp only [List.nodup_cons] at hn
    cases k with
    | zero => simp at h; subst h; simp [idx?]
    | succ k =>
      simp only [List.getElem?_cons_succ] at h
      have hm : id ∈ M := (List.mem_iff_getElem?).2 ⟨k, h⟩
      have : m ≠ id := fun e => hn.1 (e ▸ hm)
      simp [idx?, this, idx?_get M k id hn.2 h]

def offM (M : List Nat) (hp : Nat → Option Blk) (id : Nat) : Option Blk := if (idx? M id).isSome then none else hp id

/-- A value of one cell that is handed to a function that may write the blocks M. -/
def lend0 (M : List Nat) (hp : Nat → Option Blk) (k : Nat) : V → V
  | .sl id i n => match idx? M id with | some j => .sl (mid j) i n | none => borrow (offM M hp) k (.sl id i n)
  | .ref id i j => match idx? M id with | some m => .ref (mid m) i j | none => borrow (offM M hp) k (.ref id i j)
  | v => borrow (offM M hp) k v

/-- A value that is handed to a function that may write the blocks M. -/
def lend (M : List Nat) (hp : Nat → Option Blk) : Nat → V → V
  | k + 1, .agg cs => .agg (cs.map (lend0 M hp k))
  | k, v => lend0 M hp k v

section
variable {X : Ctx} {s : St} {a : Act} {w : World} {D : Nat → Prop} {φ : Nat → Option Pl} {F : Nat → List Nat}

omit [GInv] in
theorem lend0_ok {D' : Nat → Prop} {M : List Nat} {hp : Nat → Option Blk} {k : Nat} {p0 : Nat → Option Pl} (hp0 : ∀ j id, M[j]? = some id → p0 j = φ id) (hD : ∀ b, D b → D' b) (hF : ∀ id b, id ∉ M → b ∈ F id → D' b)
    (hb : ∀ id blk, hp id = some blk → BlkOk w D φ id blk (F id)) (v : V) (x : Value) (h : CV w D v φ x []) : CV w D' (lend0 M hp k v) (plM M.length p0) x [] := by
  have hoff : ∀ id blk, offM M hp id = some blk → BlkOk w D φ id blk (if id ∈ M then [] else F id) := fun id blk hbl => by
    unfold offM at hbl
    split at hbl
    · cases hbl
    · rename_i hi
      have : id ∉ M := idx?_none M id (by simpa using hi)
      rw [if_neg this]; exact hb id blk hbl
  have plain : ∀ v, CV w D v φ x [] → CV w D' (borrow (offM M hp) k v) (plM M.length p0) x [] := fun v h => by
    have h1 := borrow_ok (F := fun id => if id ∈ M then [] else F id) hD (fun id b hbm => by
      split at hbm
      · cases hbm
      · rename_i hi; exact hF id b hi hbm) hoff k φ (.inl rfl) v x [] (by simp) h
    exact CV_mono (fun _ hb => hb) _ _ _ _ _ (fun _ _ => rfl) (fun id hm => by rw [ment_noIds id _ (borrow_noIds _ k v)] at hm; cases hm) h1
  have lt : ∀ j id, M[j]? = some id → j < M.length := fun j id hj => (List.getElem?_eq_some_iff.1 hj).1
  cases v with
  | sl id i n =>
    simp only [lend0]
    split
    · rename_i j hj
      have hj' := idx?_some M id j hj
      have e : plM M.length p0 (mid j) = φ id := by rw [plM_mid p0 (lt j id hj'), hp0 j id hj']
      simp only [CV] at h ⊢
      rw [e]; exact h
    · exact plain _ h
  | ref id i j =>
    simp only [lend0]
    split
    · rename_i m hm
      have hm' := idx?_some M id m hm
      have e : plM M.length p0 (mid m) = φ id := by rw [plM_mid p0 (lt m id hm'), hp0 m id hm']
      simp only [CV] at h ⊢
      rw [e]; exact h
    · exact plain _ h
  | _ => exact plain _ h

omit [GInv] in
theorem CVs_lend0 {D' : Nat → Prop} {M : List Nat} {hp : Nat → Option Blk} {k : Nat} {p0 : Nat → Option Pl} (hp0 : ∀ j id, M[j]? = some id → p0 j = φ id) (hD : ∀ b, D b → D' b) (hF : ∀ id b, id ∉ M → b ∈ F id → D' b)
    (hb : ∀ id blk, hp id = some blk → BlkOk w D φ id blk (F id)) : ∀ (vs : List V) (xs : List Value), CVs w D vs φ xs [] → CVs w D' (vs.map (lend0 M hp k)) (plM M.length p0) xs []
  | [], xs, h => by simpa [CVs] using h
  | v :: vs, xs, h => by
    simp only [CVs] at h
    obtain ⟨x, xs', f1, f2, rfl, hf, h1, h2⟩ := h
    obtain ⟨rfl, rfl⟩ := List.append_eq_nil_iff.1 hf.symm
    simp only [List.map_cons, CVs]
    exact ⟨x, xs', [], [], rfl, rfl, lend0_ok hp0 hD hF hb v x h1, CVs_lend0 hp0 hD hF hb vs xs' h2⟩

omit [GInv] in
theorem lend_ok {D' : Nat → Prop} {M : List Nat} {hp : Nat → Option Blk} {p0 : Nat → Option Pl} (hp0 : ∀ j id, M[j]? = some id → p0 j = φ id) (hD : ∀ b, D b → D' b) (hF : ∀ id b, id ∉ M → b ∈ F id → D' b)
    (hb : ∀ id blk, hp id = some blk → BlkOk w D φ id blk (F id)) : ∀ (k : Nat) (v : V) (x : Value), CV w D v φ x [] → CV w D' (lend M hp k v) (plM M.length p0) x []
  | k + 1, .agg cs, x, h => by
    simp only [CV, lend] at h ⊢
    obtain ⟨xs, h1, h2⟩ := h
    exact ⟨xs, h1, CVs_lend0 (k := k) hp0 hD hF hb cs _ h2⟩
  | 0, v, x, h => by simp only [lend]; exact lend0_ok hp0 hD hF hb v x h
  | k + 1, .undef, x, h | k + 1, .v _, x, h | k + 1, .ref _ _ _, x, h | k + 1, .sl _ _ _, x, h | k + 1, .rp _ _ _ _, x, h | k + 1, .ro _ _, x, h | k + 1, .own _ _, x, h | k + 1, .tup _, x, h | k + 1, .clo _ _, x, h => by
    simp only [lend]; exact lend0_ok hp0 hD hF hb _ x h

omit [GInv] in
theorem CVs_lend {D' : Nat → Prop} {M : List Nat} {hp : Nat → Option Blk} {k : Nat} {p0 : Nat → Option Pl} (hp0 : ∀ j id, M[j]? = some id → p0 j = φ id) (hD : ∀ b, D b → D' b) (hF : ∀ id b, id ∉ M → b ∈ F id → D' b)
    (hb : ∀ id blk, hp id = some blk → BlkOk w D φ id blk (F id)) : ∀ (vs : List V) (xs : List Value), CVs w D vs φ xs [] → CVs w D' (vs.map (lend M hp k)) (plM M.length p0) xs []
  | [], xs, h => by simpa [CVs] using h
  | v :: vs, xs, h => by
    simp only [CVs] at h
    obtain ⟨x, xs', f1, f2, rfl, hf, h1, h2⟩ := h
    obtain ⟨rfl, rfl⟩ := List.append_eq_nil_iff.1 hf.symm
    simp only [List.map_cons, CVs]
    exact ⟨x, xs', [], [], rfl, rfl, lend_ok hp0 hD hF hb k v x h1, CVs_lend hp0 hD hF hb vs xs' h2⟩

/-- The blocks behind the call. -/
def St.wrote (s : St) (M : List Nat) (H1 : List (Option Blk)) : St := { s with hp := fun id => match idx? M id with | some k => (H1[k]?).join | none => s.hp id }

omit [GInv] in
theorem range_flatMap (M : List Nat) (F : Nat → List Nat) : (List.range M.length).flatMap (fun k => F (M.getD k 0)) = M.flatMap F := by
  rw [← List.flatMap_map]
  congr 1
  apply List.ext_getElem?
  intro i
  by_cases h : i < M.length
  · simp [List.getD, h]
  · simp [h]

/-- The state behind the writing, with the result's blocks on their way. -/
theorem RelD.wrote (h : RelD X s a w D φ F []) {M : List Nat} (hM : M.Nodup) {H1 : List (Option Blk)} (hl : H1.length = M.length) {w' : World} {D' : Nat → Prop} {fp : List Nat} {F1 : Nat → List Nat} (hg : Grow w D (M.flatMap F) w' D')
    (hno : ∀ (k : Nat) (blk : Blk), H1[k]? = some (some blk) → noIdss blk.es = true) (hb : ∀ (k : Nat) (blk : Blk), H1[k]? = some (some blk) → BlkOk w' D' (fun _ => φ (M.getD k 0)) 0 blk (F1 k)) (hn : (fp ++ (stayK H1 0).flatMap F1).Nodup)
    (hf : ∀ b, b ∈ fp ++ (stayK H1 0).flatMap F1 → (w.heap.size ≤ b ∨ b ∈ M.flatMap F) ∧ b < w'.heap.size ∧ ¬ D' b) :
    RelD X (s.wrote M H1) a w' D' φ (fun id => match idx? M id with | some k => (match (H1[k]?).join with | some _ => F1 k | none => []) | none => F id) fp := by
  have ltM : ∀ k id, M[k]? = some id → k < M.length := fun k id hk => (List.getElem?_eq_some_iff.1 hk).1
  have getD : ∀ k id, M[k]? = some id → M.getD k 0 = id := fun k id hk => by simp [List.getD, hk]
  have inM : ∀ id k, idx? M id = some k → id ∈ M := fun id k hk => List.mem_iff_getElem?.2 ⟨k, idx?_some M id k hk⟩
  -- a block of the state that is not written stays
  have stays : ∀ b, (D b ∨ ∃ id, id ∉ M ∧ b ∈ F id) → w'.heap[b]? = w.heap[b]? := fun b hb => by
    refine hg.old b ?_ fun hm => ?_
    · rcases hb with hb | ⟨id, _, hb⟩
      · exact h.Dlt b hb
      · exact (h.notD id b hb).2.1
    · obtain ⟨j, hj, hbj⟩ := List.mem_flatMap.1 hm
      rcases hb with hb | ⟨id, hid, hb⟩
      · exact (h.notD j b hbj).1 hb
      · exact h.sep id j (fun e => hid (e ▸ hj)) b hb hbj
  have notD' : ∀ b, b < w.heap.size → b ∉ M.flatMap F → ¬ D b → ¬ D' b := fun b hb hm hn hd => by
    rcases hg.Ddn b hd with e | e | e
    · exact hn e
    · omega
    · exact hm e
  -- where the blocks of an id come from
  have from1 : ∀ id k, idx? M id = some k → ∀ b, b ∈ (match (H1[k]?).join with | some _ => F1 k | none => []) → k ∈ stayK H1 0 ∧ b ∈ F1 k := fun id k hk b hb => by
    split at hb
    · rename_i blk hbl
      refine ⟨(mem_stayK H1 0 k).2 ⟨Nat.zero_le _, blk, ?_⟩, hb⟩
      rw [Nat.sub_zero]
      cases hh : H1[k]? with
      | none => rw [hh] at hbl; cases hbl
      | some o => rw [hh] at hbl; simp only [Option.join_some] at hbl; rw [hbl]
    · cases hb
  have fresh1 : ∀ id k, idx? M id = some k → ∀ b, b ∈ (match (H1[k]?).join with | some _ => F1 k | none => []) → (w.heap.size ≤ b ∨ b ∈ M.flatMap F) ∧ b < w'.heap.size ∧ ¬ D' b := fun id k hk b hb => by
    have := from1 id k hk b hb
    exact hf b (List.mem_append_right _ (List.mem_flatMap.2 ⟨k, this.1, this.2⟩))
  have oldOk : ∀ b, (w.heap.size ≤ b ∨ b ∈ M.flatMap F) → X.w0.heap.size ≤ b ∨ b ∈ X.W := fun b hb => by
    rcases hb with hb | hb
    · exact .inl (Nat.le_trans h.size hb)
    · obtain ⟨j, _, hbj⟩ := List.mem_flatMap.1 hb
      exact (h.notD j b hbj).2.2
  have offM : ∀ id, id ∉ M → ∀ b, b ∈ F id → ¬ (w.heap.size ≤ b ∨ b ∈ M.flatMap F) := fun id hid b hb hx => by
    rcases hx with hx | hx
    · have := (h.notD id b hb).2.1; omega
    · obtain ⟨j, hj, hbj⟩ := List.mem_flatMap.1 hx
      exact h.sep id j (fun e => hid (e ▸ hj)) b hb hbj
  have n1 := List.nodup_append.1 hn
  have sep1 : ∀ (l : List Nat), l.Nodup → (l.flatMap F1).Nodup → (∀ k, k ∈ l → (F1 k).Nodup) ∧ ∀ k j, k ∈ l → j ∈ l → k ≠ j → ∀ b, b ∈ F1 k → b ∉ F1 j := by
    intro l
    induction l with
    | nil => exact fun _ _ => ⟨fun _ hk => absurd hk List.not_mem_nil, fun _ _ hk => absurd hk List.not_mem_nil⟩
    | cons m l ih =>
      intro hnd hfl
      rw [List.nodup_cons] at hnd
      rw [List.flatMap_cons, List.nodup_append] at hfl
      obtain ⟨g1, g2⟩ := ih hnd.2 hfl.2.1
      refine ⟨fun k hk => ?_, fun k j hk hj hne b hb hb' => ?_⟩
      · rcases List.mem_cons.1 hk with rfl | hk
        · exact hfl.1
        · exact g1 k hk
      · rcases List.mem_cons.1 hk with ek | hk1
        · rcases List.mem_cons.1 hj with ej | hj1
          · exact hne (ek.trans ej.symm)
          · exact hfl.2.2 b (ek ▸ hb) b (List.mem_flatMap.2 ⟨j, hj1, hb'⟩) rfl
        · rcases List.mem_cons.1 hj with ej | hj1
          · exact hfl.2.2 b (ej ▸ hb') b (List.mem_flatMap.2 ⟨k, hk1, hb⟩) rfl
          · exact g2 k j hk1 hj1 hne b hb hb'
  obtain ⟨g1, g2⟩ := sep1 (stayK H1 0) (stayK_nodup H1 0) n1.2.1
  refine { os := hg.os.trans h.os, tape := hg.tape.trans h.tape, output := hg.output.trans h.output, size := Nat.le_trans h.size hg.size, old := fun b hb hW => ?_, Dup := fun b hb => hg.Dup b (h.Dup b hb), Ddn := fun b hb => ?_, Dlt := hg.Dlt, defers := h.defers, ntmps := h.ntmps, slots := fun t => ?_, blks := fun id blk hbl => ?_, nob := fun id hid => ?_, nodup := fun id => ?_, sep := fun i j hij b hbi => ?_, notD := fun id b hbi => ?_, pins := h.pins, gnodup := n1.1, gsep := fun i b hbi hm => ?_, gnotD := fun b hbm => ?_, gi := GInv.mono h.gi hg.Dup fun b hb => stays b (.inl hb) }
  · rw [hg.old b (Nat.lt_of_lt_of_le hb h.size) fun hm => ?_]
    · exact h.old b hb hW
    · obtain ⟨j, _, hbj⟩ := List.mem_flatMap.1 hm
      rcases (h.notD j b hbj).2.2 with e | e
      · omega
      · exact hW e
  · rcases hg.Ddn b hb with e | e
    · exact h.Ddn b e
    · exact .inr (oldOk b e)
  · exact CV_mono hg.Dup _ _ _ _ _ (fun b hb => stays b (hb.elim .inl (by simp))) (fun _ _ => rfl) (h.slots t)
  · simp only [St.wrote] at hbl
    split at hbl
    · rename_i k hk
      have hbl' : H1[k]? = some (some blk) := by
        cases hh : H1[k]? with
        | none => rw [hh] at hbl; cases hbl
        | some o => rw [hh] at hbl; simp only [Option.join_some] at hbl; rw [hbl]
      have hid := idx?_some M id k hk
      have := hb k blk hbl'
      rw [getD k id hid] at this
      simp only [hbl', Option.join_some]
      exact BlkOk_noIds (φ := fun _ => φ id) (id := 0) (hno k blk hbl') rfl this
    · rename_i hk
      have hid := idx?_none M id hk
      rcases h.blks id blk hbl with e | ⟨p, arr, ty, f', h1, h2, h3, h4, h5, h6⟩
      · exact .inl e
      · refine .inr ⟨p, arr, ty, f', h1, h2, h3, ?_, h5, CR_mono hg.Dup _ _ _ _ _ _ (fun b hb' => stays b (hb'.imp (fun hx => hx) fun hm => ⟨_, hid, by rw [h5]; exact List.mem_cons_of_mem _ hm⟩)) (fun _ _ => rfl) h6⟩
        exact h4.congr (stays p.b (.inr ⟨_, hid, by rw [h5]; exact List.mem_cons_self⟩))
  · simp only [St.wrote] at hid
    split at hid
    · rename_i k hk; simp only [hid]
    · exact h.nob id hid
  · show (match idx? M id with | some k => (match (H1[k]?).join with | some _ => F1 k | none => []) | none => F id).Nodup
    split
    · rename_i k hk
      split
      · rename_i blk hbl
        refine g1 k ((mem_stayK H1 0 k).2 ⟨Nat.zero_le _, blk, ?_⟩)
        rw [Nat.sub_zero]
        cases hh : H1[k]? with
        | none => rw [hh] at hbl; cases hbl
        | some o => rw [hh] at hbl; simp only [Option.join_some] at hbl; rw [hbl]
      · exact List.nodup_nil
    · exact h.nodup id
  · intro hbj
    cases hi : idx? M i with
    | some ki =>
      rw [hi] at hbi
      cases hj : idx? M j with
      | some kj =>
        rw [hj] at hbj
        have a1 := from1 i ki hi b hbi
        have a2 := from1 j kj hj b hbj
        refine g2 ki kj a1.1 a2.1 (fun e => hij ?_) b a1.2 a2.2
        have e1 := idx?_some M i ki hi
        have e2 := idx?_some M j kj hj
        rw [e, e2] at e1; exact (Option.some.inj e1).symm
      | none =>
        rw [hj] at hbj
        exact offM j (idx?_none M j hj) b hbj (fresh1 i ki hi b hbi).1
    | none =>
      rw [hi] at hbi
      cases hj : idx? M j with
      | some kj =>
        rw [hj] at hbj
        exact offM i (idx?_none M i hi) b hbi (fresh1 j kj hj b hbj).1
      | none =>
        rw [hj] at hbj
        exact h.sep i j hij b hbi hbj
  · cases hi : idx? M id with
    | some ki =>
      rw [hi] at hbi
      have := fresh1 id ki hi b hbi
      exact ⟨this.2.2, this.2.1, oldOk b this.1⟩
    | none =>
      rw [hi] at hbi
      have := h.notD id b hbi
      exact ⟨notD' b this.2.1 (fun hm => offM id (idx?_none M id hi) b hbi (.inr hm)) this.1, Nat.lt_of_lt_of_le this.2.1 hg.size, this.2.2⟩
  · cases hi : idx? M i with
    | some ki =>
      rw [hi] at hbi
      have a1 := from1 i ki hi b hbi
      exact n1.2.2 b hm b (List.mem_flatMap.2 ⟨ki, a1.1, a1.2⟩) rfl
    | none =>
      rw [hi] at hbi
      exact offM i (idx?_none M i hi) b hbi (hf b (List.mem_append_left _ hm)).1
  · have := hf b (List.mem_append_left _ hbm)
    exact ⟨this.2.2, this.2.1, oldOk b this.1⟩

/-- THE RULE OF A CALL OF A FUNCTION THAT WRITES. -/
theorem mcall_ok {P : Program} {f d k : Nat} {vs : List V} {res : V} {xs : List Value} {M : List Nat} {H0 : List Blk} {H1 : List (Option Blk)} (hP : MCall P f H0 (vs.map (lend M s.hp k)) res H1) (h : Rel X s a w)
    (hM : M.Nodup) (hH : M.map s.hp = H0.map some) (hn0 : ∀ blk ∈ H0, noIdss blk.es = true) (hn1 : ∀ (j : Nat) (blk : Blk), H1[j]? = some (some blk) → noIdss blk.es = true)
    (hv : ∀ D φ F, RelD X s a w D φ F [] → CVs w D vs φ xs []) (hd : d < X.n) (hres : resOk res = true) (hro : noRo res = true) (hro1 : ∀ (j : Nat) (blk : Blk), H1[j]? = some (some blk) → noRos blk.es = true)
    (hf : ∀ i, i < (take d 0 res).2.2 → Fresh (s.wrote M H1) (d + 1000 * i) ∧ d + 1000 * i ∉ X.pin) :
    Calls P f xs.toArray w fun e w' => ∃ y, e = .returned y ∧ Rel X ((s.wrote M H1).took d res) (a.put (some d) y) w' := by
  obtain ⟨D, φ, F, h⟩ := h
  have hvs := hv D φ F h
  have hlen : H0.length = M.length := by
    have := congrArg List.length hH
    simpa using this.symm
  have get : ∀ (j : Nat) (blk : Blk), H0[j]? = some blk → ∃ id, M[j]? = some id ∧ s.hp id = some blk := fun j blk hj => by
    have h1 : (M.map s.hp)[j]? = some (some blk) := by rw [hH]; simp [hj]
    rw [List.getElem?_map, Option.map_eq_some_iff] at h1
    exact h1
  -- what the callee may not read or write: only the blocks of M
  let D2 : Nat → Prop := fun b => b < w.heap.size ∧ b ∉ M.flatMap F
  have hD2 : ∀ b, D b → D2 b := fun b hb => ⟨h.Dlt b hb, fun hm => by
    obtain ⟨j, _, hbj⟩ := List.mem_flatMap.1 hm
    exact (h.notD j b hbj).1 hb⟩
  have hargs := CVs_lend (M := M) (hp := s.hp) (k := k) (p0 := fun j => φ (M.getD j 0)) (D' := D2) (fun j id hj => by simp [List.getD, hj]) hD2
    (fun id b hid hb => ⟨(h.notD id b hb).2.1, fun hm => by
      obtain ⟨j, hj, hbj⟩ := List.mem_flatMap.1 hm
      exact h.sep id j (fun e => hid (e ▸ hj)) b hb hbj⟩) h.blks vs xs hvs
  have hfm : (List.range H0.length).flatMap (fun j => F (M.getD j 0)) = M.flatMap F := by rw [hlen]; exact range_flatMap M F
  have hl1 : H1.length = M.length := hP.2.1.trans hlen
  have hcall := hP.2.2 w D2 xs (fun j => φ (M.getD j 0)) (fun j => F (M.getD j 0)) (fun b hb => hb.1) (GInv.mono h.gi hD2 fun _ _ => rfl) (fun j blk hj => by
    obtain ⟨id, hid, hbl⟩ := get j blk hj
    have e : M.getD j 0 = id := by simp [List.getD, hid]
    rw [e]
    have hno := hn0 blk (List.mem_iff_getElem?.2 ⟨j, hj⟩)
    rcases h.blks id blk hbl with g | ⟨p, arr, ty, f', h1, h2, h3, h4, h5, h6⟩
    · exact .inl g
    · exact .inr ⟨p, arr, ty, f', h1, h2, h3, h4, h5, CR_mono hD2 _ _ _ _ _ _ (fun _ _ => rfl) (fun i hm => by rw [ments_noIds i _ hno] at hm; cases hm) h6⟩)
    (by rw [hfm]; exact flatMap_nodup h M hM) (fun b hb => by
      rw [hfm] at hb
      obtain ⟨j, _, hbj⟩ := List.mem_flatMap.1 hb
      exact ⟨fun hx => hx.2 hb, (h.notD j b hbj).2.1⟩) (by rw [hlen]; exact hargs)
  refine hcall.mono ?_
  rintro e w' ⟨y, D', fp, F1, rfl, hg, hc, hb1, hnd, hfr⟩
  rw [hfm] at hg hfr
  refine ⟨y, rfl, ?_⟩
  -- back to what the caller may read
  let D3 : Nat → Prop := fun b => D b ∨ (w.heap.size ≤ b ∧ D' b)
  have hg3 : Grow w D (M.flatMap F) w' D3 :=
    { hg with Dup := fun b hb => .inl hb, Ddn := fun b hb => hb.imp (fun hx => hx) fun h => .inl h.1, Dlt := fun b hb => hb.elim (fun hb => Nat.lt_of_lt_of_le (h.Dlt b hb) hg.size) (fun hb => hg.Dlt b hb.2) }
  have hfr3 : ∀ b, b ∈ fp ++ (stayK H1 0).flatMap F1 → (w.heap.size ≤ b ∨ b ∈ M.flatMap F) ∧ b < w'.heap.size ∧ ¬ D3 b := fun b hb => by
    have := hfr b hb
    refine ⟨this.1, this.2.1, fun hx => ?_⟩
    rcases hx with hx | hx
    · exact this.2.2 (hg.Dup b (hD2 b hx))
    · exact this.2.2 hx.2
  have hw := h.wrote hM hl1 (fp := fp) (F1 := F1) hg3 hn1 (fun j blk hj => by
    rcases hb1 j blk hj with g | ⟨p, arr, ty, f', h1, h2, h3, h4, h5, h6⟩
    · exact .inl g
    · refine .inr ⟨p, arr, ty, f', h1, h2, h3, h4, h5, ?_⟩
      exact CR_noRo _ blk.es _ _ _ (hro1 j blk hj) h6) hnd hfr3
  have hc3 : CV w' D3 res (fun _ => none) y fp := CV_noRo res _ _ _ hro hc
  rw [← List.append_nil fp] at hw
  obtain ⟨φ', F', t1, t2, _⟩ := take_ok (d := d) res 0 (s.wrote M H1) φ _ y fp [] hres hw hc3 (fun i _ hi => hf i hi)
  exact ⟨D3, φ', F', t1.rel.put d hd _ _ t2⟩
/-- The same, where only R is told. -/
theorem mcallR_ok {P : Program} {f d k : Nat} {vs : List V} {xs : List Value} {M : List Nat} {H0 : List Blk} {R : V → List Blk → Prop} (hP : MCallR P f H0 (vs.map (lend M s.hp k)) R) (h : Rel X s a w)
    (hM : M.Nodup) (hH : M.map s.hp = H0.map some) (hn0 : ∀ blk ∈ H0, noIdss blk.es = true) (hv : ∀ D φ F, RelD X s a w D φ F [] → CVs w D vs φ xs []) (hd : d < X.n)
    (hR : ∀ res l, R res l → l.length = H0.length → resOk res = true ∧ noRo res = true ∧ (∀ (j : Nat) (blk : Blk), (l.map some)[j]? = some (some blk) → noIdss blk.es = true ∧ noRos blk.es = true) ∧
      ∀ i, i < (take d 0 res).2.2 → Fresh (s.wrote M (l.map some)) (d + 1000 * i) ∧ d + 1000 * i ∉ X.pin) :
    Calls P f xs.toArray w fun e w' => ∃ y res l, R res l ∧ l.length = H0.length ∧ e = .returned y ∧ Rel X ((s.wrote M (l.map some)).took d res) (a.put (some d) y) w' := by
  obtain ⟨D, φ, F, h⟩ := h
  have hvs := hv D φ F h
  have hlen : H0.length = M.length := by
    have := congrArg List.length hH
    simpa using this.symm
  have get : ∀ (j : Nat) (blk : Blk), H0[j]? = some blk → ∃ id, M[j]? = some id ∧ s.hp id = some blk := fun j blk hj => by
    have h1 : (M.map s.hp)[j]? = some (some blk) := by rw [hH]; simp [hj]
    rw [List.getElem?_map, Option.map_eq_some_iff] at h1
    exact h1
  -- what the callee may not read or write: only the blocks of M
  let D2 : Nat → Prop := fun b => b < w.heap.size ∧ b ∉ M.flatMap F
  have hD2 : ∀ b, D b → D2 b := fun b hb => ⟨h.Dlt b hb, fun hm => by
    obtain ⟨j, _, hbj⟩ := List.mem_flatMap.1 hm
    exact (h.notD j b hbj).1 hb⟩
  have hargs := CVs_lend (M := M) (hp := s.hp) (k := k) (p0 := fun j => φ (M.getD j 0)) (D' := D2) (fun j id hj => by simp [List.getD, hj]) hD2
    (fun id b hid hb => ⟨(h.notD id b hb).2.1, fun hm => by
      obtain ⟨j, hj, hbj⟩ := List.mem_flatMap.1 hm
      exact h.sep id j (fun e => hid (e ▸ hj)) b hb hbj⟩) h.blks vs xs hvs
  have hfm : (List.range H0.length).flatMap (fun j => F (M.getD j 0)) = M.flatMap F := by rw [hlen]; exact range_flatMap M F
  have hcall := hP.2 w D2 xs (fun j => φ (M.getD j 0)) (fun j => F (M.getD j 0)) (fun b hb => hb.1) (GInv.mono h.gi hD2 fun _ _ => rfl) (fun j blk hj => by
    obtain ⟨id, hid, hbl⟩ := get j blk hj
    have e : M.getD j 0 = id := by simp [List.getD, hid]
    rw [e]
    have hno := hn0 blk (List.mem_iff_getElem?.2 ⟨j, hj⟩)
    rcases h.blks id blk hbl with g | ⟨p, arr, ty, f', h1, h2, h3, h4, h5, h6⟩
    · exact .inl g
    · exact .inr ⟨p, arr, ty, f', h1, h2, h3, h4, h5, CR_mono hD2 _ _ _ _ _ _ (fun _ _ => rfl) (fun i hm => by rw [ments_noIds i _ hno] at hm; cases hm) h6⟩)
    (by rw [hfm]; exact flatMap_nodup h M hM) (fun b hb => by
      rw [hfm] at hb
      obtain ⟨j, _, hbj⟩ := List.mem_flatMap.1 hb
      exact ⟨fun hx => hx.2 hb, (h.notD j b hbj).2.1⟩) (by rw [hlen]; exact hargs)
  refine hcall.mono ?_
  rintro e w' ⟨res, l, hRR, hll, y, D', fp, F1, rfl, hg, hc, hb1', hnd, hfr⟩
  obtain ⟨hres, hro, hbs, hf⟩ := hR res l hRR hll
  have hst : stayK (l.map some) 0 = List.range H0.length := by rw [stayK_some, hll, List.range_eq_range']
  have hl1 : (l.map some).length = M.length := by rw [List.length_map, hll, hlen]
  have hn1 : ∀ (j : Nat) (blk : Blk), (l.map some)[j]? = some (some blk) → noIdss blk.es = true := fun j blk hj => (hbs j blk hj).1
  have hro1 : ∀ (j : Nat) (blk : Blk), (l.map some)[j]? = some (some blk) → noRos blk.es = true := fun j blk hj => (hbs j blk hj).2
  have hb1 : ∀ k blk, (l.map some)[k]? = some (some blk) → BlkOk w' D' (fun _ => φ (M.getD k 0)) 0 blk (F1 k) := fun k blk hk => hb1' k blk (by rw [List.getElem?_map] at hk; cases hlk : l[k]? <;> simp_all)
  rw [← hst] at hnd hfr
  rw [hst] at hfr
  rw [hfm] at hg hfr
  rw [← hst] at hfr
  refine ⟨y, res, l, hRR, hll, rfl, ?_⟩
  -- back to what the caller may read
  let D3 : Nat → Prop := fun b => D b ∨ (w.heap.size ≤ b ∧ D' b)
  have hg3 : Grow w D (M.flatMap F) w' D3 :=
    { hg with Dup := fun b hb => .inl hb, Ddn := fun b hb => hb.imp (fun hx => hx) fun h => .inl h.1, Dlt := fun b hb => hb.elim (fun hb => Nat.lt_of_lt_of_le (h.Dlt b hb) hg.size) (fun hb => hg.Dlt b hb.2) }
  have hfr3 : ∀ b, b ∈ fp ++ (stayK (l.map some) 0).flatMap F1 → (w.heap.size ≤ b ∨ b ∈ M.flatMap F) ∧ b < w'.heap.size ∧ ¬ D3 b := fun b hb => by
    have := hfr b hb
    refine ⟨this.1, this.2.1, fun hx => ?_⟩
    rcases hx with hx | hx
    · exact this.2.2 (hg.Dup b (hD2 b hx))
    · exact this.2.2 hx.2
  have hw := h.wrote hM hl1 (fp := fp) (F1 := F1) hg3 hn1 (fun j blk hj => by
    rcases hb1 j blk hj with g | ⟨p, arr, ty, f', h1, h2, h3, h4, h5, h6⟩
    · exact .inl g
    · refine .inr ⟨p, arr, ty, f', h1, h2, h3, h4, h5, ?_⟩
      exact CR_noRo _ blk.es _ _ _ (hro1 j blk hj) h6) hnd hfr3
  have hc3 : CV w' D3 res (fun _ => none) y fp := CV_noRo res _ _ _ hro hc
  rw [← List.append_nil fp] at hw
  obtain ⟨φ', F', t1, t2, _⟩ := take_ok (d := d) res 0 (s.wrote M (l.map some)) φ _ y fp [] hres hw hc3 (fun i _ hi => hf i hi)
  exact ⟨D3, φ', F', t1.rel.put d hd _ _ t2⟩

/-! ### Calls behind which blocks have sunk into memory that nobody writes: what comes back may hold what was read -/
def onlyZ (Z : List Nat) (hp : Nat → Option Blk) (id : Nat) : Option Blk := if id ∈ Z then hp id else none
def St.sunk (s : St) (Z : List Nat) : St := { s with hp := fun id => if id ∈ Z then none else s.hp id }

theorem RelD.sunk {G : List Nat} (h : RelD X s a w D φ F G) (Z : List Nat) : RelD X (s.sunk Z) a w (fun b => D b ∨ ∃ z, z ∈ Z ∧ b ∈ F z) φ (fun k => if k ∈ Z then [] else F k) G := by
  have sub : ∀ k b, b ∈ (if k ∈ Z then [] else F k) → k ∉ Z ∧ b ∈ F k := fun k b hb => by
    split at hb
    · cases hb
    · rename_i e; exact ⟨e, hb⟩
  have mono : ∀ (v : V) (x : Value) (fp : List Nat), CV w D v φ x fp → CV w (fun b => D b ∨ ∃ z, z ∈ Z ∧ b ∈ F z) v φ x fp := fun v x fp hv => CV_mono (fun _ h => .inl h) v φ φ x fp (fun _ _ => rfl) (fun _ _ => rfl) hv
  refine { h with Dup := fun b hb => .inl (h.Dup b hb), Ddn := fun b hb => ?_, Dlt := fun b hb => ?_, slots := fun t => mono _ _ _ (h.slots t), blks := fun id b hb' => ?_, nob := fun id hid => ?_, nodup := fun id => ?_, sep := fun k k' hkk b hb1 hb2 => ?_, notD := fun id b hb1 => ?_, gsep := fun k b hb1 => ?_, gnotD := fun b hb1 => ?_, gi := GInv.mono h.gi (fun _ h => .inl h) fun _ _ => rfl }
  · rcases hb with hb | ⟨z, _, hb⟩
    · exact h.Ddn b hb
    · exact .inr (h.notD z b hb).2.2
  · rcases hb with hb | ⟨z, _, hb⟩
    · exact h.Dlt b hb
    · exact (h.notD z b hb).2.1
  · simp only [St.sunk] at hb'
    split at hb'
    · cases hb'
    · rename_i e
      rw [if_neg e]
      rcases h.blks id b hb' with h0 | ⟨p, arr, ty, f', h1, h2, h3, h4, h5, h6⟩
      · exact .inl h0
      · exact .inr ⟨p, arr, ty, f', h1, h2, h3, h4, h5, CR_mono (fun _ h => .inl h) _ _ _ _ _ _ (fun _ _ => rfl) (fun _ _ => rfl) h6⟩
  · simp only [St.sunk] at hid
    split
    · rfl
    · rename_i e
      rw [if_neg e] at hid
      exact h.nob id hid
  · split
    · exact List.nodup_nil
    · exact h.nodup id
  · obtain ⟨_, g1⟩ := sub k b hb1
    obtain ⟨_, g2⟩ := sub k' b hb2
    exact h.sep k k' hkk b g1 g2
  · obtain ⟨g0, g1⟩ := sub id b hb1
    have := h.notD id b g1
    refine ⟨fun hd => ?_, this.2⟩
    rcases hd with hd | ⟨z, hz, hd⟩
    · exact this.1 hd
    · exact h.sep id z (fun e => g0 (e ▸ hz)) b g1 hd
  · obtain ⟨_, g1⟩ := sub k b hb1
    exact h.gsep k b g1
  · have := h.gnotD b hb1
    refine ⟨fun hd => ?_, this.2⟩
    rcases hd with hd | ⟨z, _, hd⟩
    · exact this.1 hd
    · exact h.gsep z b hd hb1

omit [GInv] in
theorem CVs_lendZ {M Z : List Nat} {hp : Nat → Option Blk} {k : Nat} {p0 : Nat → Option Pl} (hp0 : ∀ j id, M[j]? = some id → p0 j = φ id) (hb : ∀ id blk, hp id = some blk → BlkOk w D φ id blk (F id)) (vs : List V) (xs : List Value) (h : CVs w D vs φ xs []) :
    CVs w (fun b => D b ∨ ∃ z, z ∈ Z ∧ b ∈ F z) (vs.map (lend M (onlyZ Z hp) k)) (plM M.length p0) xs [] := by
  refine CVs_lend (F := fun id => if id ∈ Z then F id else []) hp0 (fun _ h => .inl h) (fun id b _ hb => ?_) (fun id blk hbl => ?_) vs xs h
  · split at hb
    · rename_i hz; exact .inr ⟨id, hz, hb⟩
    · cases hb
  · unfold onlyZ at hbl
    split at hbl
    · rename_i hz; rw [if_pos hz]; exact hb id blk hbl
    · cases hbl

/-- The rule of such a call. -/
theorem mcall_okZ {P : Program} {f d k : Nat} {vs : List V} {res : V} {xs : List Value} {M Z : List Nat} {H0 : List Blk} {H1 : List (Option Blk)} (hP : MCall P f H0 (vs.map (lend M (onlyZ Z s.hp) k)) res H1) (h : Rel X s a w)
    (hM : M.Nodup) (hMZ : ∀ z ∈ Z, z ∉ M) (hH : M.map s.hp = H0.map some) (hn0 : ∀ blk ∈ H0, noIdss blk.es = true) (hn1 : ∀ (j : Nat) (blk : Blk), H1[j]? = some (some blk) → noIdss blk.es = true)
    (hv : ∀ D φ F, RelD X s a w D φ F [] → CVs w D vs φ xs []) (hd : d < X.n) (hres : resOk res = true)
    (hf : ∀ i, i < (take d 0 res).2.2 → Fresh ((s.sunk Z).wrote M H1) (d + 1000 * i) ∧ d + 1000 * i ∉ X.pin) :
    Calls P f xs.toArray w fun e w' => ∃ y, e = .returned y ∧ Rel X (((s.sunk Z).wrote M H1).took d res) (a.put (some d) y) w' := by
  obtain ⟨D0, φ, F0, h0⟩ := h
  have hvs := hv D0 φ F0 h0
  have hargs := CVs_lendZ (w := w) (D := D0) (F := F0) (M := M) (Z := Z) (hp := s.hp) (k := k) (p0 := fun j => φ (M.getD j 0)) (fun j id hj => by simp [List.getD, hj]) h0.blks vs xs hvs
  have h := h0.sunk Z
  have hlen : H0.length = M.length := by
    have := congrArg List.length hH
    simpa using this.symm
  have get : ∀ (j : Nat) (blk : Blk), H0[j]? = some blk → ∃ id, M[j]? = some id ∧ (s.sunk Z).hp id = some blk := fun j blk hj => by
    have h1 : (M.map s.hp)[j]? = some (some blk) := by rw [hH]; simp [hj]
    rw [List.getElem?_map, Option.map_eq_some_iff] at h1
    obtain ⟨id, h2, h3⟩ := h1
    refine ⟨id, h2, ?_⟩
    have : id ∉ Z := fun hz => hMZ id hz (List.mem_iff_getElem?.2 ⟨j, h2⟩)
    simp only [St.sunk, if_neg this]; exact h3
  generalize (fun b => D0 b ∨ ∃ z, z ∈ Z ∧ b ∈ F0 z) = D at h hargs
  generalize (fun k => if k ∈ Z then [] else F0 k) = F at h
  have hfm : (List.range H0.length).flatMap (fun j => F (M.getD j 0)) = M.flatMap F := by rw [hlen]; exact range_flatMap M F
  have hl1 : H1.length = M.length := hP.2.1.trans hlen
  have hcall := hP.2.2 w D xs (fun j => φ (M.getD j 0)) (fun j => F (M.getD j 0)) h.Dlt h.gi (fun j blk hj => by
    obtain ⟨id, hid, hbl⟩ := get j blk hj
    have e : M.getD j 0 = id := by simp [List.getD, hid]
    rw [e]
    exact BlkOk_noIds (φ := φ) (id := id) (hn0 blk (List.mem_iff_getElem?.2 ⟨j, hj⟩)) rfl (h.blks id blk hbl))
    (by rw [hfm]; exact flatMap_nodup h M hM) (fun b hb => by
      rw [hfm] at hb
      obtain ⟨j, _, hbj⟩ := List.mem_flatMap.1 hb
      exact ⟨(h.notD j b hbj).1, (h.notD j b hbj).2.1⟩) (by rw [hlen]; exact hargs)
  refine hcall.mono ?_
  rintro e w' ⟨y, D', fp, F1, rfl, hg, hc, hb1, hnd, hfr⟩
  rw [hfm] at hg hfr
  refine ⟨y, rfl, ?_⟩
  have hw := h.wrote hM hl1 (fp := fp) (F1 := F1) hg hn1 hb1 hnd hfr
  rw [← List.append_nil fp] at hw
  obtain ⟨φ', F', t1, t2, _⟩ := take_ok (d := d) res 0 ((s.sunk Z).wrote M H1) φ _ y fp [] hres hw hc (fun i _ hi => hf i hi)
  exact ⟨D', φ', F', t1.rel.put d hd _ _ t2⟩
/-- The same, where only R is told. -/
theorem mcallR_okZ {P : Program} {f d k : Nat} {vs : List V} {xs : List Value} {M Z : List Nat} {H0 : List Blk} {R : V → List Blk → Prop} (hP : MCallR P f H0 (vs.map (lend M (onlyZ Z s.hp) k)) R) (h : Rel X s a w)
    (hM : M.Nodup) (hMZ : ∀ z ∈ Z, z ∉ M) (hH : M.map s.hp = H0.map some) (hn0 : ∀ blk ∈ H0, noIdss blk.es = true) (hv : ∀ D φ F, RelD X s a w D φ F [] → CVs w D vs φ xs []) (hd : d < X.n)
    (hR : ∀ res l, R res l → l.length = H0.length → resOk res = true ∧ (∀ (j : Nat) (blk : Blk), (l.map some)[j]? = some (some blk) → noIdss blk.es = true) ∧
      ∀ i, i < (take d 0 res).2.2 → Fresh ((s.sunk Z).wrote M (l.map some)) (d + 1000 * i) ∧ d + 1000 * i ∉ X.pin) :
    Calls P f xs.toArray w fun e w' => ∃ y res l, R res l ∧ l.length = H0.length ∧ e = .returned y ∧ Rel X (((s.sunk Z).wrote M (l.map some)).took d res) (a.put (some d) y) w' := by
  obtain ⟨D0, φ, F0, h0⟩ := h
  have hvs := hv D0 φ F0 h0
  have hargs := CVs_lendZ (w := w) (D := D0) (F := F0) (M := M) (Z := Z) (hp := s.hp) (k := k) (p0 := fun j => φ (M.getD j 0)) (fun j id hj => by simp [List.getD, hj]) h0.blks vs xs hvs
  have h := h0.sunk Z
  have hlen : H0.length = M.length := by
    have := congrArg List.length hH
    simpa using this.symm
  have get : ∀ (j : Nat) (blk : Blk), H0[j]? = some blk → ∃ id, M[j]? = some id ∧ (s.sunk Z).hp id = some blk := fun j blk hj => by
    have h1 : (M.map s.hp)[j]? = some (some blk) := by rw [hH]; simp [hj]
    rw [List.getElem?_map, Option.map_eq_some_iff] at h1
    obtain ⟨id, h2, h3⟩ := h1
    refine ⟨id, h2, ?_⟩
    have : id ∉ Z := fun hz => hMZ id hz (List.mem_iff_getElem?.2 ⟨j, h2⟩)
    simp only [St.sunk, if_neg this]; exact h3
  generalize (fun b => D0 b ∨ ∃ z, z ∈ Z ∧ b ∈ F0 z) = D at h hargs
  generalize (fun k => if k ∈ Z then [] else F0 k) = F at h
  have hfm : (List.range H0.length).flatMap (fun j => F (M.getD j 0)) = M.flatMap F := by rw [hlen]; exact range_flatMap M F
  have hcall := hP.2 w D xs (fun j => φ (M.getD j 0)) (fun j => F (M.getD j 0)) h.Dlt h.gi (fun j blk hj => by
    obtain ⟨id, hid, hbl⟩ := get j blk hj
    have e : M.getD j 0 = id := by simp [List.getD, hid]
    rw [e]
    exact BlkOk_noIds (φ := φ) (id := id) (hn0 blk (List.mem_iff_getElem?.2 ⟨j, hj⟩)) rfl (h.blks id blk hbl))
    (by rw [hfm]; exact flatMap_nodup h M hM) (fun b hb => by
      rw [hfm] at hb
      obtain ⟨j, _, hbj⟩ := List.mem_flatMap.1 hb
      exact ⟨(h.notD j b hbj).1, (h.notD j b hbj).2.1⟩) (by rw [hlen]; exact hargs)
  refine hcall.mono ?_
  rintro e w' ⟨res, l, hRR, hll, y, D', fp, F1, rfl, hg, hc, hb1', hnd, hfr⟩
  obtain ⟨hres, hn1, hf⟩ := hR res l hRR hll
  have hst : stayK (l.map some) 0 = List.range H0.length := by rw [stayK_some, hll, List.range_eq_range']
  have hl1 : (l.map some).length = M.length := by rw [List.length_map, hll, hlen]
  have hb1 : ∀ k blk, (l.map some)[k]? = some (some blk) → BlkOk w' D' (fun _ => φ (M.getD k 0)) 0 blk (F1 k) := fun k blk hk => hb1' k blk (by rw [List.getElem?_map] at hk; cases hlk : l[k]? <;> simp_all)
  rw [← hst] at hnd hfr
  rw [hst] at hfr
  rw [hfm] at hg hfr
  rw [← hst] at hfr
  refine ⟨y, res, l, hRR, hll, rfl, ?_⟩
  have hw := h.wrote hM hl1 (fp := fp) (F1 := F1) hg hn1 hb1 hnd hfr
  rw [← List.append_nil fp] at hw
  obtain ⟨φ', F', t1, t2, _⟩ := take_ok (d := d) res 0 ((s.sunk Z).wrote M (l.map some)) φ _ y fp [] hres hw hc (fun i _ hi => hf i hi)
  exact ⟨D', φ', F', t1.rel.put d hd _ _ t2⟩
end
end Go.Abs

set_option linter.unusedVariables false
set_option linter.unusedSimpArgs false
namespace Go.Abs
variable [GInv]

def lk : List (Nat × V) → Nat → V
  | [], _ => .undef
  | (k, v) :: l, i => if i = k then v else lk l i

def lkb : List (Nat × Blk) → Nat → Option Blk
  | [], _ => none
  | (k, b) :: l, i => if i = k then some b else lkb l i

def rmb (i : Nat) : List (Nat × Blk) → List (Nat × Blk)
  | [] => []
  | (k, b) :: l => if k = i then rmb i l else (k, b) :: rmb i l

structure AS where
  sl : List (Nat × V)
  hp : List (Nat × Blk)
  pin : List Nat

def AS.den (s : AS) : St := { sl := lk s.sl, hp := lkb s.hp }

def AS.ev (s : AS) : X → V
  | .t n => lk s.sl n
  | .k v => v

omit [GInv] in
theorem AS.ev_eq (s : AS) : s.den.ev = s.ev := by
  funext x; cases x <;> rfl

omit [GInv] in
theorem lk_cons (k : Nat) (v : V) (l : List (Nat × V)) : lk ((k, v) :: l) = upd (lk l) k v := by
  funext i; simp [lk, upd]

omit [GInv] in
theorem lkb_cons (k : Nat) (b : Blk) (l : List (Nat × Blk)) : lkb ((k, b) :: l) = upd (lkb l) k (some b) := by
  funext i; simp [lkb, upd]

omit [GInv] in
theorem lkb_rmb (k : Nat) : ∀ l : List (Nat × Blk), lkb (rmb k l) = upd (lkb l) k none
  | [] => by funext i; simp [lkb, rmb, upd]
  | (j, b) :: l => by
    funext i
    have ih := congrFun (lkb_rmb k l) i
    simp only [rmb, lkb]
    by_cases e : j = k
    · subst e; simp only [if_true]; rw [ih]; unfold upd; split <;> simp_all
    · simp only [e, if_false, lkb]; rw [ih]; unfold upd; split <;> simp_all

def AS.put (s : AS) (d : Option Nat) (v : V) : AS :=
  match d with
  | some d => { s with sl := (d, v) :: s.sl }
  | none => s

def AS.wrt (s : AS) : Option (Nat × Blk) → AS
  | some (i, b) => { s with hp := (i, b) :: rmb i s.hp }
  | none => s
def AS.del (s : AS) : Option Nat → AS
  | some i => { s with hp := rmb i s.hp }
  | none => s
def AS.new (s : AS) (d : Nat) : Option Blk → AS
  | some b => { s with hp := (d, b) :: s.hp }
  | none => s

def AS.app (s : AS) (d : Option Nat) (δ : Dl) : AS := (((s.wrt δ.wr).del δ.del).new (d.getD 0) δ.new).put d δ.v

omit [GInv] in
theorem upd_upd {α : Type} (f : Nat → α) (k : Nat) (x y : α) : upd (upd f k x) k y = upd f k y := by
  funext i; unfold upd; split <;> rfl

omit [GInv] in
theorem AS.wrt_hp (s : AS) (wr : Option (Nat × Blk)) : lkb (s.wrt wr).hp = hpW (lkb s.hp) wr := by
  cases wr with
  | none => rfl
  | some p => obtain ⟨i, b⟩ := p; simp only [AS.wrt, hpW]; rw [lkb_cons, lkb_rmb, upd_upd]
omit [GInv] in
theorem AS.del_hp (s : AS) (del : Option Nat) : lkb (s.del del).hp = hpD (lkb s.hp) del := by
  cases del with
  | none => rfl
  | some i => simp only [AS.del, hpD]; rw [lkb_rmb]
omit [GInv] in
theorem AS.wrt_sl (s : AS) (wr : Option (Nat × Blk)) : (s.wrt wr).sl = s.sl := by cases wr <;> rfl
omit [GInv] in
theorem AS.del_sl (s : AS) (del : Option Nat) : (s.del del).sl = s.sl := by cases del <;> rfl

omit [GInv] in
theorem AS.den_app (s : AS) (d : Option Nat) (δ : Dl) (h : δ.new.isSome = true → d.isSome = true) : (s.app d δ).den = δ.app d s.den := by
  obtain ⟨v, new, del, wr⟩ := δ
  unfold AS.app Dl.app Dl.hp AS.den
  cases d with
  | none =>
    cases new with
    | none => simp only [AS.new, AS.put, AS.del_hp, AS.wrt_hp, AS.del_sl, AS.wrt_sl, hpN]
    | some b => simp at h
  | some d =>
    cases new with
    | none => simp only [AS.new, AS.put, lk_cons, AS.del_hp, AS.wrt_hp, AS.del_sl, AS.wrt_sl, hpN]
    | some b => simp only [AS.new, AS.put, lk_cons, lkb_cons, AS.del_hp, AS.wrt_hp, AS.del_sl, AS.wrt_sl, Option.getD_some, hpN]

omit [GInv] in
theorem AS.app_pin (s : AS) (d : Option Nat) (δ : Dl) : (s.app d δ).pin = s.pin := by
  obtain ⟨v, new, del, wr⟩ := δ
  unfold AS.app
  cases d <;> cases new <;> cases del <;> cases wr <;> rfl

/-- No slot and no block leads to d. -/
def AS.fresh (s : AS) (d : Nat) : Bool :=
  s.sl.all (fun p => !ment d p.2) && s.hp.all (fun p => p.1 != d && !ments d p.2.es) && !s.pin.contains d

omit [GInv] in
theorem lk_mem : ∀ (l : List (Nat × V)) (i : Nat), lk l i = .undef ∨ ∃ k, (k, lk l i) ∈ l
  | [], i => .inl rfl
  | (k, v) :: l, i => by
    simp only [lk]
    split
    · exact .inr ⟨k, by simp⟩
    · rcases lk_mem l i with h | ⟨j, h⟩
      · exact .inl h
      · exact .inr ⟨j, List.mem_cons_of_mem _ h⟩

omit [GInv] in
theorem lkb_mem : ∀ (l : List (Nat × Blk)) (i : Nat) (b : Blk), lkb l i = some b → (i, b) ∈ l
  | [], i, b, h => by simp [lkb] at h
  | (k, c) :: l, i, b, h => by
    simp only [lkb] at h
    split at h
    · rename_i e; cases h; subst e; simp
    · exact List.mem_cons_of_mem _ (lkb_mem l i b h)

omit [GInv] in
theorem AS.fresh_ok {s : AS} {d : Nat} (h : s.fresh d = true) : Fresh s.den d ∧ d ∉ s.pin := by
  simp only [AS.fresh, Bool.and_eq_true, List.all_eq_true, Bool.not_eq_true', bne_iff_ne, ne_eq] at h
  obtain ⟨⟨h1, h2⟩, h3⟩ := h
  refine ⟨⟨fun t => ?_, fun id blk hb => ?_, ?_⟩, by simpa using h3⟩
  · show ment d (lk s.sl t) = false
    rcases lk_mem s.sl t with e | ⟨k, e⟩
    · rw [e]; rfl
    · exact h1 _ e
  · exact (h2 _ (lkb_mem _ _ _ hb)).2
  · show lkb s.hp d = none
    cases hb : lkb s.hp d with
    | none => rfl
    | some b => exact absurd rfl (h2 _ (lkb_mem _ _ _ hb)).1

def AS.took (s : AS) (d : Nat) (res : V) : AS := { s with sl := (d, (take d 0 res).1) :: s.sl, hp := (take d 0 res).2.1.reverse ++ s.hp }

omit [GInv] in
theorem lkb_rev_append : ∀ (l : List (Nat × Blk)) (h : List (Nat × Blk)), lkb (l.reverse ++ h) = updl (lkb h) l
  | [], h => rfl
  | (i, b) :: l, h => by
    simp only [List.reverse_cons, List.append_assoc, List.singleton_append, updl]
    rw [lkb_rev_append l, lkb_cons]

omit [GInv] in
theorem AS.den_took (s : AS) (d : Nat) (res : V) : (s.took d res).den = s.den.took d res := by
  simp only [AS.took, AS.den, St.took, lk_cons, lkb_rev_append]

/-- A call. -/
def wroteL : List Nat → List (Option Blk) → List (Nat × Blk) → List (Nat × Blk)
  | m :: M, some b :: H, hp => wroteL M H ((m, b) :: rmb m hp)
  | m :: M, none :: H, hp => wroteL M H (rmb m hp)
  | _, _, hp => hp

def AS.wrote (s : AS) (M : List Nat) (H1 : List (Option Blk)) : AS := { s with hp := wroteL M H1 s.hp }

omit [GInv] in
theorem lkb_wroteL : ∀ (M : List Nat) (H : List (Option Blk)) (hp : List (Nat × Blk)), M.Nodup → H.length = M.length → lkb (wroteL M H hp) = fun id => match idx? M id with | some k => (H[k]?).join | none => lkb hp id
  | [], [], hp, _, _ => rfl
  | m :: M, o :: H, hp, hn, hl => by
    rw [List.nodup_cons] at hn
    have key : ∀ hp' : List (Nat × Blk), (∀ id, lkb hp' id = if id = m then o else lkb hp id) → lkb (wroteL M H hp') = fun id => match idx? (m :: M) id with | some k => ((o :: H)[k]?).join | none => lkb hp id := fun hp' hh => by
      rw [lkb_wroteL M H hp' hn.2 (by simpa using hl)]
      funext id
      simp only [idx?]
      by_cases e : m = id
      · subst e
        have : idx? M m = none := by
          cases hi : idx? M m with
          | none => rfl
          | some k => exact absurd (List.mem_iff_getElem?.2 ⟨k, idx?_some M m k hi⟩) hn.1
        rw [this, if_pos rfl]
        simp [hh m]
      · rw [if_neg e]
        cases hi : idx? M id with
        | some k => simp
        | none =>
          show lkb hp' id = lkb hp id
          rw [hh id, if_neg (fun e' => e e'.symm)]
    cases o with
    | some b =>
      refine key _ fun id => ?_
      rw [lkb_cons, lkb_rmb]; unfold upd; split <;> simp_all
    | none =>
      refine key _ fun id => ?_
      rw [lkb_rmb]; rfl
  | [], _ :: _, hp, _, hl => by simp at hl
  | _ :: _, [], hp, _, hl => by simp at hl

omit [GInv] in
theorem AS.den_wrote (s : AS) {M : List Nat} {H1 : List (Option Blk)} (hn : M.Nodup) (hl : H1.length = M.length) : (s.wrote M H1).den = s.den.wrote M H1 := by
  simp only [AS.wrote, AS.den, St.wrote]
  rw [lkb_wroteL M H1 s.hp hn hl]
  try rfl

/-- What a block may hold when it comes back. -/
def outOk : List (Option Blk) → Bool
  | [] => true
  | some b :: l => noIdss b.es && noRos b.es && outOk l
  | none :: l => outOk l

omit [GInv] in
theorem outOk_get : ∀ (l : List (Option Blk)) (j : Nat) (b : Blk), outOk l = true → l[j]? = some (some b) → noIdss b.es = true ∧ noRos b.es = true
  | [], j, b, _, h => by simp at h
  | o :: l, 0, b, h, hj => by
    simp only [List.getElem?_cons_zero, Option.some.injEq] at hj; subst hj
    simp only [outOk, Bool.and_eq_true] at h; exact h.1
  | some c :: l, j + 1, b, h, hj => by
    simp only [outOk, Bool.and_eq_true] at h
    exact outOk_get l j b h.2 (by simpa using hj)
  | none :: l, j + 1, b, h, hj => outOk_get l j b (by simpa [outOk] using h) (by simpa using hj)

def callP (P : Program) (f : Nat) (vs : List V) (s : AS) (d : Nat) (K : AS → Prop) : Prop :=
  ∃ res, PCall P f (vs.map (borrow (lkb s.hp) 6)) res ∧ resOk res = true ∧ (noRo res = true ∨ (noIdss vs = true ∧ noOwns vs = true)) ∧
    (List.range (take d 0 res).2.2).all (fun i => s.fresh (d + 1000 * i)) = true ∧ K (s.took d res)

/-- A call of a function that writes: the blocks M are lent to it. -/
def callM (P : Program) (f : Nat) (vs : List V) (s : AS) (d : Nat) (K : AS → Prop) : Prop :=
  ∃ (M : List Nat) (H0 : List Blk) (res : V) (H1 : List (Option Blk)), MCall P f H0 (vs.map (lend M (lkb s.hp) 6)) res H1 ∧ M.Nodup ∧ M.map (lkb s.hp) = H0.map some ∧ (∀ blk ∈ H0, noIdss blk.es = true) ∧ outOk H1 = true ∧
    resOk res = true ∧ noRo res = true ∧ (List.range (take d 0 res).2.2).all (fun i => (s.wrote M H1).fresh (d + 1000 * i)) = true ∧ K ((s.wrote M H1).took d res)

/-- The same, where only R is told. -/
def callR (P : Program) (f : Nat) (vs : List V) (s : AS) (d : Nat) (K : AS → Prop) : Prop :=
  ∃ (M : List Nat) (H0 : List Blk) (R : V → List Blk → Prop), MCallR P f H0 (vs.map (lend M (lkb s.hp) 6)) R ∧ M.Nodup ∧ M.map (lkb s.hp) = H0.map some ∧ (∀ blk ∈ H0, noIdss blk.es = true) ∧
    ∀ res l, R res l → l.length = H0.length → outOk (l.map some) = true ∧ resOk res = true ∧ noRo res = true ∧ (List.range (take d 0 res).2.2).all (fun i => (s.wrote M (l.map some)).fresh (d + 1000 * i)) = true ∧ K ((s.wrote M (l.map some)).took d res)

def rmbs (ids : List Nat) (l : List (Nat × Blk)) : List (Nat × Blk) := l.filter fun q => !ids.contains q.1

omit [GInv] in
theorem lkb_rmbs (ids : List Nat) : ∀ (l : List (Nat × Blk)) (k : Nat), lkb (rmbs ids l) k = if k ∈ ids then none else lkb l k
  | [], k => by simp [rmbs, lkb]
  | (j, b) :: l, k => by
    have ih := lkb_rmbs ids l k
    simp only [rmbs, List.filter_cons] at ih ⊢
    by_cases hj : j ∈ ids
    · simp only [List.contains_eq_mem, hj, decide_true, Bool.not_true, Bool.false_eq_true, if_false, lkb]
      simp only [List.contains_eq_mem] at ih
      rw [ih]
      by_cases e : k = j
      · subst e; simp [hj]
      · simp [e]
    · simp only [List.contains_eq_mem, hj, decide_false, Bool.not_false, if_true, lkb]
      simp only [List.contains_eq_mem] at ih
      rw [ih]
      by_cases e : k = j
      · subst e; simp [hj]
      · simp [e]
def AS.sunk (s : AS) (Z : List Nat) : AS := { s with hp := rmbs Z s.hp }
omit [GInv] in
theorem AS.den_sunk (s : AS) (Z : List Nat) : (s.sunk Z).den = s.den.sunk Z := by
  simp only [AS.sunk, AS.den, St.sunk]
  congr 1
  funext id
  exact lkb_rmbs Z s.hp id
/-- The same two, behind which the blocks Z have sunk into memory that nobody writes: what comes back may hold what was read. -/
def outIds : List (Option Blk) → Bool
  | [] => true
  | some b :: l => noIdss b.es && outIds l
  | none :: l => outIds l
omit [GInv] in
theorem outIds_get : ∀ (l : List (Option Blk)) (j : Nat) (b : Blk), outIds l = true → l[j]? = some (some b) → noIdss b.es = true
  | [], j, b, _, h => by simp at h
  | o :: l, 0, b, h, hj => by
    simp only [List.getElem?_cons_zero, Option.some.injEq] at hj; subst hj
    simp only [outIds, Bool.and_eq_true] at h; exact h.1
  | some c :: l, j + 1, b, h, hj => by
    simp only [outIds, Bool.and_eq_true] at h
    exact outIds_get l j b h.2 (by simpa using hj)
  | none :: l, j + 1, b, h, hj => outIds_get l j b (by simpa [outIds] using h) (by simpa using hj)
def callMz (P : Program) (f : Nat) (vs : List V) (s : AS) (d : Nat) (K : AS → Prop) : Prop :=
  ∃ (M Z : List Nat) (H0 : List Blk) (res : V) (H1 : List (Option Blk)), MCall P f H0 (vs.map (lend M (onlyZ Z (lkb s.hp)) 6)) res H1 ∧ M.Nodup ∧ (Z.all fun z => !M.contains z) = true ∧ M.map (lkb s.hp) = H0.map some ∧ (∀ blk ∈ H0, noIdss blk.es = true) ∧ outIds H1 = true ∧
    resOk res = true ∧ (List.range (take d 0 res).2.2).all (fun i => ((s.sunk Z).wrote M H1).fresh (d + 1000 * i)) = true ∧ K (((s.sunk Z).wrote M H1).took d res)
def callRz (P : Program) (f : Nat) (vs : List V) (s : AS) (d : Nat) (K : AS → Prop) : Prop :=
  ∃ (M Z : List Nat) (H0 : List Blk) (R : V → List Blk → Prop), MCallR P f H0 (vs.map (lend M (onlyZ Z (lkb s.hp)) 6)) R ∧ M.Nodup ∧ (Z.all fun z => !M.contains z) = true ∧ M.map (lkb s.hp) = H0.map some ∧ (∀ blk ∈ H0, noIdss blk.es = true) ∧
    ∀ res l, R res l → l.length = H0.length → outIds (l.map some) = true ∧ resOk res = true ∧ (List.range (take d 0 res).2.2).all (fun i => ((s.sunk Z).wrote M (l.map some)).fresh (d + 1000 * i)) = true ∧ K (((s.sunk Z).wrote M (l.map some)).took d res)

def callQ (P : Program) (f : Nat) (vs : List V) (s : AS) (d : Nat) (K : AS → Prop) : Prop := callP P f vs s d K ∨ callM P f vs s d K ∨ callR P f vs s d K ∨ callMz P f vs s d K ∨ callRz P f vs s d K

/-- The value of a slot is written down anew. -/
def repl : List (Nat × V) → Nat → V → List (Nat × V)
  | [], _, _ => []
  | (k, v) :: l, t, x => if t = k then (k, x) :: l else (k, v) :: repl l t x
omit [GInv] in
theorem lk_repl {l : List (Nat × V)} {t : Nat} {x : V} (h : lk l t = x) : lk (repl l t x) = lk l := by
  funext i
  induction l with
  | nil => rfl
  | cons p l ih =>
    obtain ⟨k, v⟩ := p
    simp only [lk] at h
    simp only [repl]
    split
    · rename_i e
      rw [if_pos e] at h
      subst h
      simp only [lk]
    · rename_i e
      rw [if_neg e] at h
      simp only [lk]
      rw [ih h]
def AS.mark (s : AS) (t : Nat) (x : V) : AS := { s with sl := repl s.sl t x }

def stepO (P : Program) (c : CO) (K : AS → Prop) (s : AS) : Prop :=
  match c.o with
  | .call f xs => callQ P f (xs.map s.ev) s (c.d.getD 0) K
  | .callv x xs => match s.ev x with
    | .clo f caps => callQ P f (xs.map s.ev ++ caps) s (c.d.getD 0) K
    | _ => False
  | o => match eff s.ev (lkb s.hp) (c.d.getD 0) o with
    | some (p, δ) => p ∧ (δ.new.isSome = true → s.fresh (c.d.getD 0) = true) ∧ K (s.app c.d δ)
    | none => False

def wpO (P : Program) : List CO → (AS → Prop) → AS → Prop
  | [], K, s => K s
  | c :: cs, K, s => match c.g with
    | none => stepO P c (wpO P cs K) s
    | some (t, b) => match lk s.sl t with
      | .v (.bool v) => (v = b → stepO P c (wpO P cs K) (s.mark t (.v (.bool b)))) ∧ (v = !b → wpO P cs K ((s.mark t (.v (.bool !b))).put c.d (.tup [])))
      | .tup [] => wpO P cs K (s.put c.d (.tup []))
      | _ => False

omit [GInv] in
/-- To write down what a slot holds already changes nothing. -/
theorem AS.den_same {s : AS} {t : Nat} {v : V} (h : lk s.sl t = v) : (s.mark t v).den = s.den := by
  simp only [AS.mark, AS.den]
  rw [lk_repl h]

def cOpers (P : Program) (ops : Array Oper) (n : Nat) : List Oper → Option (List CO)
  | [] => some []
  | o :: os => match cOper P ops n o, cOpers P ops n os with
    | some c, some cs => some (c :: cs)
    | _, _ => none

section
variable {P : Program} {X : Ctx} {Q : Exit → Act → World → Prop}

theorem wp_of_runs {o : Oper} {a : Act} {w : World} {s' : St} {K : Act → World → Prop} (h : Runs P o X a w s') (hK : ∀ a' w', Rel X s' a' w' → K a' w') : o.wp P a w K Q := by
  obtain ⟨nx, x, w', hr, hnx, hrel⟩ := h
  unfold Oper.wp
  rw [hr]
  rcases hnx with rfl | ⟨rfl, rfl⟩
  · exact hK _ _ hrel
  · exact hK _ _ hrel

omit [GInv] in
theorem cOper_eq {ops : Array Oper} {n : Nat} {o : Oper} {c : CO} (h : cOper P ops n o = some c) : cOp P o.op = some c.o ∧ c.d = o.dst ∧ (∀ d, o.dst = some d → d < n) ∧ (isSt c.o = true → o.dst = none) ∧
    (isSt c.o = false → ∃ d, o.dst = some d) ∧ ((o.guard = none ∧ c.g = none) ∨ ∃ j b t, o.guard = some (j, b) ∧ c.g = some (t, b) ∧ (ops[j]?).bind (·.dst) = some t) := by
  unfold cOper at h
  cases hq : cOp P o.op with
  | none => simp [hq] at h
  | some q =>
    simp only [hq] at h
    split at h
    · rename_i hd
      have hg : ∃ g, c = ⟨g, o.dst, q⟩ ∧ ((o.guard = none ∧ g = none) ∨ ∃ j b t, o.guard = some (j, b) ∧ g = some (t, b) ∧ (ops[j]?).bind (·.dst) = some t) := by
        split at h
        · rename_i hgd
          simp only [Option.some.injEq] at h
          exact ⟨none, h.symm, .inl ⟨hgd, rfl⟩⟩
        · rename_i j b hgd
          split at h
          · rename_i t ht
            simp only [Option.some.injEq] at h
            exact ⟨_, h.symm, .inr ⟨j, b, t, hgd, rfl, ht⟩⟩
          · cases h
      obtain ⟨g, rfl, hg⟩ := hg
      cases hs : isSt q with
      | true =>
        rw [hs] at hd
        unfold dOk at hd
        cases hdst : o.dst with
        | none => exact ⟨rfl, rfl, fun d e => (by cases e), fun _ => rfl, fun e => (by cases e), hg⟩
        | some d => rw [hdst] at hd; simp at hd
      | false =>
        rw [hs] at hd
        unfold dOk at hd
        cases hdst : o.dst with
        | none => rw [hdst] at hd; simp at hd
        | some d => rw [hdst] at hd; exact ⟨rfl, rfl, fun d' e => (by cases e; simpa using hd), fun e => (by cases e), fun _ => ⟨d, rfl⟩, hg⟩
    · cases h

omit [GInv] in
theorem callFunc_run {f : Nat} (h : callable P f = true) (args : Array Value) (w : World) : (callFunc f args).run P w = .ok (.enter f args) w := by
  unfold callable at h
  simp only [beq_iff_eq, Option.map_eq_some_iff, Bool.and_eq_true, bne_iff_ne, ne_eq] at h
  obtain ⟨fn, h1, h2, h3⟩ := h
  have hb : fn.body ≠ none := by cases hb : fn.body <;> simp_all
  simp [callFunc, h1, h3, hb]

omit [GInv] in
theorem wp_of_call {o : Oper} {a : Act} {w : World} {f : Nat} {args : Array Value} {K : Act → World → Prop} (hr : (execOp a.eval o).run P w = .ok (.enter f args) w)
    (h : Calls P f args w fun e w' => ∃ y, e = .returned y ∧ K (a.put o.dst y) w') : o.wp P a w K Q := by
  unfold Oper.wp
  rw [hr, Oper.upon_enter]
  refine h.mono ?_
  rintro e w' ⟨y, rfl, hk⟩
  exact hk

theorem cXs_args {X : Ctx} {s : AS} {a : Act} {w : World} {ys : Array Operand} {xs : List Abs.X} (hx : cXs ys.toList = some xs) : ∀ D φ F, RelD X s.den a w D φ F [] → CVs w D (xs.map s.ev) φ (ys.map a.eval).toList [] := fun D φ F h => by
  have := cXs_ok h hx
  rw [AS.ev_eq] at this
  simpa using this

def isCall : O → Bool
  | .call _ _ => true
  | .callv _ _ => true
  | _ => false

omit [GInv] in
theorem map_isCall {α : Type} {x : Option α} {f : α → O} {q : O} (h : x.map f = some q) (hf : ∀ y, isCall (f y) = false) : isCall q = false := by
  simp only [Option.map_eq_some_iff] at h
  obtain ⟨y, _, rfl⟩ := h
  exact hf y

omit [GInv] in
set_option maxHeartbeats 1000000 in
theorem cOp_isCall {op : Op} {q : O} (h : cOp P op = some q) (hq : isCall q = true) : ∃ c, op = .call c := by
  have no : isCall q ≠ false := by rw [hq]; simp
  cases op with
  | call c => exact ⟨c, rfl⟩
  | move x => exact absurd (map_isCall h (fun _ => rfl)) no
  | assign x => exact absurd (map_isCall h (fun _ => rfl)) no
  | unOp a b x => exact absurd (map_isCall h (fun _ => rfl)) no
  | nilCheck x => exact absurd (map_isCall h (fun _ => rfl)) no
  | extract x i => exact absurd (map_isCall h (fun _ => rfl)) no
  | build t ps =>
    simp only [cOp] at h
    split at h
    · split at h
      · exact absurd (map_isCall h (fun _ => rfl)) no
      · cases h
    · cases h
  | makeFunc fn first cs =>
    cases fn <;> simp only [cOp, reduceCtorEq] at h
    split at h
    · exact absurd (map_isCall h (fun _ => rfl)) no
    · cases h
  | slice t x lo hi mx =>
    cases mx <;> simp only [cOp, reduceCtorEq] at h
    split at h
    · cases h; cases hq
    · split at h
      · cases h; cases hq
      · cases h
    · cases h
  | pick a b c => simp only [cOp] at h; split at h <;> cases h; cases hq
  | box t x => simp only [cOp] at h; split at h <;> cases h; cases hq
  | load t x => simp only [cOp] at h; split at h <;> cases h; cases hq
  | store t x y => simp only [cOp] at h; split at h <;> cases h; cases hq
  | binOp a t x y u => simp only [cOp] at h; split at h <;> cases h; cases hq
  | convert s d x => simp only [cOp] at h; split at h <;> cases h; cases hq
  | indexAddr t x i => simp only [cOp] at h; split at h <;> cases h; cases hq
  | index t x i => simp only [cOp] at h; split at h <;> cases h; cases hq
  | alloc t => simp only [cOp] at h; split at h <;> first | (split at h <;> cases h; cases hq; done) | cases h
  | buildSlice t n ps => simp only [cOp] at h; split at h <;> first | (split at h <;> cases h; cases hq; done) | cases h
  | makeSlice t l c => simp only [cOp] at h; split at h <;> first | (split at h <;> cases h; cases hq; done) | cases h
  | field t x f => simp only [cOp] at h; split at h <;> first | (split at h <;> first | (split at h <;> cases h; cases hq; done) | cases h) | cases h
  | fieldAddr t x f => simp only [cOp] at h; split at h <;> first | (split at h <;> first | (split at h <;> first | (split at h <;> cases h; cases hq; done) | cases h) | cases h) | cases h
  | _ => cases h

omit [GInv] in
theorem cOp_call {c : Call} {q : O} (h : cOp P (.call c) = some q) (hq : isCall q = true) : (∃ f xs, q = .call f xs ∧ c.callee = .value (.func f) ∧ cXs c.args.toList = some xs) ∨ (∃ t xs, q = .callv (.t t) xs ∧ c.callee = .value (.tmp t) ∧ cXs c.args.toList = some xs) := by
  have no : isCall q ≠ false := by rw [hq]; simp
  simp only [cOp] at h
  split at h
  · split at h
    · split at h <;> cases h <;> cases hq
    · cases h
  · split at h
    · split at h
      · split at h
        · cases h; cases hq
        · cases h
      · cases h
    · cases h
  · exact absurd (map_isCall h (fun _ => rfl)) no
  · exact absurd (map_isCall h (fun _ => rfl)) no
  · rename_i f hcal
    simp only [Option.map_eq_some_iff] at h
    obtain ⟨xs, hx, rfl⟩ := h
    exact .inl ⟨f, xs, rfl, hcal, hx⟩
  · rename_i t hcal
    simp only [Option.map_eq_some_iff] at h
    obtain ⟨xs, hx, rfl⟩ := h
    exact .inr ⟨t, xs, rfl, hcal, hx⟩
  · cases h

/-- One operation. -/
theorem stepO_ok {ops : Array Oper} {o : Oper} {c : CO} {s : AS} {a : Act} {w : World} {K : AS → Prop} {K' : Act → World → Prop} (hc : cOper P ops X.n o = some c) (h : Rel X s.den a w) (hpin : X.pin = s.pin) (hs : stepO P c K s)
    (hK : ∀ s' a' w', K s' → s'.pin = s.pin → Rel X s'.den a' w' → K' a' w') : o.wp P a w K' Q := by
  obtain ⟨hq, hdst, hdn, hst, hns, _⟩ := cOper_eq hc
  have callRule : ∀ (f : Nat) (vs : List V) (d : Nat) (args : Array Value), callQ P f vs s d K → o.dst = some d → (∀ D φ F, RelD X s.den a w D φ F [] → CVs w D vs φ args.toList []) →
      (callable P f = true → (execOp a.eval o).run P w = .ok (.enter f args) w) → o.wp P a w K' Q := by
    intro f vs d args hcall hd hv hr
    rcases hcall with hcall | hcall | hcall | hcall | hcall
    rotate_left
    rotate_left
    · obtain ⟨M, H0, R, hP, hM, hH, hn0, hall⟩ := hcall
      have hlen : H0.length = M.length := by
        have := congrArg List.length hH
        rw [List.length_map, List.length_map] at this
        exact this.symm
      have hl1 : ∀ l : List Blk, l.length = H0.length → (l.map some).length = M.length := fun l hl => by rw [List.length_map, hl, hlen]
      refine wp_of_call (hr hP.1) ?_
      have := mcallR_ok (k := 6) (d := d) hP h hM hH hn0 hv (hdn d hd) (fun res l hR hl => by
        obtain ⟨hout, hres, hro, hfr, _⟩ := hall res l hR hl
        refine ⟨hres, hro, fun j blk hj => outOk_get _ j blk hout hj, fun i hi => ?_⟩
        have := AS.fresh_ok (List.all_eq_true.1 hfr i (List.mem_range.2 hi))
        rw [AS.den_wrote s hM (hl1 l hl)] at this
        exact ⟨this.1, by rw [hpin]; exact this.2⟩)
      rw [Array.toArray_toList] at this
      refine this.mono ?_
      rintro e w' ⟨y, res, l, hR, hl, rfl, hrel⟩
      rw [hd]
      exact ⟨y, rfl, hK ((s.wrote M (l.map some)).took d res) _ _ (hall res l hR hl).2.2.2.2 rfl (by rw [AS.den_took, AS.den_wrote s hM (hl1 l hl)]; exact hrel)⟩
    · obtain ⟨M, Z, H0, res, H1, hP, hM, hMZ, hH, hn0, hout, hres, hfr, hk⟩ := hcall
      have hlen : H1.length = M.length := by
        have := congrArg List.length hH
        rw [List.length_map, List.length_map] at this
        exact hP.2.1.trans this.symm
      have hMZ' : ∀ z ∈ Z, z ∉ M := fun z hz => by simpa using List.all_eq_true.1 hMZ z hz
      refine wp_of_call (hr hP.1) ?_
      have hfr' : ∀ i, i < (take d 0 res).2.2 → Fresh ((s.den.sunk Z).wrote M H1) (d + 1000 * i) ∧ d + 1000 * i ∉ X.pin := fun i hi => by
        have := AS.fresh_ok (List.all_eq_true.1 hfr i (List.mem_range.2 hi))
        rw [AS.den_wrote _ hM hlen, AS.den_sunk] at this
        exact ⟨this.1, by rw [hpin]; exact this.2⟩
      have := mcall_okZ (k := 6) (d := d) hP h hM hMZ' hH hn0 (fun j blk hj => outIds_get H1 j blk hout hj) hv (hdn d hd) hres hfr'
      rw [Array.toArray_toList] at this
      refine this.mono ?_
      rintro e w' ⟨y, rfl, hrel⟩
      rw [hd]
      exact ⟨y, rfl, hK (((s.sunk Z).wrote M H1).took d res) _ _ hk rfl (by rw [AS.den_took, AS.den_wrote _ hM hlen, AS.den_sunk]; exact hrel)⟩
    · obtain ⟨M, Z, H0, R, hP, hM, hMZ, hH, hn0, hall⟩ := hcall
      have hlen : H0.length = M.length := by
        have := congrArg List.length hH
        rw [List.length_map, List.length_map] at this
        exact this.symm
      have hl1 : ∀ l : List Blk, l.length = H0.length → (l.map some).length = M.length := fun l hl => by rw [List.length_map, hl, hlen]
      have hMZ' : ∀ z ∈ Z, z ∉ M := fun z hz => by simpa using List.all_eq_true.1 hMZ z hz
      refine wp_of_call (hr hP.1) ?_
      have := mcallR_okZ (k := 6) (d := d) hP h hM hMZ' hH hn0 hv (hdn d hd) (fun res l hR hl => by
        obtain ⟨hout, hres, hfr, _⟩ := hall res l hR hl
        refine ⟨hres, fun j blk hj => outIds_get _ j blk hout hj, fun i hi => ?_⟩
        have := AS.fresh_ok (List.all_eq_true.1 hfr i (List.mem_range.2 hi))
        rw [AS.den_wrote _ hM (hl1 l hl), AS.den_sunk] at this
        exact ⟨this.1, by rw [hpin]; exact this.2⟩)
      rw [Array.toArray_toList] at this
      refine this.mono ?_
      rintro e w' ⟨y, res, l, hR, hl, rfl, hrel⟩
      rw [hd]
      exact ⟨y, rfl, hK (((s.sunk Z).wrote M (l.map some)).took d res) _ _ (hall res l hR hl).2.2.2 rfl (by rw [AS.den_took, AS.den_wrote _ hM (hl1 l hl), AS.den_sunk]; exact hrel)⟩
    rotate_left
    · obtain ⟨M, H0, res, H1, hP, hM, hH, hn0, hout, hres, hro, hfr, hk⟩ := hcall
      have hlen : H1.length = M.length := by
        have := congrArg List.length hH
        rw [List.length_map, List.length_map] at this
        exact hP.2.1.trans this.symm
      refine wp_of_call (hr hP.1) ?_
      have hfr' : ∀ i, i < (take d 0 res).2.2 → Fresh (s.den.wrote M H1) (d + 1000 * i) ∧ d + 1000 * i ∉ X.pin := fun i hi => by
        have := AS.fresh_ok (List.all_eq_true.1 hfr i (List.mem_range.2 hi))
        rw [AS.den_wrote s hM hlen] at this
        exact ⟨this.1, by rw [hpin]; exact this.2⟩
      have := mcall_ok (k := 6) (d := d) hP h hM hH hn0 (fun j blk hj => (outOk_get H1 j blk hout hj).1) hv (hdn d hd) hres hro (fun j blk hj => (outOk_get H1 j blk hout hj).2) hfr'
      rw [Array.toArray_toList] at this
      refine this.mono ?_
      rintro e w' ⟨y, rfl, hrel⟩
      rw [hd]
      exact ⟨y, rfl, hK ((s.wrote M H1).took d res) _ _ hk rfl (by rw [AS.den_took, AS.den_wrote s hM hlen]; exact hrel)⟩
    obtain ⟨res, hP, hres, hro, hfr, hk⟩ := hcall
    refine wp_of_call (hr hP.1) ?_
    have hfr' : ∀ i, i < (take d 0 res).2.2 → Fresh s.den (d + 1000 * i) ∧ d + 1000 * i ∉ X.pin := fun i hi => by
      have := AS.fresh_ok (List.all_eq_true.1 hfr i (List.mem_range.2 hi))
      exact ⟨this.1, by rw [hpin]; exact this.2⟩
    have := call_ok (k := 6) (d := d) hP h hv (hdn d hd) hres hro hfr'
    rw [Array.toArray_toList] at this
    refine this.mono ?_
    rintro e w' ⟨y, rfl, hrel⟩
    rw [hd]
    exact ⟨y, rfl, hK (s.took d res) _ _ hk rfl (by rw [AS.den_took]; exact hrel)⟩
  unfold stepO at hs
  split at hs
  · -- a call by name
    rename_i f xs hco
    rw [hco] at hq
    obtain ⟨d, hd⟩ := hns (by rw [hco]; rfl)
    rw [hdst, hd] at hs
    obtain ⟨cl, hop⟩ := cOp_isCall hq rfl
    rw [hop] at hq
    rcases cOp_call hq rfl with ⟨f', xs', e, hcal, hx⟩ | ⟨t, xs', e, hcal, hx⟩
    · cases e
      refine callRule f _ d (cl.args.map a.eval) hs hd (cXs_args hx) fun hcb => ?_
      simp [execOp, hop, resolve, hcal, Act.eval, Deferred.ofValue, invoke, callFunc_run hcb]
    · cases e
  · -- a call of a function value
    rename_i x xs hco
    rw [hco] at hq
    obtain ⟨d, hd⟩ := hns (by rw [hco]; rfl)
    rw [hdst, hd] at hs
    obtain ⟨cl, hop⟩ := cOp_isCall hq rfl
    rw [hop] at hq
    rcases cOp_call hq rfl with ⟨f', xs', e, hcal, hx⟩ | ⟨t, xs', e, hcal, hx⟩
    · cases e
    · cases e
      split at hs
      · rename_i f caps hclo
        obtain ⟨D, φ, F, hrel⟩ := h
        have hslot := hrel.slots t
        have hcl : s.den.sl t = .clo f caps := hclo
        rw [hcl] at hslot
        simp only [CV] at hslot
        obtain ⟨ys, hys, _⟩ := hslot
        refine callRule f _ d (cl.args.map a.eval ++ ys) hs hd (fun D φ F hr => ?_) fun hcb => ?_
        · rw [Array.toList_append]
          have h2 := hr.slots t
          rw [hcl, hys] at h2
          simp only [CV] at h2
          obtain ⟨zs, hz, hcv⟩ := h2
          cases hz
          exact CVs_append (cXs_args hx D φ F hr) hcv
        · have he : a.eval (.tmp t) = .func (.func f) #[] ys := hys
          simp [execOp, hop, resolve, hcal, he, Deferred.ofValue, invoke, callFunc_run hcb]
      · exact hs.elim
  · rename_i hno1 hno2
    split at hs
    · rename_i p δ he
      obtain ⟨hp, hfr, hk⟩ := hs
      obtain ⟨D, φ, F, hrel⟩ := h
      have hnew : δ.new.isSome = true → c.d.isSome = true := fun hn => by
        cases hd : c.d with
        | some d => rfl
        | none =>
          rw [hd] at hdst
          cases hst' : isSt c.o with
          | true =>
            -- a store makes nothing
            cases hco : c.o <;> rw [hco] at hst' <;> simp [isSt] at hst'
            rename_i k x y
            rw [hco] at he
            simp only [eff] at he
            unfold vst at he
            split at he
            · split at he
              · split at he
                · split at he
                  · split at he
                    · simp only [Option.some.injEq, Prod.mk.injEq] at he; obtain ⟨_, rfl⟩ := he; cases hn
                    · cases he
                  · cases he
                · cases he
              · cases he
            · cases he
          | false =>
            obtain ⟨d, hd'⟩ := hns hst'
            rw [hd'] at hdst; cases hdst
      have hruns : Runs P o X a w (δ.app o.dst s.den) := by
        refine eff_ok hq hrel hdn hst hns (p := p) ?_ hp fun hn d hd => ?_
        · rw [AS.ev_eq, ← hdst]; exact he
        · have := AS.fresh_ok (hfr hn)
          rw [hdst, hd] at this
          exact ⟨this.1, by rw [hpin]; exact this.2⟩
      refine wp_of_runs hruns fun a' w' hr => hK (s.app c.d δ) a' w' hk (AS.app_pin _ _ _) ?_
      rw [AS.den_app _ _ _ hnew, hdst]; exact hr
    · exact hs.elim
end

section
variable {P : Program} {X : Ctx} {Q : Exit → Act → World → Prop}

omit [GInv] in
theorem yielded_of {ops : Array Oper} {a : Act} {j t : Nat} {v : Bool} (hj : (ops[j]?).bind (·.dst) = some t) (hv : a.tmps.getD t undef = .bool v) : yielded ops a.tmps j = some v := by
  unfold yielded
  rw [hj]
  simp only [Option.bind_some]
  rw [Array.getD_eq_getD_getElem?] at hv
  cases h : a.tmps[t]? with
  | none => rw [h] at hv; simp [undef] at hv
  | some x => rw [h] at hv; simp at hv; simp [hv]

omit [GInv] in
theorem CV_tup0 {w : World} {D : Nat → Prop} {φ : Nat → Option Pl} {x : Value} {f : List Nat} (h : CV w D (.tup []) φ x f) : x = undef := by
  simp only [CV, CVs] at h
  obtain ⟨xs, rfl, h, _⟩ := h
  simp only [undef]
  congr 1
  exact Array.toList_inj.1 h
omit [GInv] in
theorem CV_tup0_mk {w : World} {D : Nat → Prop} {φ : Nat → Option Pl} : CV w D (.tup []) φ undef [] := by
  simp only [CV, CVs]
  exact ⟨#[], by simp [undef]⟩
omit [GInv] in
theorem yielded_undef {ops : Array Oper} {a : Act} {j t : Nat} (hj : (ops[j]?).bind (·.dst) = some t) (hv : a.tmps.getD t undef = undef) : yielded ops a.tmps j = none := by
  unfold yielded
  rw [hj]
  simp only [Option.bind_some]
  rw [Array.getD_eq_getD_getElem?] at hv
  cases h : a.tmps[t]? with
  | none => rfl
  | some x => rw [h] at hv; simp only [Option.getD_some] at hv; subst hv; rfl

theorem wpO_ok {ops : Array Oper} {K : AS → Prop} : ∀ (os : List Oper) (cs : List CO) (s : AS) (a : Act) (w : World), cOpers P ops X.n os = some cs → Rel X s.den a w → X.pin = s.pin → wpO P cs K s →
    (∀ s' a' w', K s' → s'.pin = s.pin → Rel X s'.den a' w' → Q .normal a' w') → wpList P ops Q os a w
  | [], cs, s, a, w, hc, h, hpin, hs, hK => by
    simp only [cOpers, Option.some.injEq] at hc; subst hc
    exact hK s a w hs rfl h
  | o :: os, cs, s, a, w, hc, h, hpin, hs, hK => by
    unfold cOpers at hc
    split at hc
    · rename_i c cs' hco hcs
      simp only [Option.some.injEq] at hc; subst hc
      obtain ⟨_, hdst, _, _, _, hg⟩ := cOper_eq hco
      unfold wpList
      have run : ∀ s1 : AS, s1.den = s.den → s1.pin = s.pin → stepO P c (wpO P cs' K) s1 → o.wp P a w (wpList P ops Q os) Q := fun s1 hd1 hp1 hst =>
        stepO_ok hco (by rw [hd1]; exact h) (by rw [hp1]; exact hpin) hst fun s' a' w' hk hp hr => wpO_ok os cs' s' a' w' hcs hr (by rw [hpin, hp, hp1]) hk fun s2 a2 w2 k2 p2 => hK s2 a2 w2 k2 (by rw [p2, hp, hp1])
      unfold wpO at hs
      rcases hg with ⟨hg1, hg2⟩ | ⟨j, b, t, hg1, hg2, hj⟩
      · rw [hg2] at hs
        rw [if_pos (by simp [Region.wanted, hg1])]
        exact .inl (run s rfl rfl hs)
      · rw [hg2] at hs
        simp only at hs
        split at hs
        · rename_i v hv
          obtain ⟨D, φ, F, hrel⟩ := h
          have hslot := hrel.slots t
          have hv' : s.den.sl t = .v (.bool v) := hv
          rw [hv'] at hslot
          have hy := yielded_of (ops := ops) hj (CV_v hslot)
          by_cases e : v = b
          · rw [if_pos (by simp [Region.wanted, hg1, hy, e])]
            subst e
            exact .inl (run _ (AS.den_same hv) rfl (hs.1 rfl))
          · rw [if_neg (by simp [Region.wanted, hg1, hy, e])]
            have e' : v = !b := by cases v <;> cases b <;> simp_all
            have hds : (s.mark t (.v (.bool !b))).den = s.den := AS.den_same (by rw [hv, e'])
            refine wpO_ok os cs' ((s.mark t (.v (.bool !b))).put c.d (.tup [])) _ w hcs ?_ (by rw [hpin]; cases c.d <;> rfl) (hs.2 e') fun s2 a2 w2 k2 p2 => hK s2 a2 w2 k2 (by rw [p2]; cases c.d <;> rfl)
            refine ⟨D, φ, F, ?_⟩
            rw [hdst]
            cases hd : o.dst with
            | none =>
              have : ((s.mark t (.v (.bool !b))).put none (.tup [])).den = s.den := hds
              rw [this]; exact hrel
            | some d =>
              by_cases hlt : d < X.n
              · have := hrel.put d hlt (.tup []) undef CV_tup0_mk
                have e2 : ((s.mark t (.v (.bool !b))).put (some d) (.tup [])).den = { s.den with sl := upd s.den.sl d (.tup []) } := by
                  rw [← hds]; simp only [AS.put, AS.den, lk_cons]
                rw [e2]; exact this
              · exact absurd ((cOper_eq hco).2.2.1 d hd) hlt
        · rename_i hv
          obtain ⟨D, φ, F, hrel⟩ := h
          have hslot := hrel.slots t
          have hv' : s.den.sl t = .tup [] := hv
          rw [hv'] at hslot
          have hy := yielded_undef (ops := ops) hj (CV_tup0 hslot)
          rw [if_neg (by simp [Region.wanted, hg1, hy])]
          refine wpO_ok os cs' (s.put c.d (.tup [])) _ w hcs ?_ (by rw [hpin]; cases c.d <;> rfl) hs fun s2 a2 w2 k2 p2 => hK s2 a2 w2 k2 (by rw [p2]; cases c.d <;> rfl)
          refine ⟨D, φ, F, ?_⟩
          rw [hdst]
          cases hd : o.dst with
          | none => exact hrel
          | some d =>
            by_cases hlt : d < X.n
            · have := hrel.put d hlt (.tup []) undef CV_tup0_mk
              have e2 : (s.put (some d) (.tup [])).den = { s.den with sl := upd s.den.sl d (.tup []) } := by
                simp only [AS.put, AS.den, lk_cons]
              rw [e2]; exact this
            · exact absurd ((cOper_eq hco).2.2.1 d hd) hlt
        · exact hs.elim
    · cases hc
end

end Go.Abs

set_option linter.unusedVariables false
set_option linter.unusedSimpArgs false
namespace Go.Abs
variable [GInv]

/-- What an operation does to a state: a value for its slot; blocks; the ids that must be new. -/
structure Tr where
  v : V
  hp : List (Nat × Option Blk)
  news : List Nat

def updo (f : Nat → Option Blk) : List (Nat × Option Blk) → Nat → Option Blk
  | [] => f
  | (i, b) :: l => updo (upd f i b) l

def Tr.ap (tr : Tr) (d : Option Nat) (s : St) : St := { sl := match d with | some d => upd s.sl d tr.v | none => s.sl, hp := updo s.hp tr.hp }

def trOf (δ : Dl) (d : Option Nat) : Tr :=
  { v := δ.v,
    hp := (match δ.wr with | some (i, b) => [(i, some b)] | none => []) ++ (match δ.del with | some i => [(i, none)] | none => []) ++ (match δ.new, d with | some b, some d => [(d, some b)] | _, _ => []),
    news := match δ.new, d with | some _, some d => [d] | _, _ => [] }

omit [GInv] in
theorem trOf_ap (δ : Dl) (d : Option Nat) (s : St) : (trOf δ d).ap d s = δ.app d s := by
  obtain ⟨v, new, del, wr⟩ := δ
  cases wr with
  | none => cases del <;> cases new <;> cases d <;> rfl
  | some p => obtain ⟨i, b⟩ := p; cases del <;> cases new <;> cases d <;> rfl

def trTake (d : Nat) (res : V) : Tr := { v := (take d 0 res).1, hp := (take d 0 res).2.1.map fun p => (p.1, some p.2), news := (List.range (take d 0 res).2.2).map (d + 1000 * ·) }

omit [GInv] in
theorem updo_map (f : Nat → Option Blk) : ∀ l : List (Nat × Blk), updo f (l.map fun p => (p.1, some p.2)) = updl f l
  | [] => rfl
  | (i, b) :: l => by simp only [List.map_cons, updo, updl]; exact updo_map _ l

omit [GInv] in
theorem trTake_ap (d : Nat) (res : V) (s : St) : (trTake d res).ap (some d) s = s.took d res := by
  simp only [trTake, Tr.ap, St.took, updo_map]

mutual
def idsV : V → List Nat
  | .ref id _ _ => [id]
  | .sl id _ _ => [id]
  | .agg cs => idsVs cs
  | .tup cs => idsVs cs
  | .clo _ cs => idsVs cs
  | _ => []
def idsVs : List V → List Nat
  | [] => []
  | c :: cs => idsV c ++ idsVs cs
end

def xsO : O → List X
  | .mv x => [x]
  | .pick c a b => [c, a, b]
  | .box _ x => [x]
  | .build _ ps => ps.map (·.2.2)
  | .bslice _ _ _ ps => ps.map (·.2)
  | .ld _ _ x => [x]
  | .st _ a x => [a, x]
  | .bin _ _ x y => [x, y]
  | .un _ x => [x]
  | .conv _ x => [x]
  | .clo _ cs => cs
  | .mks _ _ _ l c => [l, c]
  | .slc _ x lo hi => x :: (lo.toList ++ hi.toList)
  | .faddr _ x => [x]
  | .fld _ _ _ x => [x]
  | .iaddr _ x i => [x, i]
  | .idx x i => [x, i]
  | .ext x _ => [x]
  | .len _ x => [x]
  | .app _ _ x y => [x, y]
  | .mm _ xs => xs
  | .call _ xs => xs
  | .callv x xs => x :: xs

def rdS (c : CO) : List Nat := (match c.g with | some (t, _) => [t] | none => []) ++ (xsO c.o).filterMap fun | .t n => some n | .k _ => none

mutual
/-- It leads to no block by an id, at no depth. -/
def deepV : V → Bool
  | .ref _ _ _ => false
  | .sl _ _ _ => false
  | .agg cs => deeps cs
  | .tup cs => deeps cs
  | .clo _ cs => deeps cs
  | .own _ es => deeps es
  | _ => true
def deeps : List V → Bool
  | [] => true
  | c :: cs => deepV c && deeps cs
end

def callXP (P : Program) (f : Nat) (vs : List V) (s : St) (d : Nat) (tr : Tr) : Prop :=
  ∃ res, PCall P f (vs.map (borrow s.hp 6)) res ∧ resOk res = true ∧ (noRo res = true ∨ (noIdss vs = true ∧ noOwns vs = true)) ∧ tr = trTake d res ∧ noOwns vs = true ∧ (∀ id, id ∈ idsVs vs → ∀ b, s.hp id = some b → deeps b.es = true)

/-- What a call that writes the blocks M does; the blocks Z sink. -/
def trM (d : Nat) (M Z : List Nat) (l : List Blk) (res : V) : Tr :=
  { v := (take d 0 res).1, hp := (Z.map fun z => (z, none)) ++ (M.zip (l.map some) ++ ((take d 0 res).2.1.map fun p => (p.1, some p.2))), news := (List.range (take d 0 res).2.2).map (d + 1000 * ·) }
def callXM (P : Program) (f : Nat) (vs : List V) (s : St) (d : Nat) (tr : Tr) : Prop :=
  ∃ (M Z : List Nat) (H0 l : List Blk) (res : V), MCall P f H0 (vs.map (lend M (onlyZ Z s.hp) 6)) res (l.map some) ∧ M.Nodup ∧ (∀ z ∈ Z, z ∉ M) ∧ M.map s.hp = H0.map some ∧ (∀ blk ∈ H0, noIdss blk.es = true) ∧ outIds (l.map some) = true ∧ resOk res = true ∧
    (M.all fun id => (idsVs vs).contains id) = true ∧ (Z.all fun id => (idsVs vs).contains id) = true ∧ tr = trM d M Z l res
def callX (P : Program) (f : Nat) (vs : List V) (s : St) (d : Nat) (tr : Tr) : Prop := callXP P f vs s d tr ∨ callXM P f vs s d tr

omit [GInv] in
theorem updo_append (f : Nat → Option Blk) : ∀ (a b : List (Nat × Option Blk)), updo f (a ++ b) = updo (updo f a) b
  | [], b => rfl
  | (i, x) :: a, b => by simp only [List.cons_append, updo]; exact updo_append _ a b
omit [GInv] in
theorem updo_zip : ∀ (M : List Nat) (l : List Blk) (f : Nat → Option Blk), M.Nodup → l.length = M.length → updo f (M.zip (l.map some)) = fun id => match idx? M id with | some k => ((l.map some)[k]?).join | none => f id
  | [], l, f, _, _ => by funext id; simp [updo, idx?]
  | m :: M, [], f, _, h => by simp at h
  | m :: M, b :: l, f, hn, h => by
    have hn' := List.nodup_cons.1 hn
    have ih := updo_zip M l (upd f m (some b)) hn'.2 (by simpa using h)
    simp only [List.map_cons, List.zip_cons_cons, updo]
    rw [ih]
    funext id
    by_cases e : m = id
    · subst e
      have : idx? M m = none := by
        cases hi : idx? M m with
        | none => rfl
        | some k => exact absurd (List.mem_iff_getElem?.2 ⟨k, idx?_some M m k hi⟩) hn'.1
      rw [this]
      simp [idx?, upd]
    · have e' : ¬ id = m := fun h => e h.symm
      simp only [idx?, if_neg e]
      cases hi : idx? M id with
      | none => simp [upd, e']
      | some k => simp
omit [GInv] in
theorem updo_none : ∀ (Z : List Nat) (f : Nat → Option Blk), updo f (Z.map fun z => (z, none)) = fun id => if id ∈ Z then none else f id
  | [], f => by funext id; simp [updo]
  | z :: Z, f => by
    simp only [List.map_cons, updo]
    rw [updo_none Z]
    funext id
    by_cases e : id ∈ Z
    · simp [e]
    · by_cases e2 : id = z
      · simp [e2, upd]
      · simp [e, e2, upd]
omit [GInv] in
theorem trM_ap (d : Nat) {M Z : List Nat} {l : List Blk} (res : V) (s : St) (hn : M.Nodup) (hl : l.length = M.length) : (trM d M Z l res).ap (some d) s = ((s.sunk Z).wrote M (l.map some)).took d res := by
  simp only [trM, Tr.ap, St.took, updo_append, updo_map, updo_none, updo_zip M l _ hn hl]
  rfl

/-- The operation can be carried out in the state, and does 'tr'. -/
def exec (P : Program) (c : CO) (s : St) (tr : Tr) : Prop :=
  match c.o with
  | .call f xs => ∃ d, c.d = some d ∧ callX P f (xs.map s.ev) s d tr
  | .callv x xs => ∃ d, c.d = some d ∧ match s.ev x with
    | .clo f caps => callX P f (xs.map s.ev ++ caps) s d tr
    | _ => False
  | o => ∃ p δ, eff s.ev s.hp (c.d.getD 0) o = some (p, δ) ∧ p ∧ tr = trOf δ c.d

/-- The same behind its guard. -/
def ex (P : Program) (c : CO) (s : St) (tr : Tr) : Prop :=
  match c.g with
  | none => exec P c s tr
  | some (t, b) => (∃ v, s.sl t = .v (.bool v) ∧ ((v = b ∧ exec P c s tr) ∨ (v ≠ b ∧ tr = ⟨.tup [], [], []⟩))) ∨ (s.sl t = .tup [] ∧ tr = ⟨.tup [], [], []⟩)

section
variable {P : Program} {X : Ctx} {Q : Exit → Act → World → Prop}

omit [GInv] in
theorem ev_agree {s s2 : St} {xs : List Abs.X} (h : ∀ t, t ∈ (xs.filterMap fun | .t n => some n | .k _ => none : List Nat) → s2.sl t = s.sl t) : ∀ x ∈ xs, s2.ev x = s.ev x := by
  intro x hx
  cases x with
  | k v => rfl
  | t n => exact h n (List.mem_filterMap.2 ⟨.t n, hx, rfl⟩)

omit [GInv] in
theorem map_agree {s s2 : St} {xs : List Abs.X} (h : ∀ x ∈ xs, s2.ev x = s.ev x) : xs.map s2.ev = xs.map s.ev := List.map_congr_left h

omit [GInv] in
theorem vld_agree {look look2 : Nat → Option Blk} {agg : Bool} {n : Nat} {v : V} (h : ∀ id ∈ idsV v, look2 id = look id) : vld agg n look2 v = vld agg n look v := by
  cases v <;> simp only [vld]
  rename_i id i j
  rw [h id (by simp [idsV])]

omit [GInv] in
theorem vst_agree {look look2 : Nat → Option Blk} {n : Nat} {v u : V} (h : ∀ id ∈ idsV u, look2 id = look id) : vst n look2 v u = vst n look v u := by
  cases u <;> simp only [vst]
  rename_i id i j
  rw [h id (by simp [idsV])]

omit [GInv] in
theorem viaddr_agree {look look2 : Nat → Option Blk} {n : Nat} {v u : V} (h : ∀ id ∈ idsV v, look2 id = look id) : viaddr n look2 v u = viaddr n look v u := by
  unfold viaddr
  split
  · rw [h _ (by simp [idsV])]
  · rfl
  · rfl

omit [GInv] in
theorem srcOf_agree {look look2 : Nat → Option Blk} {n : Nat} {v : V} (h : ∀ id ∈ idsV v, look2 id = look id) : srcOf n look2 v = srcOf n look v := by
  unfold srcOf
  split
  · rw [h _ (by simp [idsV])]
  · rfl
  · rfl
  · rfl

omit [GInv] in
theorem vapp_agree {look look2 : Nat → Option Blk} {n b d : Nat} {v u : V} (h : ∀ id ∈ idsV v, look2 id = look id) (h' : ∀ id ∈ idsV u, look2 id = look id) : vapp n b look2 d v u = vapp n b look d v u := by
  have hs := srcOf_agree (n := n) h
  unfold vapp
  split
  · rw [hs]
  · rename_i id i m
    rw [hs, h' id (by simp [idsV])]
  · rfl

omit [GInv] in
theorem vslcL_agree {look look2 : Nat → Option Blk} {n : Nat} {v : V} {lo hi : Option V} (h : ∀ id ∈ idsV v, look2 id = look id) : vslcL n look2 v lo hi = vslcL n look v lo hi := by
  cases v <;> simp only [vslcL]
  rename_i id i j
  rw [h id (by simp [idsV])]

omit [GInv] in
theorem setPs_agree {ev ev2 : Abs.X → V} : ∀ {ps : List (Nat × Nat × Abs.X)} {cs : List V}, (∀ x ∈ ps.map (·.2.2), ev2 x = ev x) → setPs ev2 cs ps = setPs ev cs ps
  | [], cs, h => rfl
  | (off, n, x) :: ps, cs, h => by
    simp only [setPs]
    rw [h x (by simp)]
    split
    · split
      · exact setPs_agree fun y hy => h y (List.mem_cons_of_mem _ hy)
      · rfl
    · rfl

omit [GInv] in
theorem setPt_agree {ev ev2 : Abs.X → V} {s : Nat} : ∀ {ps : List (Nat × Abs.X)} {es : List V}, (∀ x ∈ ps.map (·.2), ev2 x = ev x) → setPt ev2 s es ps = setPt ev s es ps
  | [], es, h => rfl
  | (i, x) :: ps, es, h => by
    simp only [setPt]
    rw [h x (by simp)]
    split
    · exact setPt_agree fun y hy => h y (List.mem_cons_of_mem _ hy)
    · rfl

omit [GInv] in
/-- What an operation does hangs on its operands and on the blocks that these lead to. -/
theorem eff_agree {ev ev2 : Abs.X → V} {look look2 : Nat → Option Blk} {d : Nat} {q : O} (h : ∀ x ∈ xsO q, ev2 x = ev x) (hl : ∀ x ∈ xsO q, ∀ id ∈ idsV (ev x), look2 id = look id) : eff ev2 look2 d q = eff ev look d q := by
  cases q <;> simp only [xsO, List.mem_cons, List.not_mem_nil, or_false, forall_eq_or_imp, forall_eq] at h hl <;> simp only [eff]
  case mv x => rw [h]
  case pick c a b => rw [h.1, h.2.1, h.2.2]
  case box n x => rw [h]
  case build z ps => unfold vbuild; cases z <;> simp only; rw [setPs_agree h]
  case bslice s z n ps => unfold vbslice; rw [setPt_agree h]
  case ld b n x => rw [h]; exact vld_agree hl
  case st n a x => rw [h.1, h.2]; exact vst_agree hl.1
  case bin op k x y => rw [h.1, h.2]
  case un op x => rw [h]
  case conv c x =>
    rw [h]
    have hs := srcOf_agree (n := 1) hl
    unfold vconv
    split
    · rfl
    · rfl
    · rw [hs]
  case clo f cs => rw [List.map_congr_left h]
  case mks s z b l c => rw [h.1, h.2]
  case slc s x lo hi =>
    have h1 : lo.map ev2 = lo.map ev := by cases lo <;> simp_all
    have h2 : hi.map ev2 = hi.map ev := by cases hi <;> simp_all
    cases s <;> simp only [eff] <;> rw [h.1, h1, h2]
    exact vslcL_agree hl.1
  case faddr off x => rw [h]
  case fld b off n x => rw [h]
  case iaddr s x i => rw [h.1, h.2]; exact viaddr_agree hl.1
  case idx x i => rw [h.1, h.2]
  case ext x i => rw [h]
  case len b x => rw [h]
  case app s b x y => rw [h.1, h.2]; exact vapp_agree hl.2 hl.1
  case mm m xs => rw [List.map_congr_left h]

omit [GInv] in
mutual
theorem ids_ment (id : Nat) : ∀ v : V, id ∈ idsV v → ment id v = true
  | .ref k _ _, h => by simp only [idsV, List.mem_singleton] at h; simp [ment, h]
  | .sl k _ _, h => by simp only [idsV, List.mem_singleton] at h; simp [ment, h]
  | .agg cs, h => by simp only [ment]; exact idss_ment id cs (by simpa [idsV] using h)
  | .tup cs, h => by simp only [ment]; exact idss_ment id cs (by simpa [idsV] using h)
  | .clo _ cs, h => by simp only [ment]; exact idss_ment id cs (by simpa [idsV] using h)
  | .undef, h | .v _, h | .rp _ _ _ _, h | .ro _ _, h | .own _ _, h => by simp [idsV] at h
theorem idss_ment (id : Nat) : ∀ cs : List V, id ∈ idsVs cs → ments id cs = true
  | [], h => by simp [idsVs] at h
  | c :: cs, h => by
    simp only [idsVs, List.mem_append] at h
    simp only [ments, Bool.or_eq_true]
    exact h.imp (ids_ment id c) (idss_ment id cs)
end

omit [GInv] in
theorem borrow_deep {hp hp2 : Nat → Option Blk} : ∀ (k : Nat) (v : V), deepV v = true → borrow hp2 k v = borrow hp k v
  | 0, v, _ => rfl
  | k + 1, v, h => by
    have hall : ∀ cs : List V, deeps cs = true → cs.map (borrow hp2 k) = cs.map (borrow hp k) := by
      intro cs
      induction cs with
      | nil => intros; rfl
      | cons c cs ih =>
        intro h0
        simp only [deeps, Bool.and_eq_true] at h0
        simp only [List.map_cons]
        rw [borrow_deep k c h0.1, ih h0.2]
    cases v with
    | undef => rfl
    | v y => rfl
    | rp s es i j => rfl
    | ro s es => rfl
    | ref id i j => simp [deepV] at h
    | sl id i n => simp [deepV] at h
    | own s es => simp only [borrow]; rw [hall es (by simpa [deepV] using h)]
    | agg cs => simp only [borrow]; rw [hall cs (by simpa [deepV] using h)]
    | tup cs => simp only [borrow]; rw [hall cs (by simpa [deepV] using h)]
    | clo f cs => simp only [borrow]; rw [hall cs (by simpa [deepV] using h)]

omit [GInv] in
theorem borrow_agree {hp hp2 : Nat → Option Blk} : ∀ (k : Nat) (v : V), noOwn v = true → (∀ id ∈ idsV v, hp2 id = hp id) → (∀ id ∈ idsV v, ∀ b, hp id = some b → deeps b.es = true) → borrow hp2 k v = borrow hp k v
  | 0, v, _, _, _ => rfl
  | k + 1, v, ho, h, hn => by
    have hall : ∀ cs : List V, noOwns cs = true → (∀ id ∈ idsVs cs, hp2 id = hp id) → (∀ id ∈ idsVs cs, ∀ b, hp id = some b → deeps b.es = true) → cs.map (borrow hp2 k) = cs.map (borrow hp k) := by
      intro cs
      induction cs with
      | nil => intros; rfl
      | cons c cs ih =>
        intro h0 h1 h2
        simp only [noOwns, Bool.and_eq_true] at h0
        simp only [List.map_cons]
        rw [borrow_agree k c h0.1 (fun id hi => h1 id (by simp [idsVs, hi])) (fun id hi => h2 id (by simp [idsVs, hi])), ih h0.2 (fun id hi => h1 id (by simp [idsVs, hi])) (fun id hi => h2 id (by simp [idsVs, hi]))]
    have hflat : ∀ es : List V, deeps es = true → es.map (borrow hp2 k) = es.map (borrow hp k) := fun es hes => by
      induction es with
      | nil => rfl
      | cons c cs ih =>
        simp only [deeps, Bool.and_eq_true] at hes
        simp only [List.map_cons]
        rw [borrow_deep k c hes.1, ih hes.2]
    cases v with
    | undef => rfl
    | v y => rfl
    | rp s es i j => rfl
    | ro s es => rfl
    | ref id i j =>
      simp only [borrow]
      rw [h id (by simp [idsV])]
      split
      · rename_i b hb
        rw [hflat b.es (hn id (by simp [idsV]) b hb)]
      · rfl
    | sl id i n =>
      simp only [borrow]
      rw [h id (by simp [idsV])]
      split
      · rename_i b hb
        have he := hflat b.es (hn id (by simp [idsV]) b hb)
        split
        · rw [List.map_take, List.map_drop, he, List.map_take, List.map_drop]
        · rfl
      · rfl
    | own s es => simp [noOwn] at ho
    | agg cs => simp only [borrow]; rw [hall cs (by simpa [noOwn] using ho) (by simpa [idsV] using h) (by simpa [idsV] using hn)]
    | tup cs => simp only [borrow]; rw [hall cs (by simpa [noOwn] using ho) (by simpa [idsV] using h) (by simpa [idsV] using hn)]
    | clo f cs => simp only [borrow]; rw [hall cs (by simpa [noOwn] using ho) (by simpa [idsV] using h) (by simpa [idsV] using hn)]

omit [GInv] in
theorem idsVs_append : ∀ (xs ys : List V), idsVs (xs ++ ys) = idsVs xs ++ idsVs ys
  | [], ys => rfl
  | x :: xs, ys => by simp [idsVs, idsVs_append xs ys]

omit [GInv] in
theorem idsVs_map {α : Type} (f : α → V) : ∀ xs : List α, idsVs (xs.map f) = xs.flatMap (fun x => idsV (f x))
  | [] => rfl
  | x :: xs => by simp [idsVs, idsVs_map f xs]

omit [GInv] in
theorem map_borrow_agree {hp hp2 : Nat → Option Blk} : ∀ (vs : List V), noOwns vs = true → (∀ id ∈ idsVs vs, hp2 id = hp id) → (∀ id ∈ idsVs vs, ∀ b, hp id = some b → deeps b.es = true) → vs.map (borrow hp2 6) = vs.map (borrow hp 6)
  | [], _, _, _ => rfl
  | v :: vs, ho, h, hn => by
    simp only [noOwns, Bool.and_eq_true] at ho
    simp only [List.map_cons]
    rw [borrow_agree 6 v ho.1 (fun id hi => h id (by simp [idsVs, hi])) (fun id hi => hn id (by simp [idsVs, hi])), map_borrow_agree vs ho.2 (fun id hi => h id (by simp [idsVs, hi])) (fun id hi => hn id (by simp [idsVs, hi]))]

/-- The operands whose blocks an operation looks at. -/
def xsT : O → List Abs.X
  | .mv _ => []
  | o => xsO o
omit [GInv] in
theorem xsT_sub {o : O} : ∀ x ∈ xsT o, x ∈ xsO o := by
  intro x hx
  cases o <;> first | exact hx | cases hx
/-- The blocks that an operation's operands lead to. -/
def tch (c : CO) (s : St) : List Nat := (xsT c.o).flatMap fun x => idsV (s.ev x)

theorem callX_agree {f : Nat} {vs : List V} {s s2 : St} {d : Nat} {tr : Tr} (h : ∀ id ∈ idsVs vs, s2.hp id = s.hp id) (hc : callX P f vs s d tr) : callX P f vs s2 d tr := by
  rcases hc with ⟨res, h1, h2, h3, h4, h5, h6⟩ | ⟨M, Z, H0, l, res, h1, h2, h3, h4, h5, h6, h7, h8, h9, h10⟩
  · refine .inl ⟨res, ?_, h2, h3, h4, h5, fun id hi b hb => h6 id hi b (by rw [← h id hi]; exact hb)⟩
    rw [map_borrow_agree vs h5 h h6]; exact h1
  · have hz : onlyZ Z s2.hp = onlyZ Z s.hp := by
      funext id
      unfold onlyZ
      split
      · rename_i hid
        exact h id (by simpa using List.all_eq_true.1 h9 id hid)
      · rfl
    refine .inr ⟨M, Z, H0, l, res, by rw [hz]; exact h1, h2, h3, ?_, h5, h6, h7, h8, h9, h10⟩
    rw [← h4]
    refine List.map_congr_left fun id hid => h id ?_
    have := List.all_eq_true.1 h8 id hid
    simpa using this

theorem ex_agree {c : CO} {s s2 : St} {tr : Tr} (h : ex P c s tr) (hs : ∀ t ∈ rdS c, s2.sl t = s.sl t) (hh : ∀ id ∈ tch c s, s2.hp id = s.hp id) : ex P c s2 tr := by
  have hev : ∀ x ∈ xsO c.o, s2.ev x = s.ev x := ev_agree fun t ht => hs t (List.mem_append_right _ ht)
  have hids : ∀ x ∈ xsT c.o, ∀ id ∈ idsV (s.ev x), s2.hp id = s.hp id := fun x hx id hi => hh id (List.mem_flatMap.2 ⟨x, hx, hi⟩)
  have exe : exec P c s tr → exec P c s2 tr := by
    intro he
    unfold exec at he ⊢
    split
    · rename_i f xs hco
      rw [hco] at he hev hids
      obtain ⟨d, hd, hc⟩ := he
      refine ⟨d, hd, ?_⟩
      rw [map_agree (xs := xs) hev]
      refine callX_agree (fun id hi => ?_) hc
      rw [idsVs_map] at hi
      obtain ⟨x, hx, hi⟩ := List.mem_flatMap.1 hi
      exact hids x (by simpa [xsT, xsO] using hx) id hi
    · rename_i x xs hco
      rw [hco] at he hev hids
      obtain ⟨d, hd, hc⟩ := he
      refine ⟨d, hd, ?_⟩
      rw [hev x (by simp [xsO]), map_agree (fun y hy => hev y (by simp [xsO, hy]))]
      split at hc
      · rename_i f caps hclo
        refine callX_agree (fun id hi => ?_) hc
        rw [idsVs_append, List.mem_append, idsVs_map] at hi
        rcases hi with hi | hi
        · obtain ⟨y, hy, hi⟩ := List.mem_flatMap.1 hi
          exact hids y (by simp [xsT, xsO, hy]) id hi
        · exact hids x (by simp [xsT, xsO]) id (by rw [hclo]; simpa [idsV] using hi)
      · exact hc.elim
    · rename_i hn1 hn2
      have he' : ∃ p δ, eff s.ev s.hp (c.d.getD 0) c.o = some (p, δ) ∧ p ∧ tr = trOf δ c.d := by
        cases hco : c.o <;> rw [hco] at he hn1 hn2 <;> first | exact he | exact absurd rfl (hn1 _ _) | exact absurd rfl (hn2 _ _)
      obtain ⟨p, δ, h1, h2, h3⟩ := he'
      refine ⟨p, δ, ?_, h2, h3⟩
      cases hco : c.o with
      | mv x =>
        rw [hco] at h1 hev
        simpa [eff, hev x (by simp [xsO])] using h1
      | _ => rw [← hco, eff_agree hev (fun x hx => hids x (by rw [hco] at hx ⊢; exact hx))]; exact h1
  unfold ex at h ⊢
  split
  · rename_i hg
    rw [hg] at h
    exact exe h
  · rename_i t b hg
    rw [hg] at h
    have ht := hs t (by simp [rdS, hg])
    rcases h with ⟨v, hv, h⟩ | ⟨hv, h⟩
    · exact .inl ⟨v, by rw [ht]; exact hv, h.imp (fun h => ⟨h.1, exe h.2⟩) id⟩
    · exact .inr ⟨by rw [ht]; exact hv, h⟩

/-- Values and blocks of a change lead to no block of the list. -/
def Tr.free (tr : Tr) (ids : List Nat) : Bool := ids.all fun d => !ment d tr.v && tr.hp.all fun p => p.1 != d && match p.2 with | some b => !ments d b.es | none => true

omit [GInv] in
theorem updo_other {f : Nat → Option Blk} : ∀ {l : List (Nat × Option Blk)} {i : Nat}, i ∉ l.map (·.1) → updo f l i = f i
  | [], i, h => rfl
  | (j, b) :: l, i, h => by
    simp only [List.map_cons, List.mem_cons, not_or] at h
    simp only [updo]
    rw [updo_other h.2, upd_ne _ _ h.1]

omit [GInv] in
theorem updo_cases {f : Nat → Option Blk} : ∀ (l : List (Nat × Option Blk)) (i : Nat), updo f l i = f i ∨ ∃ b, (i, b) ∈ l ∧ updo f l i = b
  | [], i => .inl rfl
  | (j, b) :: l, i => by
    simp only [updo]
    rcases updo_cases (f := upd f j b) l i with h | ⟨b', h1, h2⟩
    · rw [h]
      by_cases e : i = j
      · subst e; right; exact ⟨b, by simp, by simp⟩
      · left; exact upd_ne _ _ e
    · exact .inr ⟨b', List.mem_cons_of_mem _ h1, h2⟩

omit [GInv] in
theorem Tr.free_fresh {tr : Tr} {ids : List Nat} (h : tr.free ids = true) {d : Nat} (hd : d ∈ ids) {c : Option Nat} {s : St} (hf : Fresh s d) : Fresh (tr.ap c s) d := by
  have := List.all_eq_true.1 h d hd
  simp only [Bool.and_eq_true, Bool.not_eq_true', List.all_eq_true, bne_iff_ne, ne_eq] at this
  obtain ⟨h1, h2⟩ := this
  refine ⟨fun t => ?_, fun id blk hb => ?_, ?_⟩
  · cases c with
    | none => exact hf.sl t
    | some c =>
      simp only [Tr.ap, upd]
      split
      · exact h1
      · exact hf.sl t
  · rcases updo_cases (f := s.hp) tr.hp id with e | ⟨b, hm, e⟩
    · exact hf.hp id blk (by rw [← e]; exact hb)
    · have hb' : updo s.hp tr.hp id = some blk := hb
      rw [e] at hb'; subst hb'
      have := (h2 _ hm).2
      simpa using this
  · show updo s.hp tr.hp d = none
    rw [updo_other]
    · exact hf.no
    · intro hm
      obtain ⟨p, hp, e⟩ := List.mem_map.1 hm
      exact (h2 p hp).1 e
end
end Go.Abs

set_option linter.unusedVariables false
set_option linter.unusedSimpArgs false
namespace Go.Abs
variable [GInv]

/-- An operation with what it does, its place, the blocks that it touches. -/
structure It where
  c : CO
  tr : Tr
  i : Nat
  T : List Nat

def It.ap (e : It) (s : St) : St := e.tr.ap e.c.d s

def fin : St → List It → St
  | s, [] => s
  | s, e :: es => fin (e.ap s) es

def steps (P : Program) : St → List It → Prop
  | _, [] => True
  | s, e :: es => ex P e.c s e.tr ∧ (∀ id ∈ tch e.c s, id ∈ e.T) ∧ steps P (e.ap s) es

def offSlots (a b : It) : Bool := (match a.c.d with | some d => !(rdS b.c).contains d | none => true)

/-- Neither writes what the other reads or writes. -/
def ind (a b : It) : Bool :=
  offSlots a b && offSlots b a && (match a.c.d, b.c.d with | some d, some d' => d != d' | _, _ => true) &&
  (a.tr.hp.all fun p => !b.T.contains p.1 && b.tr.hp.all fun q => q.1 != p.1) && (b.tr.hp.all fun q => !a.T.contains q.1)

omit [GInv] in
theorem ind_spec {a b : It} (h : ind a b = true) : (∀ d, a.c.d = some d → d ∉ rdS b.c) ∧ (∀ d, b.c.d = some d → d ∉ rdS a.c) ∧ (∀ d, a.c.d = some d → b.c.d ≠ some d) ∧
    (∀ p ∈ a.tr.hp, p.1 ∉ b.T ∧ p.1 ∉ b.tr.hp.map (·.1)) ∧ (∀ q ∈ b.tr.hp, q.1 ∉ a.T) := by
  simp only [ind, Bool.and_eq_true, List.all_eq_true, Bool.not_eq_true', bne_iff_ne, ne_eq] at h
  obtain ⟨⟨⟨⟨h1, h2⟩, h3⟩, h4⟩, h5⟩ := h
  refine ⟨fun d hd => ?_, fun d hd => ?_, fun d hd e => ?_, fun p hp => ⟨?_, fun hm => ?_⟩, fun q hq => ?_⟩
  · simp only [offSlots, hd, Bool.not_eq_true'] at h1; simpa using h1
  · simp only [offSlots, hd, Bool.not_eq_true'] at h2; simpa using h2
  · rw [hd, e] at h3; simp at h3
  · simpa using (h4 p hp).1
  · obtain ⟨q, hq, e⟩ := List.mem_map.1 hm
    exact (h4 p hp).2 q hq e
  · simpa using h5 q hq

section
variable {P : Program}

omit [GInv] in
theorem updo_comm {f : Nat → Option Blk} {l l' : List (Nat × Option Blk)} (h : ∀ p ∈ l, p.1 ∉ l'.map (·.1)) : updo (updo f l) l' = updo (updo f l') l := by
  have key : ∀ (l : List (Nat × Option Blk)) (f g : Nat → Option Blk) (i : Nat), i ∈ l.map (·.1) → updo f l i = updo g l i := by
    intro l
    induction l with
    | nil => intro f g i hi; simp at hi
    | cons p l ih =>
      intro f g i hi
      obtain ⟨j, b⟩ := p
      simp only [updo]
      by_cases hm : i ∈ l.map (·.1)
      · exact ih _ _ i hm
      · have : i = j := by simp only [List.map_cons, List.mem_cons] at hi; exact hi.resolve_right hm
        subst this
        rw [updo_other hm, updo_other hm]; simp
  funext i
  by_cases h1 : i ∈ l.map (·.1)
  · have h2 : i ∉ l'.map (·.1) := by
      obtain ⟨p, hp, rfl⟩ := List.mem_map.1 h1
      exact h p hp
    rw [updo_other h2]
    exact key l _ _ i h1
  · rw [updo_other h1]
    by_cases h2 : i ∈ l'.map (·.1)
    · exact key l' _ _ i h2
    · rw [updo_other h2, updo_other h2, updo_other h1]

theorem swap {x e : It} {s : St} (hx : ex P x.c s x.tr) (hxT : ∀ id ∈ tch x.c s, id ∈ x.T) (he : ex P e.c (x.ap s) e.tr) (heT : ∀ id ∈ tch e.c (x.ap s), id ∈ e.T) (hi : ind x e = true) :
    ex P e.c s e.tr ∧ (∀ id ∈ tch e.c s, id ∈ e.T) ∧ ex P x.c (e.ap s) x.tr ∧ (∀ id ∈ tch x.c (e.ap s), id ∈ x.T) ∧ e.ap (x.ap s) = x.ap (e.ap s) := by
  obtain ⟨i1, i2, i3, i4, i5⟩ := ind_spec hi
  have sl1 : ∀ t ∈ rdS e.c, s.sl t = (x.ap s).sl t := by
    intro t ht
    cases hd : x.c.d with
    | none => simp only [It.ap, Tr.ap, hd]
    | some d =>
      have : t ≠ d := fun e' => i1 d hd (e' ▸ ht)
      simp only [It.ap, Tr.ap, hd]; rw [upd_ne _ _ this]
  have sl2 : ∀ t ∈ rdS x.c, (e.ap s).sl t = s.sl t := by
    intro t ht
    cases hd : e.c.d with
    | none => simp only [It.ap, Tr.ap, hd]
    | some d =>
      have : t ≠ d := fun e' => i2 d hd (e' ▸ ht)
      simp only [It.ap, Tr.ap, hd]; rw [upd_ne _ _ this]
  have tchEq : ∀ {c : CO} {s s2 : St}, (∀ t ∈ rdS c, s2.sl t = s.sl t) → tch c s2 = tch c s := by
    intro c s s2 h
    have hev := ev_agree (xs := xsO c.o) (s := s) (s2 := s2) fun t ht => h t (List.mem_append_right _ ht)
    simp only [tch]
    have key : ∀ xs : List Abs.X, (∀ x ∈ xs, s2.ev x = s.ev x) → xs.flatMap (fun x => idsV (s2.ev x)) = xs.flatMap (fun x => idsV (s.ev x)) := by
      intro xs
      induction xs with
      | nil => intro _; rfl
      | cons y ys ih => intro h; simp only [List.flatMap_cons]; rw [h y (by simp), ih fun z hz => h z (by simp [hz])]
    exact key _ fun x hx => hev x (xsT_sub x hx)
  have t1 : tch e.c s = tch e.c (x.ap s) := tchEq sl1
  have t2 : tch x.c (e.ap s) = tch x.c s := tchEq sl2
  refine ⟨ex_agree he sl1 fun id hid => ?_, fun id hid => heT id (by rw [← t1]; exact hid), ex_agree hx sl2 fun id hid => ?_, fun id hid => hxT id (by rw [← t2]; exact hid), ?_⟩
  · show s.hp id = updo s.hp x.tr.hp id
    rw [updo_other]
    intro hm
    obtain ⟨p, hp, rfl⟩ := List.mem_map.1 hm
    exact (i4 p hp).1 (heT _ hid)
  · show updo s.hp e.tr.hp id = s.hp id
    rw [updo_other]
    intro hm
    obtain ⟨p, hp, rfl⟩ := List.mem_map.1 hm
    exact i5 p hp (hxT _ hid)
  · simp only [It.ap, Tr.ap]
    rw [updo_comm fun p hp => (i4 p hp).2]
    congr 1
    cases hd : x.c.d with
    | none => rfl
    | some d =>
      cases hd' : e.c.d with
      | none => rfl
      | some d' =>
        have hne : d ≠ d' := fun e' => i3 d hd (by rw [hd', e'])
        funext i
        simp only [upd]
        split <;> split <;> simp_all

/-- An operation that is apart from all ahead of it may come first. -/
theorem front {e : It} : ∀ (l1 l2 : List It) (s : St), steps P s (l1 ++ e :: l2) → (∀ x ∈ l1, ind x e = true) → steps P s (e :: (l1 ++ l2)) ∧ fin s (l1 ++ e :: l2) = fin s (e :: (l1 ++ l2))
  | [], l2, s, h, _ => ⟨h, rfl⟩
  | x :: l1, l2, s, h, hi => by
    simp only [List.cons_append, steps] at h
    obtain ⟨h1, h2, h3⟩ := h
    obtain ⟨g1, g2⟩ := front l1 l2 (x.ap s) h3 (fun y hy => hi y (by simp [hy]))
    simp only [steps] at g1
    obtain ⟨k1, k2, k3⟩ := g1
    obtain ⟨m1, m2, m3, m4, m5⟩ := swap h1 h2 k1 k2 (hi x (by simp))
    refine ⟨?_, ?_⟩
    · simp only [steps, List.cons_append]
      exact ⟨m1, m2, m3, m4, by rw [← m5]; exact k3⟩
    · simp only [List.cons_append, fin]
      rw [g2]
      simp only [fin]
      rw [m5]
end

/-- Each pair of operations is ordered, or apart. 'pl': what stands ahead of each. -/
def indep (pl : List (List Nat)) (its : List It) : Bool :=
  its.all fun a => its.all fun b => if a.i < b.i then a.tr.free b.tr.news && ((pl.getD b.i []).contains a.i || (ind a b && b.tr.free a.tr.news)) else true

section
variable {P : Program} {X : Ctx} {Q : Exit → Act → World → Prop}

omit [GInv] in
theorem Fresh.sunk {s : St} {d : Nat} (h : Fresh s d) (Z : List Nat) : Fresh (s.sunk Z) d := by
  refine ⟨h.sl, fun id blk hb => ?_, ?_⟩
  · simp only [St.sunk] at hb
    split at hb
    · cases hb
    · exact h.hp id blk hb
  · simp only [St.sunk]
    split
    · rfl
    · exact h.no
omit [GInv] in
theorem Fresh.wrote {s : St} {d : Nat} {M : List Nat} {H0 : List Blk} {l : List Blk} (h : Fresh s d) (hH : M.map s.hp = H0.map some) (ho : outIds (l.map some) = true) : Fresh (s.wrote M (l.map some)) d := by
  refine ⟨h.sl, fun id blk hb => ?_, ?_⟩
  · simp only [St.wrote] at hb
    split at hb
    · rename_i k hk
      have hb' : (l.map some)[k]? = some (some blk) := by
        cases hh : (l.map some)[k]? with
        | none => rw [hh] at hb; cases hb
        | some o => rw [hh] at hb; simp only [Option.join_some] at hb; rw [hb]
      exact ments_noIds d _ (outIds_get _ k blk ho hb')
    · exact h.hp id blk hb
  · simp only [St.wrote]
    split
    · rename_i k hk
      have h1 := idx?_some M d k hk
      have h2 : (M.map s.hp)[k]? = some (s.hp d) := by rw [List.getElem?_map, h1]; rfl
      rw [hH, h.no, List.getElem?_map] at h2
      cases hk' : H0[k]? with
      | none => rw [hk'] at h2; cases h2
      | some b => rw [hk'] at h2; cases h2
    · exact h.no
/-- One operation of such a statement. -/
theorem ex_ok {ops : Array Oper} {o : Oper} {i : Nat} {c : CO} {tr : Tr} {s : St} {a : Act} {w : World} {K' : Act → World → Prop} (ho : ops[i]? = some o) (hc : cOper P ops X.n o = some c) (h : Rel X s a w) (hex : ex P c s tr)
    (hfr : ∀ d ∈ tr.news, Fresh s d ∧ d ∉ X.pin) (hK : ∀ a' w', Rel X (tr.ap c.d s) a' w' → K' a' w') : wpOp P ops Q i K' a w := by
  obtain ⟨hq, hdst, hdn, hst, hns, hg⟩ := cOper_eq hc
  have callRule : ∀ (f : Nat) (vs : List V) (d : Nat) (args : Array Value), callX P f vs s d tr → o.dst = some d → (∀ D φ F, RelD X s a w D φ F [] → CVs w D vs φ args.toList []) →
      (callable P f = true → (execOp a.eval o).run P w = .ok (.enter f args) w) → o.wp P a w K' Q := by
    intro f vs d args hcall hd hv hr
    rcases hcall with hcall | ⟨M, Z, H0, l, res, hP, hM, hMZ, hH, hn0, hout, hres, _, _, rfl⟩
    rotate_left
    · have hlH : H0.length = M.length := by
        have := congrArg List.length hH
        rw [List.length_map, List.length_map] at this
        exact this.symm
      have hll : l.length = M.length := by
        have := hP.2.1
        rw [List.length_map] at this
        exact this.trans hlH
      refine wp_of_call (hr hP.1) ?_
      have hfr' : ∀ i, i < (take d 0 res).2.2 → Fresh ((s.sunk Z).wrote M (l.map some)) (d + 1000 * i) ∧ d + 1000 * i ∉ X.pin := fun i hi => by
        have h1 := hfr _ (List.mem_map.2 ⟨i, List.mem_range.2 hi, rfl⟩)
        refine ⟨(h1.1.sunk Z).wrote (H0 := H0) ?_ hout, h1.2⟩
        rw [← hH]
        exact List.map_congr_left fun id hid => by simp only [St.sunk, if_neg (fun hz => hMZ id hz hid)]
      have := mcall_okZ (k := 6) (d := d) hP h hM hMZ hH hn0 (fun j blk hj => outIds_get _ j blk hout hj) hv (hdn d hd) hres hfr'
      rw [Array.toArray_toList] at this
      refine this.mono ?_
      rintro e w' ⟨y, rfl, hrel⟩
      rw [hd]
      refine ⟨y, rfl, hK _ _ ?_⟩
      rw [hdst, hd, trM_ap d res s hM hll]; exact hrel
    obtain ⟨res, hP, hres, hro, rfl, _, _⟩ := hcall
    refine wp_of_call (hr hP.1) ?_
    have hfr' : ∀ i, i < (take d 0 res).2.2 → Fresh s (d + 1000 * i) ∧ d + 1000 * i ∉ X.pin := fun i hi => hfr _ (List.mem_map.2 ⟨i, List.mem_range.2 hi, rfl⟩)
    have := call_ok (k := 6) (d := d) hP h hv (hdn d hd) hres hro hfr'
    rw [Array.toArray_toList] at this
    refine this.mono ?_
    rintro e w' ⟨y, rfl, hrel⟩
    rw [hd]
    refine ⟨y, rfl, hK _ _ ?_⟩
    rw [hdst, hd, trTake_ap]; exact hrel
  have run : exec P c s tr → o.wp P a w K' Q := by
    intro hex
    unfold exec at hex
    split at hex
    · rename_i f xs hco
      rw [hco] at hq
      obtain ⟨d, hd, hcall⟩ := hex
      rw [hdst] at hd
      obtain ⟨cl, hop⟩ := cOp_isCall hq rfl
      rw [hop] at hq
      rcases cOp_call hq rfl with ⟨f', xs', e, hcal, hx⟩ | ⟨t, xs', e, hcal, hx⟩
      · cases e
        refine callRule f _ d (cl.args.map a.eval) hcall hd (fun D φ F hr => by simpa using cXs_ok hr hx) fun hcb => ?_
        simp [execOp, hop, resolve, hcal, Act.eval, Deferred.ofValue, invoke, callFunc_run hcb]
      · cases e
    · rename_i x xs hco
      rw [hco] at hq
      obtain ⟨d, hd, hcall⟩ := hex
      rw [hdst] at hd
      obtain ⟨cl, hop⟩ := cOp_isCall hq rfl
      rw [hop] at hq
      rcases cOp_call hq rfl with ⟨f', xs', e, hcal, hx⟩ | ⟨t, xs', e, hcal, hx⟩
      · cases e
      · cases e
        split at hcall
        · rename_i f caps hclo
          obtain ⟨D, φ, F, hrel⟩ := h
          have hslot := hrel.slots t
          have hcl : s.sl t = .clo f caps := hclo
          rw [hcl] at hslot
          simp only [CV] at hslot
          obtain ⟨ys, hys, _⟩ := hslot
          refine callRule f _ d (cl.args.map a.eval ++ ys) hcall hd (fun D φ F hr => ?_) fun hcb => ?_
          · rw [Array.toList_append]
            have h2 := hr.slots t
            rw [hcl, hys] at h2
            simp only [CV] at h2
            obtain ⟨zs, hz, hcv⟩ := h2
            cases hz
            have := CVs_append (cXs_ok hr hx) hcv
            simpa using this
          · have he : a.eval (.tmp t) = .func (.func f) #[] ys := hys
            simp [execOp, hop, resolve, hcal, he, Deferred.ofValue, invoke, callFunc_run hcb]
        · exact hcall.elim
    · obtain ⟨p, δ, he, hp, rfl⟩ := hex
      obtain ⟨D, φ, F, hrel⟩ := h
      have hruns : Runs P o X a w (δ.app o.dst s) := by
        refine eff_ok hq hrel hdn hst hns (p := p) (by rw [← hdst]; exact he) hp fun hn d hd => hfr d ?_
        rw [hdst, hd]
        cases hnew : δ.new with
        | none => rw [hnew] at hn; cases hn
        | some b => simp [trOf, hnew]
      exact wp_of_runs hruns fun a' w' hr => hK a' w' (by rw [trOf_ap, hdst]; exact hr)
  unfold wpOp
  rw [ho]
  simp only
  unfold ex at hex
  rcases hg with ⟨hg1, hg2⟩ | ⟨j, b, t, hg1, hg2, hj⟩
  · rw [hg2] at hex
    rw [if_pos (by simp [Region.wanted, hg1])]
    exact .inl (run hex)
  · rw [hg2] at hex
    have h' := h
    obtain ⟨D, φ, F, hrel⟩ := h'
    have hslot := hrel.slots t
    rcases hex with ⟨v, hv, hex⟩ | ⟨hv, rfl⟩
    rotate_left
    · rw [hv] at hslot
      have hy := yielded_undef (ops := ops) hj (CV_tup0 hslot)
      rw [if_neg (by simp [Region.wanted, hg1, hy])]
      refine hK _ _ ⟨D, φ, F, ?_⟩
      rw [hdst]
      cases hd : o.dst with
      | none => exact hrel
      | some d => exact hrel.put d (hdn d hd) (.tup []) undef CV_tup0_mk
    rw [hv] at hslot
    have hy := yielded_of (ops := ops) hj (CV_v hslot)
    rcases hex with ⟨e, hex⟩ | ⟨e, rfl⟩
    · rw [if_pos (by simp [Region.wanted, hg1, hy, e])]
      exact .inl (run hex)
    · rw [if_neg (by simp [Region.wanted, hg1, hy, e])]
      refine hK _ _ ⟨D, φ, F, ?_⟩
      rw [hdst]
      cases hd : o.dst with
      | none => exact hrel
      | some d => exact hrel.put d (hdn d hd) (.tup []) undef CV_tup0_mk

def rem (all : List It) (listed : Array Bool) : List It := all.filter fun e => !listed.getD e.i true

/-- The conditions on the region that the compact form's maker checks: edges lead back; 'pl' is closed. -/
def plOk (ops : Array Oper) (pl : List (List Nat)) : Bool :=
  (List.range ops.size).all fun i => match ops[i]? with
    | some o => o.after.all (fun e => !Region.binds .any e || decide (e.on < i)) &&
        (pl.getD i []).all fun j => o.after.any fun e => Region.binds .any e && (e.on == j || (pl.getD e.on []).contains j)
    | none => true

omit [GInv] in
theorem mem_ready {ops : Array Oper} {listed : Array Bool} {i : Nat} : i ∈ Region.ready .any ops listed ↔ i < ops.size ∧ listed.getD i true = false ∧ ∃ o, ops[i]? = some o ∧ ∀ e ∈ o.after.toList, Region.binds .any e = true → listed.getD e.on false = true := by
  unfold Region.ready
  rw [List.mem_filter, List.mem_range]
  constructor
  · rintro ⟨h1, h2⟩
    simp only [Bool.and_eq_true, Bool.not_eq_true'] at h2
    refine ⟨h1, h2.1, ?_⟩
    cases ho : ops[i]? with
    | none => rw [ho] at h2; simp at h2
    | some o =>
      rw [ho] at h2
      refine ⟨o, rfl, fun e he hb => ?_⟩
      have h3 := h2.2
      simp only [Option.map_some, Option.getD_some, Array.all_eq_true', Bool.or_eq_true, Bool.not_eq_true'] at h3
      have := h3 e (by simpa using he)
      rw [hb] at this
      simpa using this
  · rintro ⟨h1, h2, o, ho, h3⟩
    refine ⟨h1, ?_⟩
    rw [ho]
    simp only [Bool.and_eq_true, Bool.not_eq_true', Option.map_some, Option.getD_some, Array.all_eq_true', Bool.or_eq_true]
    refine ⟨h2, fun e he => ?_⟩
    cases hb : Region.binds .any e with
    | false => exact .inl rfl
    | true => exact .inr (h3 e (by simpa using he) hb)

omit [GInv] in
theorem getD_set (listed : Array Bool) (i j : Nat) (b d : Bool) (hi : i < listed.size) : (listed.setIfInBounds i b).getD j d = if j = i then b else listed.getD j d := by
  simp only [Array.getD_eq_getD_getElem?, Array.getElem?_setIfInBounds]
  by_cases e : i = j
  · subst e; simp [hi]
  · simp [e, Ne.symm e]

structure Plan (P : Program) (X : Ctx) (ops : Array Oper) (pl : List (List Nat)) (all : List It) : Prop where
  len : all.length = ops.size
  at_ : ∀ (k : Nat) (e : It), all[k]? = some e → e.i = k ∧ ∃ o, ops[k]? = some o ∧ cOper P ops X.n o = some e.c
  ok : plOk ops pl = true
  apart : indep pl all = true

omit [GInv] in
theorem Plan.sorted {ops : Array Oper} {pl : List (List Nat)} {all : List It} (h : Plan P X ops pl all) : all.Pairwise (fun a b => a.i < b.i) := by
  rw [List.pairwise_iff_getElem]
  intro i j hi hj hij
  have h1 := (h.at_ i _ (List.getElem?_eq_getElem hi)).1
  have h2 := (h.at_ j _ (List.getElem?_eq_getElem hj)).1
  rw [h1, h2]; exact hij

theorem any_ok {ops : Array Oper} {pl : List (List Nat)} {all : List It} (hp : Plan P X ops pl all) : ∀ (fuel : Nat) (listed : Array Bool) (s : St) (a : Act) (w : World), listed.size = ops.size → (rem all listed).length = fuel →
    (∀ i, i < ops.size → listed.getD i true = true → ∀ j ∈ pl.getD i [], listed.getD j true = true) → steps P s (rem all listed) → (∀ e ∈ rem all listed, ∀ d ∈ e.tr.news, Fresh s d ∧ d ∉ X.pin) → Rel X s a w →
    (∀ a' w', Rel X (fin s (rem all listed)) a' w' → Q .normal a' w') → wpAny P .any ops Q fuel listed a w
  | 0, listed, s, a, w, hsz, hlen, hcl, hst, hfr, hrel, hQ => by
    have hnil : rem all listed = [] := List.eq_nil_of_length_eq_zero hlen
    refine ⟨?_, hQ a w (by rw [hnil]; exact hrel)⟩
    rw [List.eq_nil_iff_forall_not_mem]
    intro i hi
    obtain ⟨h1, h2, _⟩ := mem_ready.1 hi
    have hlt : i < all.length := by rw [hp.len]; exact h1
    have hm : all[i] ∈ rem all listed := by
      refine List.mem_filter.2 ⟨List.getElem_mem hlt, ?_⟩
      rw [(hp.at_ i _ (List.getElem?_eq_getElem hlt)).1, h2]; rfl
    rw [hnil] at hm; cases hm
  | fuel + 1, listed, s, a, w, hsz, hlen, hcl, hst, hfr, hrel, hQ => by
    have edges : ∀ i o, i < ops.size → ops[i]? = some o → ∀ e ∈ o.after.toList, Region.binds .any e = true → e.on < i := by
      intro i o hi ho e he hb
      have h := List.all_eq_true.1 hp.ok i (List.mem_range.2 hi)
      rw [ho] at h
      simp only [Bool.and_eq_true, Array.all_eq_true', Bool.or_eq_true, Bool.not_eq_true', decide_eq_true_eq] at h
      have := h.1 e (by simpa using he)
      rw [hb] at this
      exact this.resolve_left (by simp)
    have closed : ∀ i o, i < ops.size → ops[i]? = some o → ∀ j ∈ pl.getD i [], ∃ e ∈ o.after.toList, Region.binds .any e = true ∧ (e.on = j ∨ j ∈ pl.getD e.on []) := by
      intro i o hi ho j hj
      have h := List.all_eq_true.1 hp.ok i (List.mem_range.2 hi)
      rw [ho] at h
      simp only [Bool.and_eq_true, List.all_eq_true, Array.any_eq_true'] at h
      obtain ⟨e, he, hb, hor⟩ := h.2 j hj
      refine ⟨e, by simpa using he, hb, ?_⟩
      simpa using hor
    refine ⟨fun hnone => ?_, fun i hi => ?_⟩
    · -- the first that is left is ready
      exfalso
      cases hR : rem all listed with
      | nil => rw [hR] at hlen; simp at hlen
      | cons e R =>
        have hm : e ∈ rem all listed := by rw [hR]; simp
        obtain ⟨hm1, hm2⟩ := List.mem_filter.1 hm
        obtain ⟨k, hk⟩ := List.mem_iff_getElem?.1 hm1
        obtain ⟨hi, o, ho, _⟩ := hp.at_ k e hk
        have hklt : k < ops.size := by have := (List.getElem?_eq_some_iff.1 hk).1; rw [hp.len] at this; exact this
        have hready : k ∈ Region.ready .any ops listed := by
          refine mem_ready.2 ⟨hklt, by rw [← hi]; simpa using hm2, o, ho, fun ed hed hb => ?_⟩
          have hlt := edges k o hklt ho ed hed hb
          cases hg : listed.getD ed.on false with
          | true => rfl
          | false =>
            exfalso
            have hlt' : ed.on < all.length := by rw [hp.len]; omega
            have hei := (hp.at_ ed.on _ (List.getElem?_eq_getElem hlt')).1
            have hm' : all[ed.on] ∈ rem all listed := by
              refine List.mem_filter.2 ⟨List.getElem_mem hlt', ?_⟩
              rw [hei]
              have : listed.getD ed.on true = listed.getD ed.on false := by
                simp only [Array.getD_eq_getD_getElem?]
                rw [Array.getElem?_eq_getElem (by omega)]; rfl
              rw [this, hg]; rfl
            rw [hR] at hm'
            have hsort : (e :: R).Pairwise (fun a b => a.i < b.i) := by
              rw [← hR]; exact hp.sorted.sublist List.filter_sublist
            rcases List.mem_cons.1 hm' with e1 | e1
            · rw [e1, hi] at hei; omega
            · have := (List.pairwise_cons.1 hsort).1 _ e1
              rw [hei, hi] at this; omega
        rw [hnone] at hready; cases hready
    · obtain ⟨hilt, hun, o, ho, hed⟩ := mem_ready.1 hi
      have hlt : i < all.length := by rw [hp.len]; exact hilt
      have hat := hp.at_ i _ (List.getElem?_eq_getElem hlt)
      obtain ⟨hei, o', ho', hco⟩ := hat
      rw [ho] at ho'; cases ho'
      have hm : all[i] ∈ rem all listed := List.mem_filter.2 ⟨List.getElem_mem hlt, by rw [hei, hun]; rfl⟩
      generalize he : all[i] = e at *
      obtain ⟨l1, l2, hR⟩ := List.append_of_mem hm
      have hsort : (l1 ++ e :: l2).Pairwise (fun a b => a.i < b.i) := by rw [← hR]; exact hp.sorted.sublist List.filter_sublist
      have hl1 : ∀ x ∈ l1, x.i < i := fun x hx => by
        have := (List.pairwise_append.1 hsort).2.2 x hx e (by simp)
        rw [hei] at this; exact this
      have hl2 : ∀ x ∈ l2, i < x.i := fun x hx => by
        have := (List.pairwise_cons.1 (List.pairwise_append.1 hsort).2.1).1 x hx
        rw [hei] at this; exact this
      -- all that stands ahead of e has been carried out
      have hpre : ∀ j ∈ pl.getD i [], listed.getD j true = true := by
        intro j hj
        obtain ⟨ed, hed1, hb, hor⟩ := closed i o hilt ho j hj
        have hon := hed ed hed1 hb
        have honlt := edges i o hilt ho ed hed1 hb
        have hon' : listed.getD ed.on true = true := by
          have : listed.getD ed.on true = listed.getD ed.on false := by
            simp only [Array.getD_eq_getD_getElem?]
            rw [Array.getElem?_eq_getElem (by omega)]; rfl
          rw [this]; exact hon
        rcases hor with rfl | hor
        · exact hon'
        · exact hcl ed.on (by omega) hon' j hor
      have hmemR : ∀ x ∈ rem all listed, x ∈ all ∧ listed.getD x.i true = false := fun x hx => by
        obtain ⟨g1, g2⟩ := List.mem_filter.1 hx
        exact ⟨g1, by simpa using g2⟩
      have hpair : ∀ a ∈ all, ∀ b ∈ all, a.i < b.i → a.tr.free b.tr.news = true ∧ (a.i ∈ pl.getD b.i [] ∨ (Abs.ind a b = true ∧ b.tr.free a.tr.news = true)) := by
        intro a ha b hb hab
        have := List.all_eq_true.1 (List.all_eq_true.1 hp.apart a ha) b hb
        rw [if_pos hab] at this
        simp only [Bool.and_eq_true, Bool.or_eq_true] at this
        exact ⟨this.1, this.2.imp (fun h => by simpa using h) id⟩
      have heall : e ∈ all := (hmemR e hm).1
      have hindep : ∀ x ∈ l1, Abs.ind x e = true ∧ e.tr.free x.tr.news = true := by
        intro x hx
        obtain ⟨g1, g2⟩ := hmemR x (by rw [hR]; simp [hx])
        rcases (hpair x g1 e heall (by rw [hei]; exact hl1 x hx)).2 with g | g
        · have := hpre x.i (by rw [hei] at g; exact g)
          rw [this] at g2; cases g2
        · exact g
      rw [hR] at hst
      obtain ⟨hst', hfin⟩ := front l1 l2 s hst fun x hx => (hindep x hx).1
      simp only [steps] at hst'
      obtain ⟨hex, _, hrest⟩ := hst'
      refine ex_ok ho hco hrel hex (hfr e hm) fun a' w' hr => ?_
      have hrem : rem all (listed.setIfInBounds i true) = l1 ++ l2 := by
        have : rem all (listed.setIfInBounds i true) = (rem all listed).filter fun x => x.i != i := by
          unfold rem
          rw [List.filter_filter]
          refine List.filter_congr fun x _ => ?_
          rw [getD_set _ _ _ _ _ (by omega)]
          by_cases e1 : x.i = i
          · simp [e1]
          · simp [e1]
        rw [this, hR, List.filter_append, List.filter_cons]
        have hne : (e.i != i) = false := by simp [hei]
        rw [hne]
        simp only [Bool.false_eq_true, if_false]
        rw [List.filter_eq_self.2, List.filter_eq_self.2]
        · intro x hx; have := hl2 x hx; simp; omega
        · intro x hx; have := hl1 x hx; simp; omega
      refine any_ok hp fuel _ (e.ap s) a' w' (by simpa using hsz) ?_ ?_ (by rw [hrem]; exact hrest) ?_ hr ?_
      · rw [hrem]
        rw [hR] at hlen
        simp only [List.length_append, List.length_cons] at hlen ⊢; omega
      · intro k hk hlk j hj
        rw [getD_set _ _ _ _ _ (by omega)] at hlk ⊢
        split
        · rfl
        · split at hlk
          · rename_i e1; subst e1; exact hpre j hj
          · exact hcl k hk hlk j hj
      · intro x hx d hd
        rw [hrem] at hx
        have hxR : x ∈ rem all listed := by
          rw [hR]; rcases List.mem_append.1 hx with h | h
          · simp [h]
          · simp [h]
        obtain ⟨f1, f2⟩ := hfr x hxR d hd
        refine ⟨?_, f2⟩
        rcases List.mem_append.1 hx with h | h
        · exact Tr.free_fresh (hindep x h).2 hd f1
        · exact Tr.free_fresh (hpair e heall x (hmemR x hxR).1 (by rw [hei]; exact hl2 x h)).1 hd f1
      · intro a2 w2 hr2
        refine hQ a2 w2 ?_
        rw [hR, hfin]
        rw [hrem] at hr2
        exact hr2
end
end Go.Abs

set_option linter.unusedVariables false
set_option linter.unusedSimpArgs false
namespace Go.Abs
variable [GInv]

/-! ### Statements whose order is open -/

def tchA (c : CO) (s : AS) : List Nat := (xsT c.o).flatMap fun x => idsV (s.ev x)

def callDP (P : Program) (f : Nat) (vs : List V) (s : AS) (d : Nat) (c : CO) (i : Nat) (next : It → AS → Prop) : Prop :=
  ∃ res, PCall P f (vs.map (borrow (lkb s.hp) 6)) res ∧ resOk res = true ∧ (noRo res = true ∨ (noIdss vs = true ∧ noOwns vs = true)) ∧ noOwns vs = true ∧
    (idsVs vs).all (fun id => match lkb s.hp id with | some b => deeps b.es | none => true) = true ∧ next ⟨c, trTake d res, i, tchA c s⟩ (s.took d res)

/-- The same, of a function that writes. -/
def callDM (P : Program) (f : Nat) (vs : List V) (s : AS) (d : Nat) (c : CO) (i : Nat) (next : It → AS → Prop) : Prop :=
  ∃ (M Z : List Nat) (H0 l : List Blk) (res : V), MCall P f H0 (vs.map (lend M (onlyZ Z (lkb s.hp)) 6)) res (l.map some) ∧ M.Nodup ∧ (Z.all fun z => !M.contains z) = true ∧ M.map (lkb s.hp) = H0.map some ∧ (∀ blk ∈ H0, noIdss blk.es = true) ∧ outIds (l.map some) = true ∧ resOk res = true ∧
    (M.all fun id => (idsVs vs).contains id) = true ∧ (Z.all fun id => (idsVs vs).contains id) = true ∧ next ⟨c, trM d M Z l res, i, tchA c s⟩ (((s.sunk Z).wrote M (l.map some)).took d res)
def callD (P : Program) (f : Nat) (vs : List V) (s : AS) (d : Nat) (c : CO) (i : Nat) (next : It → AS → Prop) : Prop := callDP P f vs s d c i next ∨ callDM P f vs s d c i next

def stepD (P : Program) (c : CO) (i : Nat) (s : AS) (next : It → AS → Prop) : Prop :=
  match c.o with
  | .call f xs => ∃ d, c.d = some d ∧ callD P f (xs.map s.ev) s d c i next
  | .callv x xs => ∃ d, c.d = some d ∧ match s.ev x with
    | .clo f caps => callD P f (xs.map s.ev ++ caps) s d c i next
    | _ => False
  | o => match eff s.ev (lkb s.hp) (c.d.getD 0) o with
    | some (p, δ) => p ∧ (δ.new.isSome = true → c.d.isSome = true) ∧ next ⟨c, trOf δ c.d, i, tchA c s⟩ (s.app c.d δ)
    | none => False

def andThenD (f : List It → AS → Prop) (acc : List It) (it : It) (s : AS) : Prop := f (acc ++ [it]) s

def wpD (P : Program) (pl : List (List Nat)) (s0 : AS) (K : AS → Prop) : List CO → Nat → List It → AS → Prop
  | [], _, acc, s => indep pl acc = true ∧ (acc.all fun e => e.tr.news.all s0.fresh) = true ∧ K s
  | c :: cs, i, acc, s => match c.g with
    | none => stepD P c i s (andThenD (wpD P pl s0 K cs (i + 1)) acc)
    | some (t, b) => match lk s.sl t with
      | .v (.bool v) => (v = b → stepD P c i (s.mark t (.v (.bool b))) (andThenD (wpD P pl s0 K cs (i + 1)) acc)) ∧
          (v = !b → wpD P pl s0 K cs (i + 1) (acc ++ [⟨c, ⟨.tup [], [], []⟩, i, tchA c s⟩]) ((s.mark t (.v (.bool !b))).put c.d (.tup [])))
      | .tup [] => wpD P pl s0 K cs (i + 1) (acc ++ [⟨c, ⟨.tup [], [], []⟩, i, tchA c s⟩]) (s.put c.d (.tup []))
      | _ => False

section
variable {P : Program} {X : Ctx} {Q : Exit → Act → World → Prop}

omit [GInv] in
theorem AS.tch_eq (c : CO) (s : AS) : tch c s.den = tchA c s := by
  unfold tch tchA
  rw [AS.ev_eq]

omit [GInv] in
theorem AS.den_put (s : AS) (d : Option Nat) : (s.put d (.tup [])).den = Tr.ap ⟨.tup [], [], []⟩ d s.den := by
  cases d with
  | none => rfl
  | some d => simp only [AS.put, AS.den, Tr.ap, updo, lk_cons]

theorem wpD_plan {pl : List (List Nat)} {s0 : AS} {K : AS → Prop} : ∀ (cs : List CO) (i : Nat) (acc : List It) (s : AS), wpD P pl s0 K cs i acc s →
    ∃ its s', its.map (·.c) = cs ∧ its.map (·.i) = List.range' i cs.length ∧ steps P s.den its ∧ fin s.den its = s'.den ∧ s'.pin = s.pin ∧ indep pl (acc ++ its) = true ∧ ((acc ++ its).all fun e => e.tr.news.all s0.fresh) = true ∧ K s'
  | [], i, acc, s, h => ⟨[], s, rfl, rfl, trivial, rfl, rfl, by simpa using h.1, by simpa using h.2.1, h.2.2⟩
  | c :: cs, i, acc, s, h => by
    -- one operation, then the rest
    have go : ∀ (tr : Tr) (s1 : AS), ex P c s.den tr → s1.den = tr.ap c.d s.den → s1.pin = s.pin → wpD P pl s0 K cs (i + 1) (acc ++ [⟨c, tr, i, tchA c s⟩]) s1 →
        ∃ its s', its.map (·.c) = c :: cs ∧ its.map (·.i) = List.range' i (c :: cs).length ∧ steps P s.den its ∧ fin s.den its = s'.den ∧ s'.pin = s.pin ∧ indep pl (acc ++ its) = true ∧ ((acc ++ its).all fun e => e.tr.news.all s0.fresh) = true ∧ K s' := by
      intro tr s1 hex hden hpin hw
      obtain ⟨its, s', h1, h2, h3, h4, h5, h6, h7, h8⟩ := wpD_plan cs (i + 1) _ s1 hw
      refine ⟨⟨c, tr, i, tchA c s⟩ :: its, s', by simp [h1], by simp [h2, List.range'_succ], ⟨hex, fun id hid => by rw [AS.tch_eq] at hid; exact hid, ?_⟩, ?_, h5.trans hpin, by simpa using h6, by simpa using h7, h8⟩
      · show steps P (tr.ap c.d s.den) its
        rw [← hden]; exact h3
      · show fin (tr.ap c.d s.den) its = s'.den
        rw [← hden]; exact h4
    have callGo : ∀ (s : AS) (f : Nat) (vs : List V) (d : Nat), c.d = some d → callD P f vs s d c i (andThenD (wpD P pl s0 K cs (i + 1)) acc) →
        ∃ tr s1, callX P f vs s.den d tr ∧ s1.den = tr.ap (some d) s.den ∧ s1.pin = s.pin ∧ wpD P pl s0 K cs (i + 1) (acc ++ [⟨c, tr, i, tchA c s⟩]) s1 := by
      rintro s f vs d hd (⟨res, h1, h2, h3, h4, h5, h6⟩ | ⟨M, Z, H0, l, res, h1, h2, h3, h4, h5, h6, h7, h8, h9, h10⟩)
      · refine ⟨trTake d res, s.took d res, .inl ⟨res, h1, h2, h3, rfl, h4, fun id hid b hb => ?_⟩, by rw [AS.den_took, trTake_ap], rfl, h6⟩
        have := List.all_eq_true.1 h5 id hid
        have hb' : lkb s.hp id = some b := hb
        rw [hb'] at this
        simpa using this
      · have hlH : H0.length = M.length := by
          have := congrArg List.length h4
          rw [List.length_map, List.length_map] at this
          exact this.symm
        have hll : (l.map some).length = M.length := h1.2.1.trans hlH
        exact ⟨trM d M Z l res, ((s.sunk Z).wrote M (l.map some)).took d res, .inr ⟨M, Z, H0, l, res, h1, h2, fun z hz => by simpa using List.all_eq_true.1 h3 z hz, h4, h5, h6, h7, h8, h9, rfl⟩, by rw [AS.den_took, AS.den_wrote _ h2 hll, AS.den_sunk, trM_ap d res s.den h2 (by rw [← hll, List.length_map])], rfl, h10⟩
    have step : ∀ s : AS, (stepD P c i s (andThenD (wpD P pl s0 K cs (i + 1)) acc)) → ∃ tr s1, exec P c s.den tr ∧ s1.den = tr.ap c.d s.den ∧ s1.pin = s.pin ∧ wpD P pl s0 K cs (i + 1) (acc ++ [⟨c, tr, i, tchA c s⟩]) s1 := by
      intro s hs
      unfold stepD at hs
      split at hs
      · rename_i f xs hco
        obtain ⟨d, hd, hs⟩ := hs
        obtain ⟨tr, s1, h1, h2, h3, h4⟩ := callGo s f _ d hd hs
        refine ⟨tr, s1, ?_, by rw [hd]; exact h2, h3, h4⟩
        unfold exec; rw [hco]; exact ⟨d, hd, by rw [AS.ev_eq]; exact h1⟩
      · rename_i x xs hco
        obtain ⟨d, hd, hs⟩ := hs
        split at hs
        · rename_i f caps hclo
          obtain ⟨tr, s1, h1, h2, h3, h4⟩ := callGo s f _ d hd hs
          refine ⟨tr, s1, ?_, by rw [hd]; exact h2, h3, h4⟩
          unfold exec; rw [hco]; refine ⟨d, hd, ?_⟩
          rw [AS.ev_eq, hclo]; exact h1
        · exact hs.elim
      · rename_i hn1 hn2
        split at hs
        · rename_i p δ he
          obtain ⟨hp, hnew, hs⟩ := hs
          refine ⟨trOf δ c.d, s.app c.d δ, ?_, ?_, AS.app_pin _ _ _, hs⟩
          · unfold exec
            split
            · rename_i f xs hco; exact absurd hco (hn1 f xs)
            · rename_i x xs hco; exact absurd hco (hn2 x xs)
            · exact ⟨p, δ, by rw [AS.ev_eq]; exact he, hp, rfl⟩
          · rw [AS.den_app _ _ _ hnew, trOf_ap]
        · exact hs.elim
    unfold wpD at h
    split at h
    · rename_i hg
      obtain ⟨tr, s1, h1, h2, h3, h4⟩ := step s h
      exact go tr s1 (by unfold ex; rw [hg]; exact h1) h2 h3 h4
    · rename_i t b hg
      split at h
      · rename_i v hv
        by_cases e : v = b
        · obtain ⟨tr, s1, h1, h2, h3, h4⟩ := step _ (h.1 e)
          have hds : (s.mark t (.v (.bool b))).den = s.den := AS.den_same (by rw [hv, e])
          have htc : tchA c (s.mark t (.v (.bool b))) = tchA c s := by rw [← AS.tch_eq, hds, AS.tch_eq]
          rw [hds] at h1 h2
          rw [htc] at h4
          exact go tr s1 (by unfold ex; rw [hg]; exact .inl ⟨v, hv, .inl ⟨e, h1⟩⟩) h2 h3 h4
        · have e' : v = !b := by cases v <;> cases b <;> simp_all
          have hds : (s.mark t (.v (.bool !b))).den = s.den := AS.den_same (by rw [hv, e'])
          exact go ⟨.tup [], [], []⟩ _ (by unfold ex; rw [hg]; exact .inl ⟨v, hv, .inr ⟨e, rfl⟩⟩) (by rw [AS.den_put, hds]) (by cases c.d <;> rfl) (h.2 e')
      · rename_i hv
        exact go ⟨.tup [], [], []⟩ _ (by unfold ex; rw [hg]; exact .inr ⟨hv, rfl⟩) (by rw [AS.den_put]) (by cases c.d <;> rfl) h
      · exact h.elim

omit [GInv] in
theorem cOpers_get {ops : Array Oper} {n : Nat} : ∀ (os : List Oper) (cs : List CO), cOpers P ops n os = some cs → cs.length = os.length ∧ ∀ (k : Nat) (c : CO), cs[k]? = some c → ∃ o, os[k]? = some o ∧ cOper P ops n o = some c
  | [], cs, h => by simp only [cOpers, Option.some.injEq] at h; subst h; exact ⟨rfl, by simp⟩
  | o :: os, cs, h => by
    unfold cOpers at h
    split at h
    · rename_i c cs' h1 h2
      simp only [Option.some.injEq] at h; subst h
      obtain ⟨g1, g2⟩ := cOpers_get os cs' h2
      refine ⟨by simp [g1], fun k c' hk => ?_⟩
      cases k with
      | zero => simp at hk; subst hk; exact ⟨o, by simp, h1⟩
      | succ k => simpa using g2 k c' (by simpa using hk)
    · cases h

theorem wpD_ok {ops : Array Oper} {id : Nat} {cs : List CO} {pl : List (List Nat)} {s : AS} {a : Act} {w : World} {K : AS → Prop} (hm : P.follows .mixedOrders = true) (hpl : plOk ops pl = true) (hc : cOpers P ops X.n ops.toList = some cs)
    (h : Rel X s.den a w) (hpin : X.pin = s.pin) (hs : wpD P pl s K cs 0 [] s) (hK : ∀ s' a' w', K s' → s'.pin = s.pin → Rel X s'.den a' w' → Q .normal a' w') : (Code.region id ops true).wp P Q a w := by
  obtain ⟨its, s', h1, h2, h3, h4, h5, h6, h7, h8⟩ := wpD_plan cs 0 [] s hs
  simp only [List.nil_append] at h6 h7
  obtain ⟨g1, g2⟩ := cOpers_get _ _ hc
  have hlen : its.length = ops.size := by
    have := congrArg List.length h1
    rw [List.length_map] at this
    rw [this, g1]; simp
  have plan : Plan P X ops pl its := by
    refine ⟨hlen, fun k e hk => ?_, hpl, h6⟩
    have hc' : cs[k]? = some e.c := by rw [← h1, List.getElem?_map, hk]; rfl
    obtain ⟨o, ho, hco⟩ := g2 k e.c hc'
    refine ⟨?_, o, by simpa using ho, hco⟩
    have hi : (its.map (·.i))[k]? = some e.i := by rw [List.getElem?_map, hk]; rfl
    rw [h2] at hi
    have hlt : k < cs.length := (List.getElem?_eq_some_iff.1 hc').1
    rw [List.getElem?_range' hlt] at hi
    simpa using hi.symm
  have hrem : rem its (Array.replicate ops.size false) = its := by
    refine List.filter_eq_self.2 fun e he => ?_
    obtain ⟨k, hk⟩ := List.mem_iff_getElem?.1 he
    have hi := (plan.at_ k e hk).1
    have hlt : k < ops.size := by have := (List.getElem?_eq_some_iff.1 hk).1; omega
    rw [hi, Array.getD_eq_getD_getElem?]
    simp [hlt]
  obtain ⟨D, φ, F, hrel⟩ := h
  have hrel' : Rel X s.den a { w with drawn := w.drawn + 1 } := by
    have := hrel.grow { w with drawn := w.drawn + 1 } D [] rfl rfl rfl (Nat.le_refl _) (fun _ _ => rfl) (fun _ hb => hb) (fun b hb => ⟨.inl hb, hrel.Dlt b hb⟩) List.nodup_nil (by simp)
    exact ⟨D, φ, F, by simpa using this⟩
  refine wp_region_any hm (any_ok plan ops.size _ s.den a _ (by simp) (by rw [hrem, hlen]) (fun i hi hg => ?_) (by rw [hrem]; exact h3) (fun e he d hd => ?_) hrel' fun a' w' hr => ?_)
  · simp [Array.getD_eq_getD_getElem?, hi] at hg
  · rw [hrem] at he
    have := List.all_eq_true.1 (List.all_eq_true.1 h7 e he) d hd
    have := AS.fresh_ok this
    exact ⟨this.1, by rw [hpin]; exact this.2⟩
  · rw [hrem, h4] at hr
    exact hK s' a' w' h8 h5 hr
end

def plOf (ops : Array Oper) : List (List Nat) :=
  let b := Region.before ops
  (List.range ops.size).map fun i => (List.range ops.size).filter fun j => (b.getD i 0).testBit j

/-- The compact form of code. -/
inductive C where
  | skip
  | reg (cs : List CO) (keep : List Nat)
  | regD (cs : List CO) (pl : List (List Nat)) (keep : List Nat)
  | seq (a b : C)
  | cond (x : X) (a b : C)
  | block (id : Nat) (b : C)
  | loop (b : C)
  | exit (id : Nat)
  | ret
  | wk (b : C)
  | bad
  deriving Inhabited

/-- Live slots; 999999 ahead of them asks for a place where the state may be told anew. -/
def mkReg (ks : List Nat) (c : List Nat → C) : C := match ks with
  | [] => c []
  | k :: l => if k = 999999 then .wk (c l) else c (k :: l)

/-- A region: 'bad' where an operation has no compact form. -/
def compR (P : Program) (n : Nat) (ks : List Nat) (ops : Array Oper) (dr : Bool) : C :=
  if dr = true then
    if P.follows .mixedOrders = true ∧ plOk ops (plOf ops) = true then
      match cOpers P ops n ops.toList with
      | some cs => mkReg ks (.regD cs (plOf ops))
      | none => .bad
    else .bad
  else match cOpers P ops n ops.toList with
    | some cs => mkReg ks (.reg cs)
    | none => .bad

def comp (P : Program) (n : Nat) (ks : Nat → List Nat) : Code → C
  | .skip => .skip
  | .region id ops dr => compR P n (ks id) ops dr
  | .seq a b => .seq (comp P n ks a) (comp P n ks b)
  | .cond x a b => match cX x with
    | some x => .cond x (comp P n ks a) (comp P n ks b)
    | none => .bad
  | .block id b => .block id (comp P n ks b)
  | .loop b => .loop (comp P n ks b)
  | .exit id => .exit id
  | .ret => .ret
  | _ => .bad

def AS.keep (s : AS) (ks : List Nat) : AS := { s with sl := ks.map fun t => (t, lk s.sl t) }

/-- s' says no more than s. -/
def Wk (s s' : AS) : Prop := s'.pin = s.pin ∧ ∀ X a w, X.pin = s.pin → Rel X s.den a w → Rel X s'.den a w

theorem Wk.refl (s : AS) : Wk s s := ⟨rfl, fun _ _ _ _ h => h⟩
theorem Wk.trans {s t u : AS} (h : Wk s t) (h' : Wk t u) : Wk s u := ⟨h'.1.trans h.1, fun X a w hp hr => h'.2 X a w (hp.trans h.1.symm) (h.2 X a w hp hr)⟩

theorem Wk.of_lk {s s' : AS} (hp : s'.pin = s.pin) (h1 : ∀ t, lk s'.sl t = lk s.sl t ∨ lk s'.sl t = .undef) (h2 : ∀ i, lkb s'.hp i = lkb s.hp i ∨ lkb s'.hp i = none) : Wk s s' :=
  ⟨hp, fun X a w _ ⟨D, φ, F, h⟩ => ⟨D, φ, _, h.weaken s'.den h1 h2⟩⟩

omit [GInv] in
theorem lk_keep (l : List (Nat × V)) : ∀ (ks : List Nat) (t : Nat), lk (ks.map fun t => (t, lk l t)) t = lk l t ∨ lk (ks.map fun t => (t, lk l t)) t = .undef
  | [], t => .inr rfl
  | k :: ks, t => by
    simp only [List.map_cons, lk]
    split
    · rename_i e; subst e; exact .inl rfl
    · exact lk_keep l ks t

theorem Wk.keep (s : AS) (ks : List Nat) : Wk s (s.keep ks) := Wk.of_lk rfl (lk_keep s.sl ks) fun _ => .inl rfl

def seqK (K : AS → Prop) (Q : Exit → AS → Prop) : Exit → AS → Prop
  | .normal => K
  | e => Q e
def blockK (id : Nat) (Q : Exit → AS → Prop) : Exit → AS → Prop
  | .exit i => if i = id then Q .normal else Q (.exit i)
  | e => Q e
def keepK (ks : List Nat) (Q : Exit → AS → Prop) (s : AS) : Prop := Q .normal (s.keep ks)
def roundK (I : Nat → AS → Prop) (n : Nat) (Q : Exit → AS → Prop) : Exit → AS → Prop
  | .normal => fun s => ∃ m s', m < n ∧ Wk s s' ∧ I m s'
  | e => Q e
def loopQ (body : (Exit → AS → Prop) → AS → Prop) (Q : Exit → AS → Prop) (s : AS) : Prop :=
  ∃ (I : Nat → AS → Prop) (n : Nat) (s0 : AS), Wk s s0 ∧ I n s0 ∧ ∀ n s, I n s → body (roundK I n Q) s

def wpC (P : Program) : C → (Exit → AS → Prop) → AS → Prop
  | .skip, Q, s => Q .normal s
  | .reg cs ks, Q, s => wpO P cs (keepK ks Q) s
  | .regD cs pl ks, Q, s => wpD P pl s (keepK ks Q) cs 0 [] s
  | .seq a b, Q, s => wpC P a (seqK (wpC P b Q) Q) s
  | .cond x a b, Q, s => match s.ev x with
    | .v (.bool t) => (t = true → wpC P a Q s) ∧ (t = false → wpC P b Q s)
    | _ => False
  | .block id b, Q, s => wpC P b (blockK id Q) s
  | .loop b, Q, s => loopQ (wpC P b) Q s
  | .exit id, Q, s => Q (.exit id) s
  | .ret, Q, s => Q .ret s
  | .wk b, Q, s => ∃ s', Wk s s' ∧ wpC P b Q s'
  | .bad, _, _ => False

theorem wpO_mono {P : Program} {K K' : AS → Prop} (h : ∀ s, K s → K' s) : ∀ (cs : List CO) (s : AS), wpO P cs K s → wpO P cs K' s
  | [], s, hs => h s hs
  | c :: cs, s, hs => by
    have step : ∀ s, stepO P c (wpO P cs K) s → stepO P c (wpO P cs K') s := by
      intro s hs
      have call : ∀ f vs d, callQ P f vs s d (wpO P cs K) → callQ P f vs s d (wpO P cs K') := by
        rintro f vs d (⟨res, h1, h2, h3, h4, h5⟩ | ⟨M, H0, res, H1, h1, h2, h3, h4, h5, h6, h7, h8, h9⟩ | ⟨M, H0, R, h1, h2, h3, h4, h5⟩ | ⟨M, Z, H0, res, H1, h1, h2, h3, h4, h5, h6, h7, h8, h9⟩ | ⟨M, Z, H0, R, h1, h2, h3, h4, h5, h6⟩)
        · exact .inl ⟨res, h1, h2, h3, h4, wpO_mono h cs _ h5⟩
        · exact .inr (.inl ⟨M, H0, res, H1, h1, h2, h3, h4, h5, h6, h7, h8, wpO_mono h cs _ h9⟩)
        · exact .inr (.inr (.inl ⟨M, H0, R, h1, h2, h3, h4, fun res l hR hl => by
            obtain ⟨g1, g2, g3, g4, g5⟩ := h5 res l hR hl
            exact ⟨g1, g2, g3, g4, wpO_mono h cs _ g5⟩⟩))
        · exact .inr (.inr (.inr (.inl ⟨M, Z, H0, res, H1, h1, h2, h3, h4, h5, h6, h7, h8, wpO_mono h cs _ h9⟩)))
        · exact .inr (.inr (.inr (.inr ⟨M, Z, H0, R, h1, h2, h3, h4, h5, fun res l hR hl => by
            obtain ⟨g1, g2, g3, g4⟩ := h6 res l hR hl
            exact ⟨g1, g2, g3, wpO_mono h cs _ g4⟩⟩)))
      unfold stepO at hs ⊢
      split at hs
      · exact call _ _ _ hs
      · split at hs
        · exact call _ _ _ hs
        · exact hs.elim
      · split at hs
        · exact ⟨hs.1, hs.2.1, wpO_mono h cs _ hs.2.2⟩
        · exact hs.elim
    unfold wpO at hs ⊢
    split at hs
    · exact step _ hs
    · split at hs
      · exact ⟨fun e => step _ (hs.1 e), fun e => wpO_mono h cs _ (hs.2 e)⟩
      · exact wpO_mono h cs _ hs
      · exact hs.elim

theorem wpD_mono {P : Program} {pl : List (List Nat)} {s0 : AS} {K K' : AS → Prop} (h : ∀ s, K s → K' s) : ∀ (cs : List CO) (i : Nat) (acc : List It) (s : AS), wpD P pl s0 K cs i acc s → wpD P pl s0 K' cs i acc s
  | [], i, acc, s, hs => ⟨hs.1, hs.2.1, h s hs.2.2⟩
  | c :: cs, i, acc, s, hs => by
    have step : ∀ {s : AS} {n1 n2 : It → AS → Prop}, (∀ it s, n1 it s → n2 it s) → stepD P c i s n1 → stepD P c i s n2 := by
      intro s n1 n2 hn hs
      have call : ∀ f vs d, callD P f vs s d c i n1 → callD P f vs s d c i n2 := by
        rintro f vs d (⟨res, h1, h2, h3, h4, h5, h6⟩ | ⟨M, Z, H0, l, res, h1, h2, h3, h4, h5, h6, h7, h8, h9, h10⟩)
        · exact .inl ⟨res, h1, h2, h3, h4, h5, hn _ _ h6⟩
        · exact .inr ⟨M, Z, H0, l, res, h1, h2, h3, h4, h5, h6, h7, h8, h9, hn _ _ h10⟩
      unfold stepD at hs ⊢
      split at hs
      · obtain ⟨d, hd, hs⟩ := hs; exact ⟨d, hd, call _ _ _ hs⟩
      · obtain ⟨d, hd, hs⟩ := hs
        refine ⟨d, hd, ?_⟩
        split at hs
        · exact call _ _ _ hs
        · exact hs.elim
      · split at hs
        · exact ⟨hs.1, hs.2.1, hn _ _ hs.2.2⟩
        · exact hs.elim
    unfold wpD at hs ⊢
    split at hs
    · exact step (fun it s' => wpD_mono h cs _ _ s') hs
    · split at hs
      · exact ⟨fun e => step (fun it s' => wpD_mono h cs _ _ s') (hs.1 e), fun e => wpD_mono h cs _ _ _ (hs.2 e)⟩
      · exact wpD_mono h cs _ _ _ hs
      · exact hs.elim

theorem wpC_mono {P : Program} : ∀ (c : C) {Q Q' : Exit → AS → Prop} (s : AS), (∀ e s, Q e s → Q' e s) → wpC P c Q s → wpC P c Q' s
  | .skip, Q, Q', s, h, hs => h _ _ hs
  | .reg cs ks, Q, Q', s, h, hs => wpO_mono (fun s hs => h _ _ hs) cs s hs
  | .regD cs pl ks, Q, Q', s, h, hs => wpD_mono (fun s hs => h _ _ hs) cs 0 [] s hs
  | .seq a b, Q, Q', s, h, hs => wpC_mono a s (fun e s hs => by
      cases e with
      | normal => exact wpC_mono b s h hs
      | _ => exact h _ _ hs) hs
  | .cond x a b, Q, Q', s, h, hs => by
    unfold wpC at hs ⊢
    split at hs
    · exact ⟨fun e => wpC_mono a s h (hs.1 e), fun e => wpC_mono b s h (hs.2 e)⟩
    · exact hs.elim
  | .block id b, Q, Q', s, h, hs => wpC_mono b s (fun e s hs => by
      cases e with
      | exit i =>
        simp only [blockK] at hs ⊢
        split at hs
        · rename_i e; rw [if_pos e]; exact h _ _ hs
        · rename_i e; rw [if_neg e]; exact h _ _ hs
      | _ => exact h _ _ hs) hs
  | .loop b, Q, Q', s, h, hs => by
    obtain ⟨I, n, s0, h1, h2, h3⟩ := hs
    exact ⟨I, n, s0, h1, h2, fun n s hi => wpC_mono b s (fun e s hs => by
      cases e with
      | normal => exact hs
      | _ => exact h _ _ hs) (h3 n s hi)⟩
  | .exit id, Q, Q', s, h, hs => h _ _ hs
  | .ret, Q, Q', s, h, hs => h _ _ hs
  | .wk b, Q, Q', s, h, ⟨s', h1, h2⟩ => ⟨s', h1, wpC_mono b s' h h2⟩
  | .bad, Q, Q', s, h, hs => hs.elim

section
variable {P : Program} {X : Ctx}

/-- What is asked of the machine behind the code. -/
def Post (X : Ctx) (Q : Exit → AS → Prop) : Exit → Act → World → Prop := fun e a w => ∃ s, Rel X s.den a w ∧ X.pin = s.pin ∧ Q e s

theorem mkReg_wk {ks : List Nat} {f : List Nat → C} {Q : Exit → AS → Prop} {s : AS} (h : wpC P (mkReg ks f) Q s) : ∃ s' ks', Wk s s' ∧ wpC P (f ks') Q s' := by
  unfold mkReg at h
  split at h
  · exact ⟨s, _, Wk.refl s, h⟩
  · split at h
    · obtain ⟨s', h1, h2⟩ := h; exact ⟨s', _, h1, h2⟩
    · exact ⟨s, _, Wk.refl s, h⟩

theorem wpC_ok {ks : Nat → List Nat} : ∀ (code : Code) {Q : Exit → AS → Prop} (s : AS) (a : Act) (w : World), Rel X s.den a w → X.pin = s.pin → wpC P (comp P X.n ks code) Q s → code.wp P (Post X Q) a w
  | .skip, Q, s, a, w, h, hpin, hs => wp_skip ⟨s, h, hpin, hs⟩
  | .region id ops dr, Q, s, a, w, h, hpin, hs => by
    simp only [comp, compR] at hs
    cases dr with
    | true =>
      simp only [if_true] at hs
      split at hs
      · rename_i hcond
        split at hs
        · rename_i cs hcs
          obtain ⟨s1, ks', hwk, hs⟩ := mkReg_wk hs
          have h := hwk.2 X a w hpin h
          have hpin : X.pin = s1.pin := by rw [hpin, hwk.1]
          exact wpD_ok hcond.1 hcond.2 hcs h hpin hs fun s' a' w' hk hp hr => ⟨s'.keep ks', (Wk.keep s' ks').2 X a' w' (by rw [hpin, hp]) hr, by rw [hpin, ← hp]; rfl, hk⟩
        · exact hs.elim
      · exact hs.elim
    | false =>
      simp only [Bool.false_eq_true, if_false] at hs
      split at hs
      · rename_i cs hcs
        obtain ⟨s1, ks', hwk, hs⟩ := mkReg_wk hs
        have h := hwk.2 X a w hpin h
        have hpin : X.pin = s1.pin := by rw [hpin, hwk.1]
        exact wp_region_list (wpO_ok _ cs s1 a w hcs h hpin hs fun s' a' w' hk hp hr => ⟨s'.keep ks', (Wk.keep s' ks').2 X a' w' (by rw [hpin, hp]) hr, by rw [hpin, ← hp]; rfl, hk⟩)
      · exact hs.elim
  | .seq x y, Q, s, a, w, h, hpin, hs => by
    simp only [comp] at hs
    refine wp_seq (wp_mono (wpC_ok x s a w h hpin hs) fun e a' w' hq => ?_)
    obtain ⟨s', hr, hp, hq⟩ := hq
    cases e with
    | normal => exact wpC_ok y s' a' w' hr hp hq
    | _ => exact ⟨s', hr, hp, hq⟩
  | .cond x y z, Q, s, a, w, h, hpin, hs => by
    simp only [comp] at hs
    split at hs
    · rename_i cx hx
      unfold wpC at hs
      split at hs
      · rename_i t ht
        obtain ⟨D, φ, F, hrel⟩ := h
        have hcv := cX_ok hx hrel
        rw [AS.ev_eq, ht] at hcv
        refine wp_cond_split (CV_v hcv) (fun e => wpC_ok y s a w ⟨D, φ, F, hrel⟩ hpin (hs.1 e)) (fun e => wpC_ok z s a w ⟨D, φ, F, hrel⟩ hpin (hs.2 e))
      · exact hs.elim
    · exact hs.elim
  | .block id b, Q, s, a, w, h, hpin, hs => by
    simp only [comp] at hs
    refine wp_block (wp_mono (wpC_ok b s a w h hpin hs) fun e a' w' hq => ?_)
    obtain ⟨s', hr, hp, hq⟩ := hq
    cases e with
    | exit i =>
      simp only [Exit.inBlock, blockK] at hq ⊢
      split at hq
      · rename_i e; rw [if_pos e]; exact ⟨s', hr, hp, hq⟩
      · rename_i e; rw [if_neg e]; exact ⟨s', hr, hp, hq⟩
    | _ => exact ⟨s', hr, hp, hq⟩
  | .loop b, Q, s, a, w, h, hpin, hs => by
    simp only [comp] at hs
    obtain ⟨I, n, s0, hw0, hi0, hround⟩ := hs
    intro fb k cs
    have key : ∀ n s0 a w, Rel X s0.den a w → X.pin = s0.pin → I n s0 → ∃ e a' w', Post X Q e a' w' ∧ Arrives P (lone (fb.at a (.code b :: .inLoop b :: k)) cs w) fb k cs e a' w' := by
      intro n
      induction n using Nat.strongRecOn with
      | _ n ih =>
        intro s0 a w hr hp hi
        obtain ⟨e, a1, w1, ⟨s1, hr1, hp1, hq1⟩, harr⟩ := wpC_ok b s0 a w hr hp (hround n s0 hi) fb (.inLoop b :: k) cs
        cases e with
        | normal =>
          obtain ⟨m, s2, hlt, hwk, hi2⟩ := hq1
          obtain ⟨e2, a2, w2, hq2, harr2⟩ := ih m hlt s2 a1 w1 (hwk.2 X a1 w1 hp1 hr1) (by rw [hp1, hwk.1]) hi2
          exact ⟨e2, a2, w2, hq2, .of_steps (Steps.trans harr (.one step_inLoop)) harr2⟩
        | exit id => exact ⟨_, a1, w1, ⟨s1, hr1, hp1, hq1⟩, .pass (x := .inLoop b) rfl (fun _ _ => .inl (by simp)) harr⟩
        | goto l => exact ⟨_, a1, w1, ⟨s1, hr1, hp1, hq1⟩, .pass (x := .inLoop b) rfl (fun _ _ => .inl (by simp)) harr⟩
        | ret => exact ⟨_, a1, w1, ⟨s1, hr1, hp1, hq1⟩, .pass (x := .inLoop b) rfl (fun _ _ => .inl (by simp)) harr⟩
        | panic ch => exact ⟨_, a1, w1, ⟨s1, hr1, hp1, hq1⟩, .pass (x := .inLoop b) rfl (fun _ _ => .inl (by simp)) harr⟩
        | outgrown => exact ⟨_, a1, w1, ⟨s1, hr1, hp1, hq1⟩, .pass (x := .inLoop b) rfl (fun _ _ => .inl (by simp)) harr⟩
    obtain ⟨e, a', w', hq, harr⟩ := key n s0 a w (hw0.2 X a w hpin h) (by rw [hpin, hw0.1]) hi0
    exact ⟨e, a', w', hq, .of_steps (.one step_loop) harr⟩
  | .exit id, Q, s, a, w, h, hpin, hs => wp_exit ⟨s, h, hpin, hs⟩
  | .ret, Q, s, a, w, h, hpin, hs => wp_ret ⟨s, h, hpin, hs⟩
  | .rangeFunc _ _ _ _, Q, s, a, w, h, hpin, hs => by simp only [comp] at hs; exact hs.elim
  | .scope _, Q, s, a, w, h, hpin, hs => by simp only [comp] at hs; exact hs.elim
  | .label _, Q, s, a, w, h, hpin, hs => by simp only [comp] at hs; exact hs.elim
  | .goto _, Q, s, a, w, h, hpin, hs => by simp only [comp] at hs; exact hs.elim
  | .refuse _, Q, s, a, w, h, hpin, hs => by simp only [comp] at hs; exact hs.elim
end

/-! ### Whole functions -/

/-- Where a function's results lie. -/
inductive RV where
  | tmp (t : Nat)
  | cell (t : Nat) (agg : Bool) (n : Nat)
  deriving Inhabited

def cRV (P : Program) : List ResultVar → Option (List RV)
  | [] => some []
  | .tmp t :: rs => (cRV P rs).map (.tmp t :: ·)
  | .cell t ty :: rs => match tyOf P ty, cRV P rs with
    | some (b, n), some rs => some (.cell t b n :: rs)
    | _, _ => none

def retV (s : AS) : List RV → Option (List V)
  | [] => some []
  | .tmp t :: rs => (retV s rs).map (lk s.sl t :: ·)
  | .cell t b n :: rs => match vld b n (lkb s.hp) (lk s.sl t), retV s rs with
    | some (_, δ), some vs => some (δ.v :: vs)
    | _, _ => none

/-- One value, or a tuple. -/
def tupV : List V → V
  | [v] => v
  | vs => .tup vs

/-- The function may end so: its results, with the blocks that go out with them, are 'res'. -/
def Ret (rs : List RV) (res : V) (e : Exit) (s : AS) : Prop :=
  (match e with | .normal => True | .ret => True | _ => False) ∧ ∃ vs p ids, retV s rs = some vs ∧ give (lkb s.hp) (tupV vs) = some (p, res, ids) ∧ p ∧ ids.Nodup

section
variable {P : Program} {X : Ctx}

def rvSem (tmps : Array Value) : ResultVar → Sem Value
  | .tmp t => pure (tmps.getD t undef)
  | .cell ad t => do loadVar t (← asAddr (tmps.getD ad undef))

omit [GInv] in
theorem results_eq (fn : Func) (tmps : Array Value) : results fn tmps = (do let vs ← fn.results.mapM (rvSem tmps); pure (if h : vs.size = 1 then vs[0] else .tuple vs)) := by
  unfold results
  congr 1

theorem retV_ok {s : AS} {a : Act} {w : World} {D : Nat → Prop} {φ : Nat → Option Pl} {F : Nat → List Nat} (h : RelD X s.den a w D φ F []) : ∀ (rvs : List ResultVar) (rs : List RV) (vs : List V), cRV P rvs = some rs → retV s rs = some vs →
    ∃ xs, (rvs.mapM (rvSem a.tmps)).run P w = .ok xs w ∧ CVs w D vs φ xs []
  | [], rs, vs, hr, hv => by
    simp only [cRV, Option.some.injEq] at hr; subst hr
    simp only [retV, Option.some.injEq] at hv; subst hv
    exact ⟨[], by simp, CVs_nil⟩
  | .tmp t :: rvs, rs, vs, hr, hv => by
    simp only [cRV, Option.map_eq_some_iff] at hr
    obtain ⟨rs', hr', rfl⟩ := hr
    simp only [retV, Option.map_eq_some_iff] at hv
    obtain ⟨vs', hv', rfl⟩ := hv
    obtain ⟨xs, h1, h2⟩ := retV_ok h rvs rs' vs' hr' hv'
    refine ⟨a.tmps.getD t undef :: xs, ?_, ?_⟩
    · simp only [List.mapM_cons, rvSem, Sem.run_bind, Sem.run_pure, Result.andThen_ok, h1]
    · simp only [CVs]; exact ⟨_, xs, [], [], rfl, rfl, h.slots t, h2⟩
  | .cell t ty :: rvs, rs, vs, hr, hv => by
    simp only [cRV] at hr
    split at hr <;> simp only [Option.some.injEq, reduceCtorEq] at hr
    rename_i b n rs' ht hr'
    subst hr
    simp only [retV] at hv
    split at hv <;> simp only [Option.some.injEq, reduceCtorEq] at hv
    rename_i p δ vs' hld hv'
    subst hv
    obtain ⟨xs, h1, h2⟩ := retV_ok h rvs rs' vs' hr' hv'
    obtain ⟨ad, y, g1, g2, g3, g4⟩ := run_vld (P := P) h ht (h.slots t) hld
    refine ⟨y :: xs, ?_, ?_⟩
    · have ha : (asAddr (a.tmps.getD t undef)).run P w = .ok ad w := by rw [g1]; rfl
      have hb : (rvSem a.tmps (.cell t ty)).run P w = .ok y w := by simp only [rvSem, Sem.run_bind, ha, Result.andThen_ok, g2]
      simp only [List.mapM_cons, Sem.run_bind, hb, Sem.run_pure, Result.andThen_ok, h1]
    · simp only [CVs]; exact ⟨_, xs, [], [], rfl, rfl, g4, h2⟩

/-- The state at a function's entry. -/
def AS.init (args : List V) : AS := { sl := (List.range args.length).zip args, hp := [], pin := [] }

omit [GInv] in
theorem lk_zip : ∀ (args : List V) (k t : Nat), lk ((List.range' k args.length).zip args) t = if k ≤ t then (args[t - k]?).getD .undef else .undef
  | [], k, t => by simp [lk]
  | v :: vs, k, t => by
    simp only [List.length_cons, List.range'_succ, List.zip_cons_cons, lk]
    rw [lk_zip vs (k + 1) t]
    by_cases e : t = k
    · subst e; simp
    · rw [if_neg e]
      by_cases hle : k ≤ t
      · rw [if_pos (by omega), if_pos hle]
        obtain ⟨m, rfl⟩ : ∃ m, t = k + (m + 1) := ⟨t - k - 1, by omega⟩
        rw [show k + (m + 1) - k = m + 1 from by omega, show k + (m + 1) - (k + 1) = m from by omega]
        simp
      · rw [if_neg (by omega), if_neg hle]

omit [GInv] in
theorem AS.lk_init (args : List V) (t : Nat) : lk (AS.init args).sl t = (args[t]?).getD .undef := by
  simp only [AS.init, List.range_eq_range']
  rw [lk_zip]; simp

mutual
/-- What may stand for what: a nil slice for a row without elements. -/
def leV : V → V → Prop
  | .v x, .own _ es => x = .slice none 0 0 ∧ es = []
  | .tup as, .tup bs => leVs as bs
  | .agg as, .agg bs => leVs as bs
  | a, b => a = b
def leVs : List V → List V → Prop
  | [], [] => True
  | a :: as, b :: bs => leV a b ∧ leVs as bs
  | _, _ => False
end
omit [GInv] in
mutual
theorem leV_ok {w : World} {D : Nat → Prop} {φ : Nat → Option Pl} : ∀ (a b : V) (x : Value) (f : List Nat), leV a b → CV w D a φ x f → CV w D b φ x f
  | a, b, x, f, h, hx => by
    unfold leV at h
    split at h
    · simp only [CV] at hx ⊢
      exact .inl ⟨h.2, hx.1.trans h.1, hx.2.2⟩
    · simp only [CV] at hx ⊢
      obtain ⟨xs, rfl, hx⟩ := hx
      exact ⟨xs, rfl, leVs_ok _ _ _ _ h hx⟩
    · simp only [CV] at hx ⊢
      obtain ⟨xs, rfl, hx⟩ := hx
      exact ⟨xs, rfl, leVs_ok _ _ _ _ h hx⟩
    · rw [← h]; exact hx
theorem leVs_ok {w : World} {D : Nat → Prop} {φ : Nat → Option Pl} : ∀ (as bs : List V) (xs : List Value) (f : List Nat), leVs as bs → CVs w D as φ xs f → CVs w D bs φ xs f
  | [], [], xs, f, _, hx => hx
  | a :: as, b :: bs, xs, f, h, hx => by
    simp only [leVs] at h
    simp only [CVs] at hx ⊢
    obtain ⟨x, xs', f1, f2, rfl, rfl, h1, h2⟩ := hx
    exact ⟨x, xs', f1, f2, rfl, rfl, leV_ok a b x f1 h.1 h1, leVs_ok as bs xs' f2 h.2 h2⟩
  | [], _ :: _, _, _, h, _ => by simp [leVs] at h
  | _ :: _, [], _, _, h, _ => by simp [leVs] at h
end
/-- The function may end so: what it returns may stand for 'res'. -/
def RetL (rs : List RV) (res : V) (e : Exit) (s : AS) : Prop :=
  (match e with | .normal => True | .ret => True | _ => False) ∧ ∃ vs p r ids, retV s rs = some vs ∧ give (lkb s.hp) (tupV vs) = some (p, r, ids) ∧ p ∧ ids.Nodup ∧ leV r res

/-- A function's contract, from what must hold of the abstract state at its entry. -/
theorem PCall.introL {f : Nat} {fn : Func} {code : Code} {c : C} {rs : List RV} {ks : Nat → List Nat} {args : List V} {res : V} (hf : P.funcs[f]? = some fn) (hb : fn.body = some code) (hname : (fn.name != "runtime.NumGoroutine") = true)
    (hc : comp P fn.ntmps ks code = c) (hr : cRV P fn.results.toList = some rs) (hlen : args.length ≤ fn.ntmps) (h : wpC P c (RetL rs res) (AS.init args)) : PCall P f args res := by
  refine ⟨by simp [callable, hf, hb, hname], fun w D xs hD hgi hxs => ?_⟩
  have hl := CVs_length hxs
  let X : Ctx := { w0 := w, W := [], D0 := D, φ0 := fun _ => none, pin := [], n := fn.ntmps }
  have hrel : RelD X (AS.init args).den { tmps := xs.toArray ++ Array.replicate (fn.ntmps - xs.toArray.size) undef, defers := [] } w D (fun _ => none) (fun _ => []) [] := by
    refine ⟨rfl, rfl, rfl, Nat.le_refl _, fun _ _ _ => rfl, fun _ h => h, fun _ h => .inl h, hD, rfl, ?_, fun t => ?_, fun id blk hb => ?_, fun _ _ => rfl, fun _ => List.nodup_nil, fun _ _ _ _ h => absurd h List.not_mem_nil, fun _ _ h => absurd h List.not_mem_nil, fun _ h => absurd h List.not_mem_nil, List.nodup_nil, fun _ _ h => absurd h List.not_mem_nil, fun _ h => absurd h List.not_mem_nil, hgi⟩
    · show (xs.toArray ++ Array.replicate (fn.ntmps - xs.toArray.size) undef).size = fn.ntmps
      simp; omega
    · show CV w D (lk (AS.init args).sl t) _ _ []
      rw [AS.lk_init]
      cases ht : args[t]? with
      | none => simp [CV]
      | some v =>
        obtain ⟨x, f', g1, g2, g3⟩ := CVs_get hxs ht
        have := eq_nil_of_sub g3
        subst this
        simp only [Option.getD_some]
        have hlt : t < xs.length := (List.getElem?_eq_some_iff.1 g1).1
        have : (xs.toArray ++ Array.replicate (fn.ntmps - xs.toArray.size) undef).getD t undef = x := by
          rw [Array.getD_eq_getD_getElem?, Array.getElem?_append_left (by simpa using hlt)]
          simp [g1]
        rw [this]; exact g2
    · simp [AS.init, AS.den, lkb] at hb
  refine calls_of_wp hf hb ?_
  refine wp_mono (wpC_ok (X := X) (ks := ks) code (AS.init args) _ w ⟨D, _, _, hrel⟩ rfl (by rw [hc]; exact h)) fun e a w' hq => ?_
  obtain ⟨s', ⟨D', φ', F', hrel'⟩, _, hexit, vs, p, r, ids, h1, h2, h3, h4, hle⟩ := hq
  obtain ⟨ys, hrun, hcv⟩ := retV_ok (P := P) hrel' fn.results.toList rs vs hr h1
  have hres : (results fn a.tmps).run P w' = .ok (if h : ys.toArray.size = 1 then ys.toArray[0] else .tuple ys.toArray) w' := by
    rw [results_eq, Array.mapM_eq_mapM_toList]
    simp only [Sem.run_bind, Sem.run_map, hrun, Result.andThen_ok, Sem.run_pure]
  have hcv1 : CV w' D' (tupV vs) φ' (if h : ys.toArray.size = 1 then ys.toArray[0] else .tuple ys.toArray) [] := by
    have hl' := CVs_length hcv
    match vs, ys, hcv, hl' with
    | [v], [y], hcv, _ =>
      simp only [CVs] at hcv
      obtain ⟨x, xs', f1, f2, e, hf, g1, _⟩ := hcv
      have hf := List.append_eq_nil_iff.1 hf.symm
      obtain ⟨rfl, rfl⟩ := hf
      cases e
      simpa [tupV] using g1
    | [], [], hcv, _ => simp only [tupV, CV]; exact ⟨#[], by simp, CVs_nil⟩
    | v1 :: v2 :: vs, y1 :: y2 :: ys, hcv, _ =>
      simp only [tupV, CV]
      exact ⟨(y1 :: y2 :: ys).toArray, by simp, by simpa using hcv⟩
  have hgive := leV_ok _ _ _ _ hle (give_ok (F := F') hrel'.blks (tupV vs) _ p r ids h2 h3 hcv1)
  have done : a.defers = [] ∧ ∃ v, (results fn a.tmps).run P w' = .ok v w' ∧ ∃ y D'' fp, Ending.returned v = .returned y ∧ Grow w D [] w' D'' ∧ CV w' D'' res (fun _ => none) y fp ∧ fp.Nodup ∧ ∀ b, b ∈ fp → w.heap.size ≤ b ∧ b < w'.heap.size ∧ ¬ D'' b := by
    refine ⟨hrel'.defers, _, hres, _, D', _, rfl, ⟨hrel'.os, hrel'.tape, hrel'.output, hrel'.size, fun b hb _ => hrel'.old b hb (by simp [X]), hrel'.Dup, hrel'.Ddn, hrel'.Dlt⟩, hgive, flatMap_nodup hrel' ids h4, fun b hb => ?_⟩
    obtain ⟨i, _, hi⟩ := List.mem_flatMap.1 hb
    have := hrel'.notD i b hi
    exact ⟨this.2.2.resolve_right (by simp [X]), this.2.1, this.1⟩
  cases e with
  | normal => exact done
  | ret => exact done
  | _ => exact hexit.elim

omit [GInv] in
theorem leV_refl (a : V) : leV a a := by
  induction a using V.rec (motive_2 := fun l => leVs l l) with
  | undef | v _ | ref _ _ _ | sl _ _ _ | rp _ _ _ _ | ro _ _ | own _ _ | clo _ _ => simp [leV]
  | agg _ h => simpa [leV] using h
  | tup _ h => simpa [leV] using h
  | nil => simp [leVs]
  | cons a l h1 h2 => exact ⟨h1, h2⟩

theorem PCall.intro {f : Nat} {fn : Func} {code : Code} {c : C} {rs : List RV} {ks : Nat → List Nat} {args : List V} {res : V} (hf : P.funcs[f]? = some fn) (hb : fn.body = some code) (hname : (fn.name != "runtime.NumGoroutine") = true)
    (hc : comp P fn.ntmps ks code = c) (hr : cRV P fn.results.toList = some rs) (hlen : args.length ≤ fn.ntmps) (h : wpC P c (Ret rs res) (AS.init args)) : PCall P f args res :=
  PCall.introL hf hb hname hc hr hlen (wpC_mono c _ (fun e s ⟨h0, vs, p, ids, h1, h2, h3, h4⟩ => ⟨h0, vs, p, res, ids, h1, h2, h3, h4, leV_refl res⟩) h)

/-! ### Functions that write what they are handed -/

def hpM : Nat → List Blk → List (Nat × Blk)
  | _, [] => []
  | k, b :: l => (mid k, b) :: hpM (k + 1) l

def AS.minit (args : List V) (H0 : List Blk) (H1 : List (Option Blk)) : AS := { sl := (List.range args.length).zip args, hp := hpM 0 H0, pin := (stayK H1 0).map mid }

omit [GInv] in
theorem mid_inj {a b : Nat} (h : mid a = mid b) : a = b := by unfold mid at h; omega

omit [GInv] in
theorem lkb_hpM : ∀ (l : List Blk) (k id : Nat) (blk : Blk), lkb (hpM k l) id = some blk → ∃ j, id = mid (k + j) ∧ l[j]? = some blk
  | [], k, id, blk, h => by simp [hpM, lkb] at h
  | b :: l, k, id, blk, h => by
    simp only [hpM, lkb] at h
    split at h
    · rename_i e; simp only [Option.some.injEq] at h; subst h; exact ⟨0, e, rfl⟩
    · obtain ⟨j, h1, h2⟩ := lkb_hpM l (k + 1) id blk h
      exact ⟨j + 1, by rw [h1]; congr 1; omega, by simpa using h2⟩
omit [GInv] in
theorem lkb_hpM_none : ∀ (l : List Blk) (k id : Nat), lkb (hpM k l) id = none → ∀ j, j < l.length → id ≠ mid (k + j)
  | [], k, id, h, j, hj => by simp at hj
  | b :: l, k, id, h, j, hj => by
    simp only [hpM, lkb] at h
    split at h
    · cases h
    · rename_i e
      cases j with
      | zero => exact e
      | succ j =>
        have := lkb_hpM_none l (k + 1) id h j (by simpa using hj)
        rw [show k + (j + 1) = k + 1 + j from by omega]; exact this

/-- The blocks are as they must be at the end. -/
def stayAll (look : Nat → Option Blk) : List (Option Blk) → Nat → Prop
  | [], _ => True
  | some b :: l, k => look (mid k) = some b ∧ noIdss b.es = true ∧ stayAll look l (k + 1)
  | none :: l, k => stayAll look l (k + 1)

omit [GInv] in
theorem stayAll_get {look : Nat → Option Blk} : ∀ (l : List (Option Blk)) (k j : Nat) (b : Blk), stayAll look l k → l[j]? = some (some b) → look (mid (k + j)) = some b ∧ noIdss b.es = true
  | [], k, j, b, _, h => by simp at h
  | o :: l, k, 0, b, h, hj => by
    simp only [List.getElem?_cons_zero, Option.some.injEq] at hj; subst hj
    exact ⟨h.1, h.2.1⟩
  | some c :: l, k, j + 1, b, h, hj => by
    have := stayAll_get l (k + 1) j b h.2.2 (by simpa using hj)
    rw [show k + (j + 1) = k + 1 + j from by omega]; exact this
  | none :: l, k, j + 1, b, h, hj => by
    have := stayAll_get l (k + 1) j b h (by simpa using hj)
    rw [show k + (j + 1) = k + 1 + j from by omega]; exact this

def MRet (rs : List RV) (res : V) (H1 : List (Option Blk)) (e : Exit) (s : AS) : Prop :=
  (match e with | .normal => True | .ret => True | _ => False) ∧ ∃ vs p ids, retV s rs = some vs ∧ give (lkb s.hp) (tupV vs) = some (p, res, ids) ∧ p ∧ (ids ++ (stayK H1 0).map mid).Nodup ∧ stayAll (lkb s.hp) H1 0

omit [GInv] in
theorem flat_parts {F0 : Nat → List Nat} : ∀ (l : List Nat), l.Nodup → (l.flatMap F0).Nodup → (∀ k, k ∈ l → (F0 k).Nodup) ∧ ∀ k j, k ∈ l → j ∈ l → k ≠ j → ∀ b, b ∈ F0 k → b ∉ F0 j
  | [], _, _ => ⟨fun _ hk => absurd hk List.not_mem_nil, fun _ _ hk => absurd hk List.not_mem_nil⟩
  | m :: l, hnd, hfl => by
    rw [List.nodup_cons] at hnd
    rw [List.flatMap_cons, List.nodup_append] at hfl
    obtain ⟨g1, g2⟩ := flat_parts l hnd.2 hfl.2.1
    refine ⟨fun k hk => ?_, fun k j hk hj hne b hb hb' => ?_⟩
    · rcases List.mem_cons.1 hk with rfl | hk
      · exact hfl.1
      · exact g1 k hk
    · rcases List.mem_cons.1 hk with ek | hk1
      · rcases List.mem_cons.1 hj with ej | hj1
        · exact hne (ek.trans ej.symm)
        · exact hfl.2.2 b (ek ▸ hb) b (List.mem_flatMap.2 ⟨j, hj1, hb'⟩) rfl
      · rcases List.mem_cons.1 hj with ej | hj1
        · exact hfl.2.2 b (ej ▸ hb') b (List.mem_flatMap.2 ⟨k, hk1, hb⟩) rfl
        · exact g2 k j hk1 hj1 hne b hb hb'

/-- The contract of a function that writes, from what must hold of the abstract state at its entry. -/
theorem MCall.intro {f : Nat} {fn : Func} {code : Code} {c : C} {rs : List RV} {ks : Nat → List Nat} {args : List V} {res : V} {H0 : List Blk} {H1 : List (Option Blk)} (hf : P.funcs[f]? = some fn) (hb : fn.body = some code) (hname : (fn.name != "runtime.NumGoroutine") = true)
    (hc : comp P fn.ntmps ks code = c) (hr : cRV P fn.results.toList = some rs) (hlen : args.length ≤ fn.ntmps) (hl1 : H1.length = H0.length) (hn0 : ∀ blk ∈ H0, noIdss blk.es = true) (h : wpC P c (MRet rs res H1) (AS.minit args H0 H1)) : MCall P f H0 args res H1 := by
  refine ⟨by simp [callable, hf, hb, hname], hl1, fun w D xs p0 F0 hD hgi hblk hnd hnD hxs => ?_⟩
  have hl := CVs_length hxs
  let X : Ctx := { w0 := w, W := (List.range H0.length).flatMap F0, D0 := D, φ0 := plM H0.length p0, pin := (stayK H1 0).map mid, n := fn.ntmps }
  have inW : ∀ id b, b ∈ flM H0.length F0 id → b ∈ (List.range H0.length).flatMap F0 := fun id b hb => by
    unfold flM at hb
    split at hb
    · exact List.mem_flatMap.2 ⟨_, List.mem_range.2 (by omega), hb⟩
    · cases hb
  obtain ⟨fp1, fp2⟩ := flat_parts (List.range H0.length) List.nodup_range hnd
  have hrel : RelD X (AS.minit args H0 H1).den { tmps := xs.toArray ++ Array.replicate (fn.ntmps - xs.toArray.size) undef, defers := [] } w D (plM H0.length p0) (flM H0.length F0) [] := by
    refine ⟨rfl, rfl, rfl, Nat.le_refl _, fun _ _ _ => rfl, fun _ h => h, fun _ h => .inl h, hD, rfl, ?_, fun t => ?_, fun id blk hbl => ?_, fun id hid => ?_, fun id => ?_, fun i j hij b hbi hbj => ?_, fun id b hbm => ?_, fun _ _ => rfl, List.nodup_nil, fun _ _ _ h => absurd h List.not_mem_nil, fun _ h => absurd h List.not_mem_nil, hgi⟩
    · show (xs.toArray ++ Array.replicate (fn.ntmps - xs.toArray.size) undef).size = fn.ntmps
      simp; omega
    · show CV w D (lk (AS.init args).sl t) _ _ []
      rw [AS.lk_init]
      cases ht : args[t]? with
      | none => simp [CV]
      | some v =>
        obtain ⟨x, f', g1, g2, g3⟩ := CVs_get hxs ht
        have := eq_nil_of_sub g3
        subst this
        simp only [Option.getD_some]
        have hlt : t < xs.length := (List.getElem?_eq_some_iff.1 g1).1
        have : (xs.toArray ++ Array.replicate (fn.ntmps - xs.toArray.size) undef).getD t undef = x := by
          rw [Array.getD_eq_getD_getElem?, Array.getElem?_append_left (by simpa using hlt)]
          simp [g1]
        rw [this]; exact g2
    · obtain ⟨j, rfl, hj⟩ := lkb_hpM H0 0 id blk hbl
      rw [Nat.zero_add]
      have hlt := (List.getElem?_eq_some_iff.1 hj).1
      rw [flM_mid F0 hlt]
      exact BlkOk_noIds (φ := fun _ => p0 j) (id := 0) (hn0 blk (List.mem_iff_getElem?.2 ⟨j, hj⟩)) (plM_mid p0 hlt) (hblk j blk hj)
    · unfold flM
      split
      · rename_i hin
        have := lkb_hpM_none H0 0 id hid (id - 1000000) (by omega)
        exact absurd (by unfold mid; omega) this
      · rfl
    · unfold flM
      split
      · exact fp1 _ (List.mem_range.2 (by omega))
      · exact List.nodup_nil
    · unfold flM at hbi hbj
      split at hbi
      · split at hbj
        · exact fp2 _ _ (List.mem_range.2 (by omega)) (List.mem_range.2 (by omega)) (by omega) b hbi hbj
        · cases hbj
      · cases hbi
    · have := hnD b (inW id b hbm)
      exact ⟨this.1, this.2, .inr (inW id b hbm)⟩
  refine calls_of_wp hf hb ?_
  refine wp_mono (wpC_ok (X := X) (ks := ks) code (AS.minit args H0 H1) _ w ⟨D, _, _, hrel⟩ rfl (by rw [hc]; exact h)) fun e a w' hq => ?_
  obtain ⟨s', ⟨D', φ', F', hrel'⟩, _, hexit, vs, p, ids, h1, h2, h3, h4, h5⟩ := hq
  obtain ⟨ys, hrun, hcv⟩ := retV_ok (P := P) hrel' fn.results.toList rs vs hr h1
  have hres : (results fn a.tmps).run P w' = .ok (if h : ys.toArray.size = 1 then ys.toArray[0] else .tuple ys.toArray) w' := by
    rw [results_eq, Array.mapM_eq_mapM_toList]
    simp only [Sem.run_bind, Sem.run_map, hrun, Result.andThen_ok, Sem.run_pure]
  have hcv1 : CV w' D' (tupV vs) φ' (if h : ys.toArray.size = 1 then ys.toArray[0] else .tuple ys.toArray) [] := by
    have hl' := CVs_length hcv
    match vs, ys, hcv, hl' with
    | [v], [y], hcv, _ =>
      simp only [CVs] at hcv
      obtain ⟨x, xs', f1, f2, e, hf, g1, _⟩ := hcv
      have hf := List.append_eq_nil_iff.1 hf.symm
      obtain ⟨rfl, rfl⟩ := hf
      cases e
      simpa [tupV] using g1
    | [], [], hcv, _ => simp only [tupV, CV]; exact ⟨#[], by simp, CVs_nil⟩
    | v1 :: v2 :: vs, y1 :: y2 :: ys, hcv, _ =>
      simp only [tupV, CV]
      exact ⟨(y1 :: y2 :: ys).toArray, by simp, by simpa using hcv⟩
  have hgive := give_ok (F := F') hrel'.blks (tupV vs) _ p res ids h2 h3 hcv1
  have hflat : (stayK H1 0).flatMap (fun k => F' (mid k)) = ((stayK H1 0).map mid).flatMap F' := by rw [List.flatMap_map]
  have done : a.defers = [] ∧ ∃ v, (results fn a.tmps).run P w' = .ok v w' ∧ ∃ y D'' fp F1, Ending.returned v = .returned y ∧ Grow w D ((List.range H0.length).flatMap F0) w' D'' ∧ CV w' D'' res (fun _ => none) y fp ∧
      (∀ (k : Nat) (blk : Blk), H1[k]? = some (some blk) → BlkOk w' D'' (fun _ => p0 k) 0 blk (F1 k)) ∧ (fp ++ (stayK H1 0).flatMap F1).Nodup ∧
      ∀ b, b ∈ fp ++ (stayK H1 0).flatMap F1 → (w.heap.size ≤ b ∨ b ∈ (List.range H0.length).flatMap F0) ∧ b < w'.heap.size ∧ ¬ D'' b := by
    refine ⟨hrel'.defers, _, hres, _, D', ids.flatMap F', fun k => F' (mid k), rfl, ⟨hrel'.os, hrel'.tape, hrel'.output, hrel'.size, fun b hb hW => hrel'.old b hb hW, hrel'.Dup, hrel'.Ddn, hrel'.Dlt⟩, hgive, fun k blk hk => ?_, ?_, fun b hb => ?_⟩
    · obtain ⟨g1, g2⟩ := stayAll_get H1 0 k blk h5 hk
      rw [Nat.zero_add] at g1
      have hpin : mid k ∈ X.pin := List.mem_map.2 ⟨k, (mem_stayK H1 0 k).2 ⟨Nat.zero_le _, blk, by simpa using hk⟩, rfl⟩
      have hlt : k < H0.length := by rw [← hl1]; exact (List.getElem?_eq_some_iff.1 hk).1
      have hp := hrel'.pins (mid k) hpin
      exact BlkOk_noIds (φ := φ') (id := mid k) g2 (by rw [hp]; exact (plM_mid p0 hlt).symm) (hrel'.blks (mid k) blk g1)
    · rw [hflat, ← List.flatMap_append]; exact flatMap_nodup hrel' _ h4
    · rw [hflat, ← List.flatMap_append] at hb
      obtain ⟨i, _, hi⟩ := List.mem_flatMap.1 hb
      have := hrel'.notD i b hi
      exact ⟨this.2.2, this.2.1, this.1⟩
  cases e with
  | normal => exact done
  | ret => exact done
  | _ => exact hexit.elim

/-- The blocks that were handed in, as they are at the end. -/
def lookN (look : Nat → Option Blk) : Nat → Nat → Option (List Blk)
  | _, 0 => some []
  | k, n + 1 => match look (mid k), lookN look (k + 1) n with
    | some b, some l => some (b :: l)
    | _, _ => none
omit [GInv] in
theorem lookN_get {look : Nat → Option Blk} : ∀ {n k : Nat} {l : List Blk}, lookN look k n = some l → l.length = n ∧ ∀ (j : Nat) (b : Blk), l[j]? = some b → look (mid (k + j)) = some b
  | 0, k, l, h => by simp only [lookN, Option.some.injEq] at h; subst h; exact ⟨rfl, by simp⟩
  | n + 1, k, l, h => by
    unfold lookN at h
    split at h
    · rename_i b l' h1 h2
      simp only [Option.some.injEq] at h; subst h
      obtain ⟨g1, g2⟩ := lookN_get h2
      refine ⟨by simp [g1], fun j c hj => ?_⟩
      cases j with
      | zero => simp at hj; subst hj; exact h1
      | succ j =>
        have := g2 j c (by simpa using hj)
        rw [show k + (j + 1) = k + 1 + j from by omega]; exact this
    · cases h
def MRetR (rs : List RV) (R : V → List Blk → Prop) (N : Nat) (e : Exit) (s : AS) : Prop :=
  (match e with | .normal => True | .ret => True | _ => False) ∧ ∃ vs p res ids l, retV s rs = some vs ∧ give (lkb s.hp) (tupV vs) = some (p, res, ids) ∧ p ∧ (ids ++ (List.range N).map mid).Nodup ∧ lookN (lkb s.hp) 0 N = some l ∧ (l.all fun b => noIdss b.es) = true ∧ R res l

/-- The same, where only R is told. -/
theorem MCallR.intro {f : Nat} {fn : Func} {code : Code} {c : C} {rs : List RV} {ks : Nat → List Nat} {args : List V} {H0 : List Blk} {R : V → List Blk → Prop} (hf : P.funcs[f]? = some fn) (hb : fn.body = some code) (hname : (fn.name != "runtime.NumGoroutine") = true)
    (hc : comp P fn.ntmps ks code = c) (hr : cRV P fn.results.toList = some rs) (hlen : args.length ≤ fn.ntmps) (hn0 : ∀ blk ∈ H0, noIdss blk.es = true) (h : wpC P c (MRetR rs R H0.length) (AS.minit args H0 (H0.map some))) : MCallR P f H0 args R := by
  refine ⟨by simp [callable, hf, hb, hname], fun w D xs p0 F0 hD hgi hblk hnd hnD hxs => ?_⟩
  have hl := CVs_length hxs
  have hst : stayK (H0.map some) 0 = List.range H0.length := by rw [stayK_some, List.range_eq_range']
  let X : Ctx := { w0 := w, W := (List.range H0.length).flatMap F0, D0 := D, φ0 := plM H0.length p0, pin := (stayK (H0.map some) 0).map mid, n := fn.ntmps }
  have inW : ∀ id b, b ∈ flM H0.length F0 id → b ∈ (List.range H0.length).flatMap F0 := fun id b hb => by
    unfold flM at hb
    split at hb
    · exact List.mem_flatMap.2 ⟨_, List.mem_range.2 (by omega), hb⟩
    · cases hb
  obtain ⟨fp1, fp2⟩ := flat_parts (List.range H0.length) List.nodup_range hnd
  have hrel : RelD X (AS.minit args H0 (H0.map some)).den { tmps := xs.toArray ++ Array.replicate (fn.ntmps - xs.toArray.size) undef, defers := [] } w D (plM H0.length p0) (flM H0.length F0) [] := by
    refine ⟨rfl, rfl, rfl, Nat.le_refl _, fun _ _ _ => rfl, fun _ h => h, fun _ h => .inl h, hD, rfl, ?_, fun t => ?_, fun id blk hbl => ?_, fun id hid => ?_, fun id => ?_, fun i j hij b hbi hbj => ?_, fun id b hbm => ?_, fun _ _ => rfl, List.nodup_nil, fun _ _ _ h => absurd h List.not_mem_nil, fun _ h => absurd h List.not_mem_nil, hgi⟩
    · show (xs.toArray ++ Array.replicate (fn.ntmps - xs.toArray.size) undef).size = fn.ntmps
      simp; omega
    · show CV w D (lk (AS.init args).sl t) _ _ []
      rw [AS.lk_init]
      cases ht : args[t]? with
      | none => simp [CV]
      | some v =>
        obtain ⟨x, f', g1, g2, g3⟩ := CVs_get hxs ht
        have := eq_nil_of_sub g3
        subst this
        simp only [Option.getD_some]
        have hlt : t < xs.length := (List.getElem?_eq_some_iff.1 g1).1
        have : (xs.toArray ++ Array.replicate (fn.ntmps - xs.toArray.size) undef).getD t undef = x := by
          rw [Array.getD_eq_getD_getElem?, Array.getElem?_append_left (by simpa using hlt)]
          simp [g1]
        rw [this]; exact g2
    · obtain ⟨j, rfl, hj⟩ := lkb_hpM H0 0 id blk hbl
      rw [Nat.zero_add]
      have hlt := (List.getElem?_eq_some_iff.1 hj).1
      rw [flM_mid F0 hlt]
      exact BlkOk_noIds (φ := fun _ => p0 j) (id := 0) (hn0 blk (List.mem_iff_getElem?.2 ⟨j, hj⟩)) (plM_mid p0 hlt) (hblk j blk hj)
    · unfold flM
      split
      · rename_i hin
        have := lkb_hpM_none H0 0 id hid (id - 1000000) (by omega)
        exact absurd (by unfold mid; omega) this
      · rfl
    · unfold flM
      split
      · exact fp1 _ (List.mem_range.2 (by omega))
      · exact List.nodup_nil
    · unfold flM at hbi hbj
      split at hbi
      · split at hbj
        · exact fp2 _ _ (List.mem_range.2 (by omega)) (List.mem_range.2 (by omega)) (by omega) b hbi hbj
        · cases hbj
      · cases hbi
    · have := hnD b (inW id b hbm)
      exact ⟨this.1, this.2, .inr (inW id b hbm)⟩
  refine calls_of_wp hf hb ?_
  refine wp_mono (wpC_ok (X := X) (ks := ks) code (AS.minit args H0 (H0.map some)) _ w ⟨D, _, _, hrel⟩ rfl (by rw [hc]; exact h)) fun e a w' hq => ?_
  obtain ⟨s', ⟨D', φ', F', hrel'⟩, _, hexit, vs, p, res, ids, l, h1, h2, h3, h4, hlk, hni, hR⟩ := hq
  obtain ⟨hll, hget⟩ := lookN_get hlk
  obtain ⟨ys, hrun, hcv⟩ := retV_ok (P := P) hrel' fn.results.toList rs vs hr h1
  have hres : (results fn a.tmps).run P w' = .ok (if h : ys.toArray.size = 1 then ys.toArray[0] else .tuple ys.toArray) w' := by
    rw [results_eq, Array.mapM_eq_mapM_toList]
    simp only [Sem.run_bind, Sem.run_map, hrun, Result.andThen_ok, Sem.run_pure]
  have hcv1 : CV w' D' (tupV vs) φ' (if h : ys.toArray.size = 1 then ys.toArray[0] else .tuple ys.toArray) [] := by
    have hl' := CVs_length hcv
    match vs, ys, hcv, hl' with
    | [v], [y], hcv, _ =>
      simp only [CVs] at hcv
      obtain ⟨x, xs', f1, f2, e, hf, g1, _⟩ := hcv
      have hf := List.append_eq_nil_iff.1 hf.symm
      obtain ⟨rfl, rfl⟩ := hf
      cases e
      simpa [tupV] using g1
    | [], [], hcv, _ => simp only [tupV, CV]; exact ⟨#[], by simp, CVs_nil⟩
    | v1 :: v2 :: vs, y1 :: y2 :: ys, hcv, _ =>
      simp only [tupV, CV]
      exact ⟨(y1 :: y2 :: ys).toArray, by simp, by simpa using hcv⟩
  have hgive := give_ok (F := F') hrel'.blks (tupV vs) _ p res ids h2 h3 hcv1
  have hflat : (List.range H0.length).flatMap (fun k => F' (mid k)) = ((List.range H0.length).map mid).flatMap F' := by rw [List.flatMap_map]
  have done : a.defers = [] ∧ ∃ v, (results fn a.tmps).run P w' = .ok v w' ∧ ∃ res l, R res l ∧ l.length = H0.length ∧ ∃ y D'' fp F1, Ending.returned v = .returned y ∧ Grow w D ((List.range H0.length).flatMap F0) w' D'' ∧ CV w' D'' res (fun _ => none) y fp ∧
      (∀ (k : Nat) (blk : Blk), l[k]? = some blk → BlkOk w' D'' (fun _ => p0 k) 0 blk (F1 k)) ∧ (fp ++ (List.range H0.length).flatMap F1).Nodup ∧
      ∀ b, b ∈ fp ++ (List.range H0.length).flatMap F1 → (w.heap.size ≤ b ∨ b ∈ (List.range H0.length).flatMap F0) ∧ b < w'.heap.size ∧ ¬ D'' b := by
    refine ⟨hrel'.defers, _, hres, res, l, hR, hll, _, D', ids.flatMap F', fun k => F' (mid k), rfl, ⟨hrel'.os, hrel'.tape, hrel'.output, hrel'.size, fun b hb hW => hrel'.old b hb hW, hrel'.Dup, hrel'.Ddn, hrel'.Dlt⟩, hgive, fun k blk hk => ?_, ?_, fun b hb => ?_⟩
    · have g1 := hget k blk hk
      rw [Nat.zero_add] at g1
      have hlt : k < H0.length := by rw [← hll]; exact (List.getElem?_eq_some_iff.1 hk).1
      have hpin : mid k ∈ X.pin := List.mem_map.2 ⟨k, by rw [hst]; exact List.mem_range.2 hlt, rfl⟩
      have hp := hrel'.pins (mid k) hpin
      exact BlkOk_noIds (φ := φ') (id := mid k) (List.all_eq_true.1 hni blk (List.mem_iff_getElem?.2 ⟨k, hk⟩)) (by rw [hp]; exact (plM_mid p0 hlt).symm) (hrel'.blks (mid k) blk g1)
    · rw [hflat, ← List.flatMap_append]; exact flatMap_nodup hrel' _ h4
    · rw [hflat, ← List.flatMap_append] at hb
      obtain ⟨i, _, hi⟩ := List.mem_flatMap.1 hb
      have := hrel'.notD i b hi
      exact ⟨this.2.2, this.2.1, this.1⟩
  cases e with
  | normal => exact done
  | ret => exact done
  | _ => exact hexit.elim

/-- Function f of the program has the compact code c, its results lie in rs, it has n slots. -/
def FnC (P : Program) (f : Nat) (c : C) (rs : List RV) (n : Nat) : Prop :=
  ∃ fn code ks, P.funcs[f]? = some fn ∧ fn.body = some code ∧ (fn.name != "runtime.NumGoroutine") = true ∧ comp P fn.ntmps ks code = c ∧ cRV P fn.results.toList = some rs ∧ fn.ntmps = n

theorem PCall.of {f : Nat} {c : C} {rs : List RV} {n : Nat} {args : List V} {res : V} (hf : FnC P f c rs n) (hlen : args.length ≤ n) (h : wpC P c (Ret rs res) (AS.init args)) : PCall P f args res := by
  obtain ⟨fn, code, ks, h1, h2, h3, h4, h5, h6⟩ := hf
  exact PCall.intro h1 h2 h3 h4 h5 (by rw [h6]; exact hlen) h

/-- The same; a nil slice may be returned for a row without elements. -/
theorem PCall.ofN {f : Nat} {c : C} {rs : List RV} {n : Nat} {args : List V} {res : V} (hf : FnC P f c rs n) (hlen : args.length ≤ n) (h : wpC P c (RetL rs res) (AS.init args)) : PCall P f args res := by
  obtain ⟨fn, code, ks, h1, h2, h3, h4, h5, h6⟩ := hf
  exact PCall.introL h1 h2 h3 h4 h5 (by rw [h6]; exact hlen) h

theorem MCallR.of {f : Nat} {c : C} {rs : List RV} {n : Nat} {args : List V} {H0 : List Blk} {R : V → List Blk → Prop} (hf : FnC P f c rs n) (hlen : args.length ≤ n) (hn0 : ∀ blk ∈ H0, noIdss blk.es = true)
    (h : wpC P c (MRetR rs R H0.length) (AS.minit args H0 (H0.map some))) : MCallR P f H0 args R := by
  obtain ⟨fn, code, ks, h1, h2, h3, h4, h5, h6⟩ := hf
  exact MCallR.intro h1 h2 h3 h4 h5 (by rw [h6]; exact hlen) hn0 h

theorem MCall.of {f : Nat} {c : C} {rs : List RV} {n : Nat} {args : List V} {res : V} {H0 : List Blk} {H1 : List (Option Blk)} (hf : FnC P f c rs n) (hlen : args.length ≤ n) (hl1 : H1.length = H0.length) (hn0 : ∀ blk ∈ H0, noIdss blk.es = true)
    (h : wpC P c (MRet rs res H1) (AS.minit args H0 H1)) : MCall P f H0 args res H1 := by
  obtain ⟨fn, code, ks, h1, h2, h3, h4, h5, h6⟩ := hf
  exact MCall.intro h1 h2 h3 h4 h5 (by rw [h6]; exact hlen) hl1 hn0 h
end
end Go.Abs
