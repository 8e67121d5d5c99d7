/- The abstract layer, part 10b: contracts of functions that write what they are handed, and the rule of their calls. -/
import Derived.Test.YtcfmohcpfmedaaaDoorAbsCall2
set_option linter.unusedVariables false
set_option linter.unusedSimpArgs false
namespace Go.Abs
variable [GInv]

/-- The ids under which a function sees the blocks that it is handed. -/
def mid (k : Nat) : Nat := 1000000 + k

def plM (N : Nat) (p0 : Nat → Option Pl) (id : Nat) : Option Pl := if 1000000 ≤ id ∧ id < 1000000 + N then p0 (id - 1000000) else none
def flM (N : Nat) (F0 : Nat → List Nat) (id : Nat) : List Nat := if 1000000 ≤ id ∧ id < 1000000 + N then F0 (id - 1000000) else []

omit [GInv] in
theorem plM_mid {N k : Nat} (p0 : Nat → Option Pl) (h : k < N) : plM N p0 (mid k) = p0 k := by
  have e : mid k - 1000000 = k := by unfold mid; omega
  unfold plM; rw [if_pos (by unfold mid; omega), e]
omit [GInv] in
theorem flM_mid {N k : Nat} (F0 : Nat → List Nat) (h : k < N) : flM N F0 (mid k) = F0 k := by
  have e : mid k - 1000000 = k := by unfold mid; omega
  unfold flM; rw [if_pos (by unfold mid; omega), e]

/-- The places of the blocks that are still there at the end. -/
def stayK : List (Option Blk) → Nat → List Nat
  | [], _ => []
  | some _ :: l, k => k :: stayK l (k + 1)
  | none :: l, k => stayK l (k + 1)

omit [GInv] in
theorem mem_stayK : ∀ (l : List (Option Blk)) (k j : Nat), j ∈ stayK l k ↔ k ≤ j ∧ ∃ b, l[j - k]? = some (some b)
  | [], k, j => by simp [stayK]
  | some b :: l, k, j => by
    simp only [stayK, List.mem_cons, mem_stayK l (k + 1) j]
    constructor
    · rintro (rfl | ⟨h1, b', h2⟩)
      · exact ⟨Nat.le_refl _, b, by simp⟩
      · refine ⟨by omega, b', ?_⟩
        rw [show j - k = (j - (k + 1)) + 1 from by omega]; simpa using h2
    · rintro ⟨h1, b', h2⟩
      by_cases e : j = k
      · exact .inl e
      · refine .inr ⟨by omega, b', ?_⟩
        rw [show j - k = (j - (k + 1)) + 1 from by omega] at h2; simpa using h2
  | none :: l, k, j => by
    simp only [stayK, mem_stayK l (k + 1) j]
    constructor
    · rintro ⟨h1, b', h2⟩
      refine ⟨by omega, b', ?_⟩
      rw [show j - k = (j - (k + 1)) + 1 from by omega]; simpa using h2
    · rintro ⟨h1, b', h2⟩
      by_cases e : j = k
      · subst e; simp at h2
      · refine ⟨by omega, b', ?_⟩
        rw [show j - k = (j - (k + 1)) + 1 from by omega] at h2; simpa using h2

omit [GInv] in
theorem stayK_nodup : ∀ (l : List (Option Blk)) (k : Nat), (stayK l k).Nodup
  | [], k => List.nodup_nil
  | some b :: l, k => by
    simp only [stayK, List.nodup_cons, mem_stayK]
    exact ⟨fun h => by omega, stayK_nodup l (k + 1)⟩
  | none :: l, k => stayK_nodup l (k + 1)

/-- A function that writes the blocks H0 that it is handed, and leaves them as H1 says ('none': the block has gone). -/
def MCall (P : Program) (f : Nat) (H0 : List Blk) (args : List V) (res : V) (H1 : List (Option Blk)) : Prop :=
  callable P f = true ∧ H1.length = H0.length ∧ ∀ (w : World) (D : Nat → Prop) (xs : List Value) (p0 : Nat → Option Pl) (F0 : Nat → List Nat), (∀ b, D b → b < w.heap.size) → GInv.holds w D →
    (∀ k blk, H0[k]? = some blk → BlkOk w D (fun _ => p0 k) 0 blk (F0 k)) → ((List.range H0.length).flatMap F0).Nodup → (∀ b, b ∈ (List.range H0.length).flatMap F0 → ¬ D b ∧ b < w.heap.size) →
    CVs w D args (plM H0.length p0) xs [] →
    Calls P f xs.toArray w fun e w' => ∃ y D' fp F1, e = .returned y ∧ Grow w D ((List.range H0.length).flatMap F0) w' D' ∧ CV w' D' res (fun _ => none) y fp ∧
      (∀ k blk, H1[k]? = some (some blk) → BlkOk w' D' (fun _ => p0 k) 0 blk (F1 k)) ∧ (fp ++ (stayK H1 0).flatMap F1).Nodup ∧
      ∀ b, b ∈ fp ++ (stayK H1 0).flatMap F1 → (w.heap.size ≤ b ∨ b ∈ (List.range H0.length).flatMap F0) ∧ b < w'.heap.size ∧ ¬ D' b

/-- The same, where of the results and the blocks that stay behind only R is told. -/
def MCallR (P : Program) (f : Nat) (H0 : List Blk) (args : List V) (R : V → List Blk → Prop) : Prop :=
  callable P f = true ∧ ∀ (w : World) (D : Nat → Prop) (xs : List Value) (p0 : Nat → Option Pl) (F0 : Nat → List Nat), (∀ b, D b → b < w.heap.size) → GInv.holds w D →
    (∀ k blk, H0[k]? = some blk → BlkOk w D (fun _ => p0 k) 0 blk (F0 k)) → ((List.range H0.length).flatMap F0).Nodup → (∀ b, b ∈ (List.range H0.length).flatMap F0 → ¬ D b ∧ b < w.heap.size) →
    CVs w D args (plM H0.length p0) xs [] →
    Calls P f xs.toArray w fun e w' => ∃ res l, R res l ∧ l.length = H0.length ∧ ∃ y D' fp F1, e = .returned y ∧ Grow w D ((List.range H0.length).flatMap F0) w' D' ∧ CV w' D' res (fun _ => none) y fp ∧
      (∀ k blk, l[k]? = some blk → BlkOk w' D' (fun _ => p0 k) 0 blk (F1 k)) ∧ (fp ++ (List.range H0.length).flatMap F1).Nodup ∧
      ∀ b, b ∈ fp ++ (List.range H0.length).flatMap F1 → (w.heap.size ≤ b ∨ b ∈ (List.range H0.length).flatMap F0) ∧ b < w'.heap.size ∧ ¬ D' b

omit [GInv] in
theorem stayK_some : ∀ (l : List Blk) (k : Nat), stayK (l.map some) k = List.range' k l.length
  | [], k => rfl
  | b :: l, k => by simp [stayK, stayK_some l (k + 1), List.range'_succ]

omit [GInv] in
theorem BlkOk_noIds {w : World} {D : Nat → Prop} {φ φ' : Nat → Option Pl} {id id' : Nat} {blk : Blk} {f : List Nat} (hn : noIdss blk.es = true) (hφ : φ' id' = φ id) (h : BlkOk w D φ id blk f) : BlkOk w D φ' id' blk f := by
  rcases h with ⟨h1, h2, h3⟩ | ⟨p, arr, ty, f', h1, h2, h3, h4, h5, h6⟩
  · exact .inl ⟨hφ.trans h1, h2, h3⟩
  · exact .inr ⟨p, arr, ty, f', hφ.trans h1, h2, h3, h4, h5, CR_mono (fun _ hb => hb) _ _ _ _ _ _ (fun _ _ => rfl) (fun i hm => by rw [ments_noIds i _ hn] at hm; cases hm) h6⟩

/-! ### The caller's side -/

def idx? (M : List Nat) (id : Nat) : Option Nat := match M with
  | [] => none
  | m :: M => if m = id then some 0 else (idx? M id).map (· + 1)

omit [GInv] in
theorem idx?_some : ∀ (M : List Nat) (id k : Nat), idx? M id = some k → M[k]? = some id
  | [], id, k, h => by simp [idx?] at h
  | m :: M, id, k, h => by
    simp only [idx?] at h
    split at h
    · rename_i e; simp only [Option.some.injEq] at h; subst h; subst e; rfl
    · simp only [Option.map_eq_some_iff] at h
      obtain ⟨j, hj, rfl⟩ := h
      simpa using idx?_some M id j hj
omit [GInv] in
theorem idx?_none : ∀ (M : List Nat) (id : Nat), idx? M id = none → id ∉ M
  | [], id, h => by simp
  | m :: M, id, h => by
    simp only [idx?] at h
    split at h
    · cases h
    · rename_i e
      simp only [Option.map_eq_none_iff] at h
      simp only [List.mem_cons, not_or]
      exact ⟨fun e' => e e'.symm, idx?_none M id h⟩
omit [GInv] in
theorem idx?_get : ∀ (M : List Nat) (k id : Nat), M.Nodup → M[k]? = some id → idx? M id = some k
  | [], k, id, _, h => by simp at h
  | m :: M, k, id, hn, h => by
    simp only [List.nodup_cons] at hn
    cases k with
    | zero => simp at h; subst h; simp [idx?]
    | succ k =>
      simp only [List.getElem?_cons_succ] at h
      have hm : id ∈ M := (List.mem_iff_getElem?).2 ⟨k, h⟩
      have : m ≠ id := fun e => hn.1 (e ▸ hm)
      simp [idx?, this, idx?_get M k id hn.2 h]

def offM (M : List Nat) (hp : Nat → Option Blk) (id : Nat) : Option Blk := if (idx? M id).isSome then none else hp id

/-- A value of one cell that is handed to a function that may write the blocks M. -/
def lend0 (M : List Nat) (hp : Nat → Option Blk) (k : Nat) : V → V
  | .sl id i n => match idx? M id with | some j => .sl (mid j) i n | none => borrow (offM M hp) k (.sl id i n)
  | .ref id i j => match idx? M id with | some m => .ref (mid m) i j | none => borrow (offM M hp) k (.ref id i j)
  | v => borrow (offM M hp) k v

/-- A value that is handed to a function that may write the blocks M. -/
def lend (M : List Nat) (hp : Nat → Option Blk) : Nat → V → V
  | k + 1, .agg cs => .agg (cs.map (lend0 M hp k))
  | k, v => lend0 M hp k v

section
variable {X : Ctx} {s : St} {a : Act} {w : World} {D : Nat → Prop} {φ : Nat → Option Pl} {F : Nat → List Nat}

omit [GInv] in
theorem lend0_ok {D' : Nat → Prop} {M : List Nat} {hp : Nat → Option Blk} {k : Nat} {p0 : Nat → Option Pl} (hp0 : ∀ j id, M[j]? = some id → p0 j = φ id) (hD : ∀ b, D b → D' b) (hF : ∀ id b, id ∉ M → b ∈ F id → D' b)
    (hb : ∀ id blk, hp id = some blk → BlkOk w D φ id blk (F id)) (v : V) (x : Value) (h : CV w D v φ x []) : CV w D' (lend0 M hp k v) (plM M.length p0) x [] := by
  have hoff : ∀ id blk, offM M hp id = some blk → BlkOk w D φ id blk (if id ∈ M then [] else F id) := fun id blk hbl => by
    unfold offM at hbl
    split at hbl
    · cases hbl
    · rename_i hi
      have : id ∉ M := idx?_none M id (by simpa using hi)
      rw [if_neg this]; exact hb id blk hbl
  have plain : ∀ v, CV w D v φ x [] → CV w D' (borrow (offM M hp) k v) (plM M.length p0) x [] := fun v h => by
    have h1 := borrow_ok (F := fun id => if id ∈ M then [] else F id) hD (fun id b hbm => by
      split at hbm
      · cases hbm
      · rename_i hi; exact hF id b hi hbm) hoff k φ (.inl rfl) v x [] (by simp) h
    exact CV_mono (fun _ hb => hb) _ _ _ _ _ (fun _ _ => rfl) (fun id hm => by rw [ment_noIds id _ (borrow_noIds _ k v)] at hm; cases hm) h1
  have lt : ∀ j id, M[j]? = some id → j < M.length := fun j id hj => (List.getElem?_eq_some_iff.1 hj).1
  cases v with
  | sl id i n =>
    simp only [lend0]
    split
    · rename_i j hj
      have hj' := idx?_some M id j hj
      have e : plM M.length p0 (mid j) = φ id := by rw [plM_mid p0 (lt j id hj'), hp0 j id hj']
      simp only [CV] at h ⊢
      rw [e]; exact h
    · exact plain _ h
  | ref id i j =>
    simp only [lend0]
    split
    · rename_i m hm
      have hm' := idx?_some M id m hm
      have e : plM M.length p0 (mid m) = φ id := by rw [plM_mid p0 (lt m id hm'), hp0 m id hm']
      simp only [CV] at h ⊢
      rw [e]; exact h
    · exact plain _ h
  | _ => exact plain _ h

omit [GInv] in
theorem CVs_lend0 {D' : Nat → Prop} {M : List Nat} {hp : Nat → Option Blk} {k : Nat} {p0 : Nat → Option Pl} (hp0 : ∀ j id, M[j]? = some id → p0 j = φ id) (hD : ∀ b, D b → D' b) (hF : ∀ id b, id ∉ M → b ∈ F id → D' b)
    (hb : ∀ id blk, hp id = some blk → BlkOk w D φ id blk (F id)) : ∀ (vs : List V) (xs : List Value), CVs w D vs φ xs [] → CVs w D' (vs.map (lend0 M hp k)) (plM M.length p0) xs []
  | [], xs, h => by simpa [CVs] using h
  | v :: vs, xs, h => by
    simp only [CVs] at h
    obtain ⟨x, xs', f1, f2, rfl, hf, h1, h2⟩ := h
    obtain ⟨rfl, rfl⟩ := List.append_eq_nil_iff.1 hf.symm
    simp only [List.map_cons, CVs]
    exact ⟨x, xs', [], [], rfl, rfl, lend0_ok hp0 hD hF hb v x h1, CVs_lend0 hp0 hD hF hb vs xs' h2⟩

omit [GInv] in
theorem lend_ok {D' : Nat → Prop} {M : List Nat} {hp : Nat → Option Blk} {p0 : Nat → Option Pl} (hp0 : ∀ j id, M[j]? = some id → p0 j = φ id) (hD : ∀ b, D b → D' b) (hF : ∀ id b, id ∉ M → b ∈ F id → D' b)
    (hb : ∀ id blk, hp id = some blk → BlkOk w D φ id blk (F id)) : ∀ (k : Nat) (v : V) (x : Value), CV w D v φ x [] → CV w D' (lend M hp k v) (plM M.length p0) x []
  | k + 1, .agg cs, x, h => by
    simp only [CV, lend] at h ⊢
    obtain ⟨xs, h1, h2⟩ := h
    exact ⟨xs, h1, CVs_lend0 (k := k) hp0 hD hF hb cs _ h2⟩
  | 0, v, x, h => by simp only [lend]; exact lend0_ok hp0 hD hF hb v x h
  | k + 1, .undef, x, h | k + 1, .v _, x, h | k + 1, .ref _ _ _, x, h | k + 1, .sl _ _ _, x, h | k + 1, .rp _ _ _ _, x, h | k + 1, .ro _ _, x, h | k + 1, .own _ _, x, h | k + 1, .tup _, x, h | k + 1, .clo _ _, x, h => by
    simp only [lend]; exact lend0_ok hp0 hD hF hb _ x h

omit [GInv] in
theorem CVs_lend {D' : Nat → Prop} {M : List Nat} {hp : Nat → Option Blk} {k : Nat} {p0 : Nat → Option Pl} (hp0 : ∀ j id, M[j]? = some id → p0 j = φ id) (hD : ∀ b, D b → D' b) (hF : ∀ id b, id ∉ M → b ∈ F id → D' b)
    (hb : ∀ id blk, hp id = some blk → BlkOk w D φ id blk (F id)) : ∀ (vs : List V) (xs : List Value), CVs w D vs φ xs [] → CVs w D' (vs.map (lend M hp k)) (plM M.length p0) xs []
  | [], xs, h => by simpa [CVs] using h
  | v :: vs, xs, h => by
    simp only [CVs] at h
    obtain ⟨x, xs', f1, f2, rfl, hf, h1, h2⟩ := h
    obtain ⟨rfl, rfl⟩ := List.append_eq_nil_iff.1 hf.symm
    simp only [List.map_cons, CVs]
    exact ⟨x, xs', [], [], rfl, rfl, lend_ok hp0 hD hF hb k v x h1, CVs_lend hp0 hD hF hb vs xs' h2⟩

/-- The blocks behind the call. -/
def St.wrote (s : St) (M : List Nat) (H1 : List (Option Blk)) : St := { s with hp := fun id => match idx? M id with | some k => (H1[k]?).join | none => s.hp id }

omit [GInv] in
theorem range_flatMap (M : List Nat) (F : Nat → List Nat) : (List.range M.length).flatMap (fun k => F (M.getD k 0)) = M.flatMap F := by
  rw [← List.flatMap_map]
  congr 1
  apply List.ext_getElem?
  intro i
  by_cases h : i < M.length
  · simp [List.getD, h]
  · simp [h]

/-- The state behind the writing, with the result's blocks on their way. -/
theorem RelD.wrote (h : RelD X s a w D φ F []) {M : List Nat} (hM : M.Nodup) {H1 : List (Option Blk)} (hl : H1.length = M.length) {w' : World} {D' : Nat → Prop} {fp : List Nat} {F1 : Nat → List Nat} (hg : Grow w D (M.flatMap F) w' D')
    (hno : ∀ (k : Nat) (blk : Blk), H1[k]? = some (some blk) → noIdss blk.es = true) (hb : ∀ (k : Nat) (blk : Blk), H1[k]? = some (some blk) → BlkOk w' D' (fun _ => φ (M.getD k 0)) 0 blk (F1 k)) (hn : (fp ++ (stayK H1 0).flatMap F1).Nodup)
    (hf : ∀ b, b ∈ fp ++ (stayK H1 0).flatMap F1 → (w.heap.size ≤ b ∨ b ∈ M.flatMap F) ∧ b < w'.heap.size ∧ ¬ D' b) :
    RelD X (s.wrote M H1) a w' D' φ (fun id => match idx? M id with | some k => (match (H1[k]?).join with | some _ => F1 k | none => []) | none => F id) fp := by
  have ltM : ∀ k id, M[k]? = some id → k < M.length := fun k id hk => (List.getElem?_eq_some_iff.1 hk).1
  have getD : ∀ k id, M[k]? = some id → M.getD k 0 = id := fun k id hk => by simp [List.getD, hk]
  have inM : ∀ id k, idx? M id = some k → id ∈ M := fun id k hk => List.mem_iff_getElem?.2 ⟨k, idx?_some M id k hk⟩
  -- a block of the state that is not written stays
  have stays : ∀ b, (D b ∨ ∃ id, id ∉ M ∧ b ∈ F id) → w'.heap[b]? = w.heap[b]? := fun b hb => by
    refine hg.old b ?_ fun hm => ?_
    · rcases hb with hb | ⟨id, _, hb⟩
      · exact h.Dlt b hb
      · exact (h.notD id b hb).2.1
    · obtain ⟨j, hj, hbj⟩ := List.mem_flatMap.1 hm
      rcases hb with hb | ⟨id, hid, hb⟩
      · exact (h.notD j b hbj).1 hb
      · exact h.sep id j (fun e => hid (e ▸ hj)) b hb hbj
  have notD' : ∀ b, b < w.heap.size → ¬ D b → ¬ D' b := fun b hb hn hd => by
    rcases hg.Ddn b hd with e | e
    · exact hn e
    · omega
  -- where the blocks of an id come from
  have from1 : ∀ id k, idx? M id = some k → ∀ b, b ∈ (match (H1[k]?).join with | some _ => F1 k | none => []) → k ∈ stayK H1 0 ∧ b ∈ F1 k := fun id k hk b hb => by
    split at hb
    · rename_i blk hbl
      refine ⟨(mem_stayK H1 0 k).2 ⟨Nat.zero_le _, blk, ?_⟩, hb⟩
      rw [Nat.sub_zero]
      cases hh : H1[k]? with
      | none => rw [hh] at hbl; cases hbl
      | some o => rw [hh] at hbl; simp only [Option.join_some] at hbl; rw [hbl]
    · cases hb
  have fresh1 : ∀ id k, idx? M id = some k → ∀ b, b ∈ (match (H1[k]?).join with | some _ => F1 k | none => []) → (w.heap.size ≤ b ∨ b ∈ M.flatMap F) ∧ b < w'.heap.size ∧ ¬ D' b := fun id k hk b hb => by
    have := from1 id k hk b hb
    exact hf b (List.mem_append_right _ (List.mem_flatMap.2 ⟨k, this.1, this.2⟩))
  have oldOk : ∀ b, (w.heap.size ≤ b ∨ b ∈ M.flatMap F) → X.w0.heap.size ≤ b ∨ b ∈ X.W := fun b hb => by
    rcases hb with hb | hb
    · exact .inl (Nat.le_trans h.size hb)
    · obtain ⟨j, _, hbj⟩ := List.mem_flatMap.1 hb
      exact (h.notD j b hbj).2.2
  have offM : ∀ id, id ∉ M → ∀ b, b ∈ F id → ¬ (w.heap.size ≤ b ∨ b ∈ M.flatMap F) := fun id hid b hb hx => by
    rcases hx with hx | hx
    · have := (h.notD id b hb).2.1; omega
    · obtain ⟨j, hj, hbj⟩ := List.mem_flatMap.1 hx
      exact h.sep id j (fun e => hid (e ▸ hj)) b hb hbj
  have n1 := List.nodup_append.1 hn
  have sep1 : ∀ (l : List Nat), l.Nodup → (l.flatMap F1).Nodup → (∀ k, k ∈ l → (F1 k).Nodup) ∧ ∀ k j, k ∈ l → j ∈ l → k ≠ j → ∀ b, b ∈ F1 k → b ∉ F1 j := by
    intro l
    induction l with
    | nil => exact fun _ _ => ⟨fun _ hk => absurd hk List.not_mem_nil, fun _ _ hk => absurd hk List.not_mem_nil⟩
    | cons m l ih =>
      intro hnd hfl
      rw [List.nodup_cons] at hnd
      rw [List.flatMap_cons, List.nodup_append] at hfl
      obtain ⟨g1, g2⟩ := ih hnd.2 hfl.2.1
      refine ⟨fun k hk => ?_, fun k j hk hj hne b hb hb' => ?_⟩
      · rcases List.mem_cons.1 hk with rfl | hk
        · exact hfl.1
        · exact g1 k hk
      · rcases List.mem_cons.1 hk with ek | hk1
        · rcases List.mem_cons.1 hj with ej | hj1
          · exact hne (ek.trans ej.symm)
          · exact hfl.2.2 b (ek ▸ hb) b (List.mem_flatMap.2 ⟨j, hj1, hb'⟩) rfl
        · rcases List.mem_cons.1 hj with ej | hj1
          · exact hfl.2.2 b (ej ▸ hb') b (List.mem_flatMap.2 ⟨k, hk1, hb⟩) rfl
          · exact g2 k j hk1 hj1 hne b hb hb'
  obtain ⟨g1, g2⟩ := sep1 (stayK H1 0) (stayK_nodup H1 0) n1.2.1
  refine { os := hg.os.trans h.os, tape := hg.tape.trans h.tape, output := hg.output.trans h.output, size := Nat.le_trans h.size hg.size, old := fun b hb hW => ?_, Dup := fun b hb => hg.Dup b (h.Dup b hb), Ddn := fun b hb => ?_, Dlt := hg.Dlt, defers := h.defers, ntmps := h.ntmps, slots := fun t => ?_, blks := fun id blk hbl => ?_, nob := fun id hid => ?_, nodup := fun id => ?_, sep := fun i j hij b hbi => ?_, notD := fun id b hbi => ?_, pins := h.pins, gnodup := n1.1, gsep := fun i b hbi hm => ?_, gnotD := fun b hbm => ?_, gi := GInv.mono h.gi hg.Dup fun b hb => stays b (.inl hb) }
  · rw [hg.old b (Nat.lt_of_lt_of_le hb h.size) fun hm => ?_]
    · exact h.old b hb hW
    · obtain ⟨j, _, hbj⟩ := List.mem_flatMap.1 hm
      rcases (h.notD j b hbj).2.2 with e | e
      · omega
      · exact hW e
  · rcases hg.Ddn b hb with e | e
    · exact h.Ddn b e
    · exact .inr (Nat.le_trans h.size e)
  · exact CV_mono hg.Dup _ _ _ _ _ (fun b hb => stays b (hb.elim .inl (by simp))) (fun _ _ => rfl) (h.slots t)
  · simp only [St.wrote] at hbl
    split at hbl
    · rename_i k hk
      have hbl' : H1[k]? = some (some blk) := by
        cases hh : H1[k]? with
        | none => rw [hh] at hbl; cases hbl
        | some o => rw [hh] at hbl; simp only [Option.join_some] at hbl; rw [hbl]
      have hid := idx?_some M id k hk
      have := hb k blk hbl'
      rw [getD k id hid] at this
      simp only [hbl', Option.join_some]
      exact BlkOk_noIds (φ := fun _ => φ id) (id := 0) (hno k blk hbl') rfl this
    · rename_i hk
      have hid := idx?_none M id hk
      rcases h.blks id blk hbl with e | ⟨p, arr, ty, f', h1, h2, h3, h4, h5, h6⟩
      · exact .inl e
      · refine .inr ⟨p, arr, ty, f', h1, h2, h3, ?_, h5, CR_mono hg.Dup _ _ _ _ _ _ (fun b hb' => stays b (hb'.imp (fun hx => hx) fun hm => ⟨_, hid, by rw [h5]; exact List.mem_cons_of_mem _ hm⟩)) (fun _ _ => rfl) h6⟩
        rw [stays p.b (.inr ⟨_, hid, by rw [h5]; exact List.mem_cons_self⟩)]; exact h4
  · simp only [St.wrote] at hid
    split at hid
    · rename_i k hk; simp only [hid]
    · exact h.nob id hid
  · show (match idx? M id with | some k => (match (H1[k]?).join with | some _ => F1 k | none => []) | none => F id).Nodup
    split
    · rename_i k hk
      split
      · rename_i blk hbl
        refine g1 k ((mem_stayK H1 0 k).2 ⟨Nat.zero_le _, blk, ?_⟩)
        rw [Nat.sub_zero]
        cases hh : H1[k]? with
        | none => rw [hh] at hbl; cases hbl
        | some o => rw [hh] at hbl; simp only [Option.join_some] at hbl; rw [hbl]
      · exact List.nodup_nil
    · exact h.nodup id
  · intro hbj
    cases hi : idx? M i with
    | some ki =>
      rw [hi] at hbi
      cases hj : idx? M j with
      | some kj =>
        rw [hj] at hbj
        have a1 := from1 i ki hi b hbi
        have a2 := from1 j kj hj b hbj
        refine g2 ki kj a1.1 a2.1 (fun e => hij ?_) b a1.2 a2.2
        have e1 := idx?_some M i ki hi
        have e2 := idx?_some M j kj hj
        rw [e, e2] at e1; exact (Option.some.inj e1).symm
      | none =>
        rw [hj] at hbj
        exact offM j (idx?_none M j hj) b hbj (fresh1 i ki hi b hbi).1
    | none =>
      rw [hi] at hbi
      cases hj : idx? M j with
      | some kj =>
        rw [hj] at hbj
        exact offM i (idx?_none M i hi) b hbi (fresh1 j kj hj b hbj).1
      | none =>
        rw [hj] at hbj
        exact h.sep i j hij b hbi hbj
  · cases hi : idx? M id with
    | some ki =>
      rw [hi] at hbi
      have := fresh1 id ki hi b hbi
      exact ⟨this.2.2, this.2.1, oldOk b this.1⟩
    | none =>
      rw [hi] at hbi
      have := h.notD id b hbi
      exact ⟨notD' b this.2.1 this.1, Nat.lt_of_lt_of_le this.2.1 hg.size, this.2.2⟩
  · cases hi : idx? M i with
    | some ki =>
      rw [hi] at hbi
      have a1 := from1 i ki hi b hbi
      exact n1.2.2 b hm b (List.mem_flatMap.2 ⟨ki, a1.1, a1.2⟩) rfl
    | none =>
      rw [hi] at hbi
      exact offM i (idx?_none M i hi) b hbi (hf b (List.mem_append_left _ hm)).1
  · have := hf b (List.mem_append_left _ hbm)
    exact ⟨this.2.2, this.2.1, oldOk b this.1⟩

/-- THE RULE OF A CALL OF A FUNCTION THAT WRITES. -/
theorem mcall_ok {P : Program} {f d k : Nat} {vs : List V} {res : V} {xs : List Value} {M : List Nat} {H0 : List Blk} {H1 : List (Option Blk)} (hP : MCall P f H0 (vs.map (lend M s.hp k)) res H1) (h : Rel X s a w)
    (hM : M.Nodup) (hH : M.map s.hp = H0.map some) (hn0 : ∀ blk ∈ H0, noIdss blk.es = true) (hn1 : ∀ (j : Nat) (blk : Blk), H1[j]? = some (some blk) → noIdss blk.es = true)
    (hv : ∀ D φ F, RelD X s a w D φ F [] → CVs w D vs φ xs []) (hd : d < X.n) (hres : resOk res = true) (hro : noRo res = true) (hro1 : ∀ (j : Nat) (blk : Blk), H1[j]? = some (some blk) → noRos blk.es = true)
    (hf : ∀ i, i < (take d 0 res).2.2 → Fresh (s.wrote M H1) (d + 1000 * i) ∧ d + 1000 * i ∉ X.pin) :
    Calls P f xs.toArray w fun e w' => ∃ y, e = .returned y ∧ Rel X ((s.wrote M H1).took d res) (a.put (some d) y) w' := by
  obtain ⟨D, φ, F, h⟩ := h
  have hvs := hv D φ F h
  have hlen : H0.length = M.length := by
    have := congrArg List.length hH
    simpa using this.symm
  have get : ∀ (j : Nat) (blk : Blk), H0[j]? = some blk → ∃ id, M[j]? = some id ∧ s.hp id = some blk := fun j blk hj => by
    have h1 : (M.map s.hp)[j]? = some (some blk) := by rw [hH]; simp [hj]
    rw [List.getElem?_map, Option.map_eq_some_iff] at h1
    exact h1
  -- what the callee may not read or write: only the blocks of M
  let D2 : Nat → Prop := fun b => b < w.heap.size ∧ b ∉ M.flatMap F
  have hD2 : ∀ b, D b → D2 b := fun b hb => ⟨h.Dlt b hb, fun hm => by
    obtain ⟨j, _, hbj⟩ := List.mem_flatMap.1 hm
    exact (h.notD j b hbj).1 hb⟩
  have hargs := CVs_lend (M := M) (hp := s.hp) (k := k) (p0 := fun j => φ (M.getD j 0)) (D' := D2) (fun j id hj => by simp [List.getD, hj]) hD2
    (fun id b hid hb => ⟨(h.notD id b hb).2.1, fun hm => by
      obtain ⟨j, hj, hbj⟩ := List.mem_flatMap.1 hm
      exact h.sep id j (fun e => hid (e ▸ hj)) b hb hbj⟩) h.blks vs xs hvs
  have hfm : (List.range H0.length).flatMap (fun j => F (M.getD j 0)) = M.flatMap F := by rw [hlen]; exact range_flatMap M F
  have hl1 : H1.length = M.length := hP.2.1.trans hlen
  have hcall := hP.2.2 w D2 xs (fun j => φ (M.getD j 0)) (fun j => F (M.getD j 0)) (fun b hb => hb.1) (GInv.mono h.gi hD2 fun _ _ => rfl) (fun j blk hj => by
    obtain ⟨id, hid, hbl⟩ := get j blk hj
    have e : M.getD j 0 = id := by simp [List.getD, hid]
    rw [e]
    have hno := hn0 blk (List.mem_iff_getElem?.2 ⟨j, hj⟩)
    rcases h.blks id blk hbl with g | ⟨p, arr, ty, f', h1, h2, h3, h4, h5, h6⟩
    · exact .inl g
    · exact .inr ⟨p, arr, ty, f', h1, h2, h3, h4, h5, CR_mono hD2 _ _ _ _ _ _ (fun _ _ => rfl) (fun i hm => by rw [ments_noIds i _ hno] at hm; cases hm) h6⟩)
    (by rw [hfm]; exact flatMap_nodup h M hM) (fun b hb => by
      rw [hfm] at hb
      obtain ⟨j, _, hbj⟩ := List.mem_flatMap.1 hb
      exact ⟨fun hx => hx.2 hb, (h.notD j b hbj).2.1⟩) (by rw [hlen]; exact hargs)
  refine hcall.mono ?_
  rintro e w' ⟨y, D', fp, F1, rfl, hg, hc, hb1, hnd, hfr⟩
  rw [hfm] at hg hfr
  refine ⟨y, rfl, ?_⟩
  -- back to what the caller may read
  let D3 : Nat → Prop := fun b => D b ∨ (w.heap.size ≤ b ∧ D' b)
  have hg3 : Grow w D (M.flatMap F) w' D3 :=
    { hg with Dup := fun b hb => .inl hb, Ddn := fun b hb => hb.imp (fun hx => hx) (·.1), Dlt := fun b hb => hb.elim (fun hb => Nat.lt_of_lt_of_le (h.Dlt b hb) hg.size) (fun hb => hg.Dlt b hb.2) }
  have hfr3 : ∀ b, b ∈ fp ++ (stayK H1 0).flatMap F1 → (w.heap.size ≤ b ∨ b ∈ M.flatMap F) ∧ b < w'.heap.size ∧ ¬ D3 b := fun b hb => by
    have := hfr b hb
    refine ⟨this.1, this.2.1, fun hx => ?_⟩
    rcases hx with hx | hx
    · exact this.2.2 (hg.Dup b (hD2 b hx))
    · exact this.2.2 hx.2
  have hw := h.wrote hM hl1 (fp := fp) (F1 := F1) hg3 hn1 (fun j blk hj => by
    rcases hb1 j blk hj with g | ⟨p, arr, ty, f', h1, h2, h3, h4, h5, h6⟩
    · exact .inl g
    · refine .inr ⟨p, arr, ty, f', h1, h2, h3, h4, h5, ?_⟩
      exact CR_noRo _ blk.es _ _ _ (hro1 j blk hj) h6) hnd hfr3
  have hc3 : CV w' D3 res (fun _ => none) y fp := CV_noRo res _ _ _ hro hc
  rw [← List.append_nil fp] at hw
  obtain ⟨φ', F', t1, t2, _⟩ := take_ok (d := d) res 0 (s.wrote M H1) φ _ y fp [] hres hw hc3 (fun i _ hi => hf i hi)
  exact ⟨D3, φ', F', t1.rel.put d hd _ _ t2⟩
/-- The same, where only R is told. -/
theorem mcallR_ok {P : Program} {f d k : Nat} {vs : List V} {xs : List Value} {M : List Nat} {H0 : List Blk} {R : V → List Blk → Prop} (hP : MCallR P f H0 (vs.map (lend M s.hp k)) R) (h : Rel X s a w)
    (hM : M.Nodup) (hH : M.map s.hp = H0.map some) (hn0 : ∀ blk ∈ H0, noIdss blk.es = true) (hv : ∀ D φ F, RelD X s a w D φ F [] → CVs w D vs φ xs []) (hd : d < X.n)
    (hR : ∀ res l, R res l → l.length = H0.length → resOk res = true ∧ noRo res = true ∧ (∀ (j : Nat) (blk : Blk), (l.map some)[j]? = some (some blk) → noIdss blk.es = true ∧ noRos blk.es = true) ∧
      ∀ i, i < (take d 0 res).2.2 → Fresh (s.wrote M (l.map some)) (d + 1000 * i) ∧ d + 1000 * i ∉ X.pin) :
    Calls P f xs.toArray w fun e w' => ∃ y res l, R res l ∧ l.length = H0.length ∧ e = .returned y ∧ Rel X ((s.wrote M (l.map some)).took d res) (a.put (some d) y) w' := by
  obtain ⟨D, φ, F, h⟩ := h
  have hvs := hv D φ F h
  have hlen : H0.length = M.length := by
    have := congrArg List.length hH
    simpa using this.symm
  have get : ∀ (j : Nat) (blk : Blk), H0[j]? = some blk → ∃ id, M[j]? = some id ∧ s.hp id = some blk := fun j blk hj => by
    have h1 : (M.map s.hp)[j]? = some (some blk) := by rw [hH]; simp [hj]
    rw [List.getElem?_map, Option.map_eq_some_iff] at h1
    exact h1
  -- what the callee may not read or write: only the blocks of M
  let D2 : Nat → Prop := fun b => b < w.heap.size ∧ b ∉ M.flatMap F
  have hD2 : ∀ b, D b → D2 b := fun b hb => ⟨h.Dlt b hb, fun hm => by
    obtain ⟨j, _, hbj⟩ := List.mem_flatMap.1 hm
    exact (h.notD j b hbj).1 hb⟩
  have hargs := CVs_lend (M := M) (hp := s.hp) (k := k) (p0 := fun j => φ (M.getD j 0)) (D' := D2) (fun j id hj => by simp [List.getD, hj]) hD2
    (fun id b hid hb => ⟨(h.notD id b hb).2.1, fun hm => by
      obtain ⟨j, hj, hbj⟩ := List.mem_flatMap.1 hm
      exact h.sep id j (fun e => hid (e ▸ hj)) b hb hbj⟩) h.blks vs xs hvs
  have hfm : (List.range H0.length).flatMap (fun j => F (M.getD j 0)) = M.flatMap F := by rw [hlen]; exact range_flatMap M F
  have hcall := hP.2 w D2 xs (fun j => φ (M.getD j 0)) (fun j => F (M.getD j 0)) (fun b hb => hb.1) (GInv.mono h.gi hD2 fun _ _ => rfl) (fun j blk hj => by
    obtain ⟨id, hid, hbl⟩ := get j blk hj
    have e : M.getD j 0 = id := by simp [List.getD, hid]
    rw [e]
    have hno := hn0 blk (List.mem_iff_getElem?.2 ⟨j, hj⟩)
    rcases h.blks id blk hbl with g | ⟨p, arr, ty, f', h1, h2, h3, h4, h5, h6⟩
    · exact .inl g
    · exact .inr ⟨p, arr, ty, f', h1, h2, h3, h4, h5, CR_mono hD2 _ _ _ _ _ _ (fun _ _ => rfl) (fun i hm => by rw [ments_noIds i _ hno] at hm; cases hm) h6⟩)
    (by rw [hfm]; exact flatMap_nodup h M hM) (fun b hb => by
      rw [hfm] at hb
      obtain ⟨j, _, hbj⟩ := List.mem_flatMap.1 hb
      exact ⟨fun hx => hx.2 hb, (h.notD j b hbj).2.1⟩) (by rw [hlen]; exact hargs)
  refine hcall.mono ?_
  rintro e w' ⟨res, l, hRR, hll, y, D', fp, F1, rfl, hg, hc, hb1', hnd, hfr⟩
  obtain ⟨hres, hro, hbs, hf⟩ := hR res l hRR hll
  have hst : stayK (l.map some) 0 = List.range H0.length := by rw [stayK_some, hll, List.range_eq_range']
  have hl1 : (l.map some).length = M.length := by rw [List.length_map, hll, hlen]
  have hn1 : ∀ (j : Nat) (blk : Blk), (l.map some)[j]? = some (some blk) → noIdss blk.es = true := fun j blk hj => (hbs j blk hj).1
  have hro1 : ∀ (j : Nat) (blk : Blk), (l.map some)[j]? = some (some blk) → noRos blk.es = true := fun j blk hj => (hbs j blk hj).2
  have hb1 : ∀ k blk, (l.map some)[k]? = some (some blk) → BlkOk w' D' (fun _ => φ (M.getD k 0)) 0 blk (F1 k) := fun k blk hk => hb1' k blk (by rw [List.getElem?_map] at hk; cases hlk : l[k]? <;> simp_all)
  rw [← hst] at hnd hfr
  rw [hst] at hfr
  rw [hfm] at hg hfr
  rw [← hst] at hfr
  refine ⟨y, res, l, hRR, hll, rfl, ?_⟩
  -- back to what the caller may read
  let D3 : Nat → Prop := fun b => D b ∨ (w.heap.size ≤ b ∧ D' b)
  have hg3 : Grow w D (M.flatMap F) w' D3 :=
    { hg with Dup := fun b hb => .inl hb, Ddn := fun b hb => hb.imp (fun hx => hx) (·.1), Dlt := fun b hb => hb.elim (fun hb => Nat.lt_of_lt_of_le (h.Dlt b hb) hg.size) (fun hb => hg.Dlt b hb.2) }
  have hfr3 : ∀ b, b ∈ fp ++ (stayK (l.map some) 0).flatMap F1 → (w.heap.size ≤ b ∨ b ∈ M.flatMap F) ∧ b < w'.heap.size ∧ ¬ D3 b := fun b hb => by
    have := hfr b hb
    refine ⟨this.1, this.2.1, fun hx => ?_⟩
    rcases hx with hx | hx
    · exact this.2.2 (hg.Dup b (hD2 b hx))
    · exact this.2.2 hx.2
  have hw := h.wrote hM hl1 (fp := fp) (F1 := F1) hg3 hn1 (fun j blk hj => by
    rcases hb1 j blk hj with g | ⟨p, arr, ty, f', h1, h2, h3, h4, h5, h6⟩
    · exact .inl g
    · refine .inr ⟨p, arr, ty, f', h1, h2, h3, h4, h5, ?_⟩
      exact CR_noRo _ blk.es _ _ _ (hro1 j blk hj) h6) hnd hfr3
  have hc3 : CV w' D3 res (fun _ => none) y fp := CV_noRo res _ _ _ hro hc
  rw [← List.append_nil fp] at hw
  obtain ⟨φ', F', t1, t2, _⟩ := take_ok (d := d) res 0 (s.wrote M (l.map some)) φ _ y fp [] hres hw hc3 (fun i _ hi => hf i hi)
  exact ⟨D3, φ', F', t1.rel.put d hd _ _ t2⟩
end
end Go.Abs
