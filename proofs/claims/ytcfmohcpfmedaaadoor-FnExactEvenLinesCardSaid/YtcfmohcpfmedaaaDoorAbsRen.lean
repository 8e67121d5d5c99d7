/- The abstract layer, part 16: a block gets another id. -/
import Derived.Test.YtcfmohcpfmedaaaDoorAbsStr
set_option linter.unusedVariables false
set_option linter.unusedSimpArgs false
namespace Go.Abs
variable [GInv]

def reN (i j k : Nat) : Nat := if k = i then j else k

mutual
def ren (i j : Nat) : V → V
  | .ref k a b => .ref (reN i j k) a b
  | .sl k a n => .sl (reN i j k) a n
  | .agg cs => .agg (rens i j cs)
  | .tup cs => .tup (rens i j cs)
  | .clo f cs => .clo f (rens i j cs)
  | .undef => .undef
  | .v x => .v x
  | .rp s es a b => .rp s es a b
  | .ro s es => .ro s es
  | .own s es => .own s es
def rens (i j : Nat) : List V → List V
  | [] => []
  | c :: cs => ren i j c :: rens i j cs
end
attribute [simp] reN ren rens

section
variable {w : World} {D : Nat → Prop} {φ φ' : Nat → Option Pl} {i j : Nat}

omit [GInv] in
theorem reN_eq (hj : φ' j = φ i) (ho : ∀ k, k ≠ j → φ' k = φ k) {k : Nat} (h : k ≠ j) : φ' (reN i j k) = φ k := by
  unfold reN
  split
  · rename_i e; rw [hj, e]
  · exact ho k h

omit [GInv] in
mutual
theorem CV_ren (hj : φ' j = φ i) (ho : ∀ k, k ≠ j → φ' k = φ k) : ∀ (v : V) (x : Value) (fp : List Nat), ment j v = false → CV w D v φ x fp → CV w D (ren i j v) φ' x fp
  | .undef, x, fp, _, h => by simpa [CV] using h
  | .v y, x, fp, _, h => by simpa [CV] using h
  | .rp _ _ _ _, x, fp, _, h => by simpa [CV] using h
  | .ro _ _, x, fp, _, h => by simpa [CV] using h
  | .own _ _, x, fp, _, h => by simpa [CV] using h
  | .ref k a b, x, fp, hm, h => by
    have hk : k ≠ j := by simpa [ment] using hm
    simp only [ren, CV] at h ⊢
    rw [reN_eq hj ho hk]; exact h
  | .sl k a n, x, fp, hm, h => by
    have hk : k ≠ j := by simpa [ment] using hm
    simp only [ren, CV] at h ⊢
    rw [reN_eq hj ho hk]; exact h
  | .agg cs, x, fp, hm, h => by
    simp only [ren, CV] at h ⊢
    obtain ⟨xs, rfl, h⟩ := h
    exact ⟨xs, rfl, CVs_ren hj ho cs _ _ (by simpa [ment] using hm) h⟩
  | .tup cs, x, fp, hm, h => by
    simp only [ren, CV] at h ⊢
    obtain ⟨xs, rfl, h⟩ := h
    exact ⟨xs, rfl, CVs_ren hj ho cs _ _ (by simpa [ment] using hm) h⟩
  | .clo f cs, x, fp, hm, h => by
    simp only [ren, CV] at h ⊢
    obtain ⟨xs, rfl, h⟩ := h
    exact ⟨xs, rfl, CVs_ren hj ho cs _ _ (by simpa [ment] using hm) h⟩
theorem CVs_ren (hj : φ' j = φ i) (ho : ∀ k, k ≠ j → φ' k = φ k) : ∀ (cs : List V) (xs : List Value) (fp : List Nat), ments j cs = false → CVs w D cs φ xs fp → CVs w D (rens i j cs) φ' xs fp
  | [], xs, fp, _, h => by simpa [CVs] using h
  | c :: cs, xs, fp, hm, h => by
    simp only [ments, Bool.or_eq_false_iff] at hm
    simp only [rens, CVs] at h ⊢
    obtain ⟨x, xs', f1, f2, rfl, rfl, h1, h2⟩ := h
    exact ⟨x, xs', f1, f2, rfl, rfl, CV_ren hj ho c _ _ hm.1 h1, CVs_ren hj ho cs _ _ hm.2 h2⟩
end

omit [GInv] in
theorem CR_ren (hj : φ' j = φ i) (ho : ∀ k, k ≠ j → φ' k = φ k) {s : Nat} : ∀ (cs : List V) (xs : List Value) (fp : List Nat), ments j cs = false → CR w D s cs φ xs fp → CR w D s (rens i j cs) φ' xs fp
  | [], xs, fp, _, h => by simpa [CR] using h
  | c :: cs, xs, fp, hm, h => by
    simp only [ments, Bool.or_eq_false_iff] at hm
    simp only [rens, CR] at h ⊢
    obtain ⟨x, rest, f1, f2, rfl, hs, rfl, h1, h2⟩ := h
    exact ⟨x, rest, f1, f2, rfl, hs, rfl, CV_ren hj ho c _ _ hm.1 h1, CR_ren hj ho cs _ _ hm.2 h2⟩

omit [GInv] in
theorem rens_nil_iff : ∀ cs : List V, rens i j cs = [] ↔ cs = []
  | [] => by simp
  | c :: cs => by simp

def renB (i j : Nat) (b : Blk) : Blk := ⟨b.s, rens i j b.es⟩
attribute [simp] renB

theorem RelD.ren {X : Ctx} {s s' : St} {a : Act} {F : Nat → List Nat} {G : List Nat} (h : RelD X s a w D φ F G) (hij : i ≠ j) (hf : Fresh s j) (hp : j ∉ X.pin) (hsl : ∀ t, s'.sl t = Abs.ren i j (s.sl t))
    (hhp : ∀ k, s'.hp k = if k = j then (s.hp i).map (renB i j) else if k = i then none else (s.hp k).map (renB i j)) :
    RelD X s' a w D (fun k => if k = j then φ i else φ k) (fun k => if k = j then F i else if k = i then [] else F k) G := by
  have hj : (fun k => if k = j then φ i else φ k) j = φ i := by simp
  have ho : ∀ k, k ≠ j → (fun k => if k = j then φ i else φ k) k = φ k := fun k hk => by simp [hk]
  have blk : ∀ k blk, s.hp k = some blk → ∀ id, (if id = j then φ i else φ id) = φ k → BlkOk w D (fun k => if k = j then φ i else φ k) id (renB i j blk) (F k) := fun k blk hb id hid => by
    rcases h.blks k blk hb with ⟨h1, h2, h3⟩ | ⟨p, arr, ty, f', h1, h2, h3, h4, h5, h6⟩
    · exact .inl ⟨hid.trans h1, by simp [h2], h3⟩
    · exact .inr ⟨p, arr, ty, f', hid.trans h1, h2, h3, h4, h5, CR_ren hj ho _ _ _ (hf.hp k blk hb) h6⟩
  have part : ∀ k b, b ∈ (if k = j then F i else if k = i then [] else F k) → ∃ k', b ∈ F k' ∧ ((k = j ∧ k' = i) ∨ (k ≠ j ∧ k ≠ i ∧ k' = k)) := fun k b hb => by
    split at hb
    · rename_i e; exact ⟨i, hb, .inl ⟨e, rfl⟩⟩
    · split at hb
      · cases hb
      · rename_i e1 e2; exact ⟨k, hb, .inr ⟨e1, e2, rfl⟩⟩
  refine { h with slots := fun t => ?_, blks := fun id b hb => ?_, nob := fun id hid => ?_, nodup := fun id => ?_, sep := fun k k' hkk b hb hb' => ?_, notD := fun id b hb => ?_, pins := fun id hid => ?_, gsep := fun k b hb => ?_ }
  · rw [hsl]; exact CV_ren hj ho _ _ _ (hf.sl t) (h.slots t)
  · rw [hhp] at hb
    by_cases e : id = j
    · rw [if_pos e] at hb ⊢
      simp only [Option.map_eq_some_iff] at hb
      obtain ⟨b0, hb0, rfl⟩ := hb
      exact blk i b0 hb0 id (by rw [if_pos e])
    · rw [if_neg e] at hb ⊢
      by_cases e2 : id = i
      · rw [if_pos e2] at hb; cases hb
      · rw [if_neg e2] at hb ⊢
        simp only [Option.map_eq_some_iff] at hb
        obtain ⟨b0, hb0, rfl⟩ := hb
        exact blk id b0 hb0 id (by rw [if_neg e])
  · rw [hhp] at hid
    by_cases e : id = j
    · rw [if_pos e] at hid ⊢
      exact h.nob i (by simpa using hid)
    · rw [if_neg e] at hid ⊢
      by_cases e2 : id = i
      · rw [if_pos e2]
      · rw [if_neg e2] at hid ⊢
        exact h.nob id (by simpa using hid)
  · split
    · exact h.nodup i
    · split
      · exact List.nodup_nil
      · exact h.nodup id
  · obtain ⟨m, h1, h2⟩ := part k b hb
    obtain ⟨m', h1', h2'⟩ := part k' b hb'
    refine h.sep m m' ?_ b h1 h1'
    rcases h2 with ⟨a1, a2⟩ | ⟨a1, a2, a3⟩ <;> rcases h2' with ⟨b1, b2⟩ | ⟨b1, b2, b3⟩ <;> omega
  · obtain ⟨m, h1, _⟩ := part id b hb
    exact h.notD m b h1
  · have hne : id ≠ j := fun e => hp (by rw [← e]; exact hid)
    rw [if_neg hne]
    exact h.pins id hid
  · obtain ⟨m, h1, _⟩ := part k b hb
    exact h.gsep m b h1
end

def AS.ren (i j : Nat) (s : AS) : AS := { s with sl := s.sl.map fun p => (p.1, Abs.ren i j p.2), hp := s.hp.map fun p => (reN i j p.1, renB i j p.2) }
attribute [simp] AS.ren

omit [GInv] in
theorem lk_ren (i j : Nat) : ∀ (l : List (Nat × V)) (t : Nat), lk (l.map fun p => (p.1, ren i j p.2)) t = ren i j (lk l t)
  | [], t => by simp [lk]
  | (k, v) :: l, t => by
    simp only [List.map_cons, lk]
    split
    · rfl
    · exact lk_ren i j l t

omit [GInv] in
theorem lkb_ren {i j : Nat} (hij : i ≠ j) : ∀ (l : List (Nat × Blk)), (∀ p ∈ l, p.1 ≠ j) → ∀ k, lkb (l.map fun p => (reN i j p.1, renB i j p.2)) k = if k = j then (lkb l i).map (renB i j) else if k = i then none else (lkb l k).map (renB i j)
  | [], _, k => by simp [lkb]
  | (m, b) :: l, h, k => by
    have ih := lkb_ren hij l (fun p hp => h p (List.mem_cons_of_mem _ hp)) k
    have hm : m ≠ j := h _ List.mem_cons_self
    simp only [List.map_cons, lkb]
    rw [ih]
    simp only [reN]
    by_cases e1 : m = i
    · subst e1
      by_cases e2 : k = j
      · subst e2; simp
      · by_cases e3 : k = m
        · subst e3; simp [e2]
        · simp [e2, e3]
    · by_cases e2 : k = j
      · subst e2
        have : ¬ k = m := fun e => hm e.symm
        have e1' : ¬ i = m := fun e => e1 e.symm
        simp [e1, e1', this]
      · by_cases e3 : k = i
        · subst e3
          have : ¬ k = m := fun e => e1 e.symm
          simp [e1, e2, this]
        · by_cases e4 : k = m
          · subst e4; simp [e1, e2]
          · simp [e1, e2, e3, e4]

/-- A block gets another id. -/
theorem Wk.ren {s : AS} (i j : Nat) (hij : i ≠ j) (hf : s.fresh j = true) : Wk s (s.ren i j) := by
  refine ⟨rfl, fun X a w hpin ⟨D, φ, F, h⟩ => ?_⟩
  obtain ⟨h1, h2⟩ := AS.fresh_ok hf
  simp only [AS.fresh, Bool.and_eq_true, List.all_eq_true, bne_iff_ne, ne_eq] at hf
  exact ⟨D, _, _, h.ren hij h1 (by rw [hpin]; exact h2) (fun t => lk_ren i j s.sl t) (fun k => lkb_ren hij s.hp (fun p hp => (hf.1.2 p hp).1) k)⟩

omit [GInv] in
@[simp] theorem rens_ints (i j : Nat) (l : List Int) : rens i j (l.map I) = l.map I := by induction l <;> simp_all

omit [GInv] in
@[simp] theorem rens_app (i j : Nat) : ∀ a b : List V, rens i j (a ++ b) = rens i j a ++ rens i j b
  | [], b => by simp
  | x :: a, b => by simp [rens_app i j a b]

omit [GInv] in
@[simp] theorem rens_take_ints (i j k : Nat) (l : List Int) : rens i j (List.take k (l.map I)) = List.take k (l.map I) := by rw [← List.map_take]; exact rens_ints i j _
omit [GInv] in
@[simp] theorem rens_drop_ints (i j k : Nat) (l : List Int) : rens i j (List.drop k (l.map I)) = List.drop k (l.map I) := by rw [← List.map_drop]; exact rens_ints i j _

/-! ### A result read otherwise -/

theorem PCall.res {P : Program} {f : Nat} {args : List V} {res res' : V} (h : PCall P f args res) (hr : ∀ w D x fp, CV w D res (fun _ => none) x fp → CV w D res' (fun _ => none) x fp) : PCall P f args res' := by
  refine ⟨h.1, fun w D xs hD hg hxs => (h.2 w D xs hD hg hxs).mono ?_⟩
  rintro e w' ⟨y, D', fp, h1, h2, h3, h4⟩
  exact ⟨y, D', fp, h1, h2, hr _ _ _ _ h3, h4⟩

/-- 'v' may be read as 'v''. -/
def Le (v v' : V) : Prop := ∀ w D x fp, CV w D v (fun _ => none) x fp → CV w D v' (fun _ => none) x fp
omit [GInv] in
theorem Le.refl (v : V) : Le v v := fun _ _ _ _ h => h
omit [GInv] in
theorem Le.nil (s : Nat) : Le (.v (.slice none 0 0)) (.own s []) := fun w D x fp h => by
  simp only [CV] at h ⊢
  exact .inl ⟨trivial, h.1, h.2.2⟩
def Les : List V → List V → Prop
  | [], [] => True
  | v :: vs, u :: us => Le v u ∧ Les vs us
  | _, _ => False
omit [GInv] in
theorem CVs_le {w : World} {D : Nat → Prop} : ∀ (vs us : List V) (xs : List Value) (fp : List Nat), Les vs us → CVs w D vs (fun _ => none) xs fp → CVs w D us (fun _ => none) xs fp
  | [], [], xs, fp, _, h => h
  | v :: vs, u :: us, xs, fp, hl, h => by
    simp only [CVs] at h ⊢
    obtain ⟨x, xs', f1, f2, rfl, rfl, h1, h2⟩ := h
    exact ⟨x, xs', f1, f2, rfl, rfl, hl.1 _ _ _ _ h1, CVs_le vs us _ _ hl.2 h2⟩
  | [], _ :: _, _, _, hl, _ => hl.elim
  | _ :: _, [], _, _, hl, _ => hl.elim
omit [GInv] in
theorem Le.tup {vs us : List V} (h : Les vs us) : Le (.tup vs) (.tup us) := fun w D x fp hv => by
  simp only [CV] at hv ⊢
  obtain ⟨xs, rfl, hv⟩ := hv
  exact ⟨xs, rfl, CVs_le vs us _ _ h hv⟩
omit [GInv] in
theorem Le.agg {vs us : List V} (h : Les vs us) : Le (.agg vs) (.agg us) := fun w D x fp hv => by
  simp only [CV] at hv ⊢
  obtain ⟨xs, rfl, hv⟩ := hv
  exact ⟨xs, rfl, CVs_le vs us _ _ h hv⟩


omit [GInv] in
mutual
theorem ren_id {i j : Nat} : ∀ (v : V), ment i v = false → Abs.ren i j v = v
  | .undef, _ | .v _, _ | .rp _ _ _ _, _ | .ro _ _, _ | .own _ _, _ => by simp only [Abs.ren]
  | .ref id a b, h => by
    have : id ≠ i := by simpa [ment] using h
    simp only [Abs.ren, reN, if_neg this]
  | .sl id a b, h => by
    have : id ≠ i := by simpa [ment] using h
    simp only [Abs.ren, reN, if_neg this]
  | .agg cs, h => by simp only [Abs.ren]; rw [rens_id cs (by simpa [ment] using h)]
  | .tup cs, h => by simp only [Abs.ren]; rw [rens_id cs (by simpa [ment] using h)]
  | .clo f cs, h => by simp only [Abs.ren]; rw [rens_id cs (by simpa [ment] using h)]
theorem rens_id {i j : Nat} : ∀ (cs : List V), ments i cs = false → rens i j cs = cs
  | [], _ => by simp only [rens]
  | c :: cs, h => by
    simp only [ments, Bool.or_eq_false_iff] at h
    simp only [rens]; rw [ren_id c h.1, rens_id cs h.2]
end
omit [GInv] in
theorem rens_map {α : Type} {i j : Nat} {f : α → V} {l : List α} (h : ∀ x, ment i (f x) = false) : rens i j (l.map f) = l.map f := rens_id _ (ments_map i f h l)
attribute [simp] rens_map
end Go.Abs
