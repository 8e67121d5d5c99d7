/- The abstract layer, part 2: rows of elements; states; the relation between an abstract state and the machine's; the ways in which it is kept. -/
import Derived.Test.YtcfmohcpfmedaaaDoorAbsCore
set_option linter.unusedVariables false
set_option linter.unusedSimpArgs false
namespace Go.Abs
variable [GInv]

omit [GInv] in
theorem one_cells {x : Value} (h : one x = true) : x.cells = #[x] := by cases x <;> simp_all [one, Value.cells]

/-- The cells of a value, where they are known. -/
def cells? : V → Option (List V)
  | .agg cs => some cs
  | .undef => none
  | .tup _ => none
  | v => some [v]

omit [GInv] in
theorem CVs_one {w : World} {D : Nat → Prop} {v : V} {φ : Nat → Option Pl} {x : Value} {f : List Nat} (h : CV w D v φ x f) : CVs w D [v] φ [x] f := by
  simp only [CVs]
  exact ⟨x, [], f, [], rfl, by simp, h, rfl, rfl⟩

omit [GInv] in
theorem CV_cells {w : World} {D : Nat → Prop} {v : V} {φ : Nat → Option Pl} {x : Value} {f : List Nat} {cs : List V} (hc : cells? v = some cs) (h : CV w D v φ x f) :
    CVs w D cs φ x.cells.toList f := by
  cases v with
  | agg cs' =>
    simp only [cells?, Option.some.injEq] at hc; subst hc
    simp only [CV] at h; obtain ⟨xs, rfl, h⟩ := h; exact h
  | undef => simp [cells?] at hc
  | tup _ => simp [cells?] at hc
  | v y =>
    simp only [cells?, Option.some.injEq] at hc; subst hc
    have h0 := h
    simp only [CV] at h; obtain ⟨rfl, h1, _⟩ := h
    rw [one_cells h1]; exact CVs_one h0
  | ref id i j =>
    simp only [cells?, Option.some.injEq] at hc; subst hc
    have h0 := h
    simp only [CV] at h; obtain ⟨_, p, _, rfl⟩ := h
    exact CVs_one h0
  | sl id i n =>
    simp only [cells?, Option.some.injEq] at hc; subst hc
    have h0 := h
    simp only [CV] at h
    have : x.cells = #[x] := by obtain ⟨_, ⟨_, _, _, rfl⟩ | ⟨p, o, cap, _, rfl, _⟩⟩ := h <;> rfl
    rw [this]; exact CVs_one h0
  | rp s es i j =>
    simp only [cells?, Option.some.injEq] at hc; subst hc
    have h0 := h
    simp only [CV] at h
    have : x.cells = #[x] := by obtain ⟨_, b, o, arr, rfl, _⟩ := h; rfl
    rw [this]; exact CVs_one h0
  | ro s es =>
    simp only [cells?, Option.some.injEq] at hc; subst hc
    have h0 := h
    simp only [CV] at h
    have : x.cells = #[x] := by obtain ⟨_, ⟨_, a, cap, rfl, _⟩ | ⟨b, o, cap, arr, rfl, _⟩⟩ := h <;> rfl
    rw [this]; exact CVs_one h0
  | own s es =>
    simp only [cells?, Option.some.injEq] at hc; subst hc
    have h0 := h
    simp only [CV] at h
    have : x.cells = #[x] := by obtain ⟨_, rfl, _⟩ | ⟨b, o, cap, arr, ty, fp', rfl, _⟩ := h <;> rfl
    rw [this]; exact CVs_one h0
  | clo g cs =>
    simp only [cells?, Option.some.injEq] at hc; subst hc
    have h0 := h
    simp only [CV] at h
    have : x.cells = #[x] := by obtain ⟨xs, rfl, _⟩ := h; rfl
    rw [this]; exact CVs_one h0

omit [GInv] in
theorem CVs_length {w : World} {D : Nat → Prop} : ∀ {cs : List V} {φ : Nat → Option Pl} {xs : List Value} {f : List Nat}, CVs w D cs φ xs f → xs.length = cs.length
  | [], φ, xs, f, h => by simp only [CVs] at h; simp [h.1]
  | c :: cs, φ, xs, f, h => by
    simp only [CVs] at h; obtain ⟨x, xs', f1, f2, rfl, _, _, h⟩ := h
    simp [CVs_length h]

omit [GInv] in
theorem CVs_get {w : World} {D : Nat → Prop} : ∀ {cs : List V} {φ : Nat → Option Pl} {xs : List Value} {f : List Nat} {i : Nat} {c : V}, CVs w D cs φ xs f → cs[i]? = some c →
    ∃ x f', xs[i]? = some x ∧ CV w D c φ x f' ∧ (∀ b ∈ f', b ∈ f)
  | [], φ, xs, f, i, c, h, hc => by simp at hc
  | c :: cs, φ, xs, f, i, c', h, hc => by
    simp only [CVs] at h; obtain ⟨x, xs', f1, f2, rfl, rfl, h1, h⟩ := h
    cases i with
    | zero =>
      simp at hc; subst hc
      exact ⟨x, f1, by simp, h1, fun b hb => List.mem_append_left _ hb⟩
    | succ i =>
      obtain ⟨y, f', g1, g2, g3⟩ := CVs_get h (by simpa using hc)
      exact ⟨y, f', by simpa using g1, g2, fun b hb => List.mem_append_right _ (g3 b hb)⟩

omit [GInv] in
theorem CVs_nil {w : World} {D : Nat → Prop} {φ : Nat → Option Pl} : CVs w D [] φ [] [] := by simp [CVs]

omit [GInv] in
theorem CVs_append {w : World} {D : Nat → Prop} : ∀ {cs ds : List V} {φ : Nat → Option Pl} {xs ys : List Value} {f g : List Nat}, CVs w D cs φ xs f → CVs w D ds φ ys g →
    CVs w D (cs ++ ds) φ (xs ++ ys) (f ++ g)
  | [], ds, φ, xs, ys, f, g, h, h' => by simp only [CVs] at h; obtain ⟨rfl, rfl⟩ := h; simpa using h'
  | c :: cs, ds, φ, xs, ys, f, g, h, h' => by
    simp only [CVs] at h; obtain ⟨x, xs', f1, f2, rfl, rfl, h1, h⟩ := h
    simp only [List.cons_append, CVs]
    exact ⟨x, xs' ++ ys, f1, f2 ++ g, rfl, by simp, h1, CVs_append h h'⟩

omit [GInv] in
theorem CVs_drop {w : World} {D : Nat → Prop} : ∀ {cs : List V} {φ : Nat → Option Pl} {xs : List Value} (k : Nat), CVs w D cs φ xs [] → CVs w D (cs.drop k) φ (xs.drop k) []
  | cs, φ, xs, 0, h => by simpa using h
  | [], φ, xs, k + 1, h => by simp only [CVs] at h; obtain ⟨rfl, _⟩ := h; simp [CVs]
  | c :: cs, φ, xs, k + 1, h => by
    simp only [CVs] at h; obtain ⟨x, xs', f1, f2, rfl, hf, h1, h⟩ := h
    have : f2 = [] := (List.append_eq_nil_iff.1 hf.symm).2
    subst this
    simpa using CVs_drop k h

omit [GInv] in
theorem CVs_take {w : World} {D : Nat → Prop} : ∀ {cs : List V} {φ : Nat → Option Pl} {xs : List Value} (k : Nat), CVs w D cs φ xs [] → CVs w D (cs.take k) φ (xs.take k) []
  | cs, φ, xs, 0, h => by simp [CVs]
  | [], φ, xs, k + 1, h => by simp only [CVs] at h; obtain ⟨rfl, _⟩ := h; simp [CVs]
  | c :: cs, φ, xs, k + 1, h => by
    simp only [CVs] at h; obtain ⟨x, xs', f1, f2, rfl, hf, h1, h⟩ := h
    have hf := List.append_eq_nil_iff.1 hf.symm
    obtain ⟨rfl, rfl⟩ := hf
    simp only [List.take_succ_cons, CVs]
    exact ⟨x, xs'.take k, [], [], rfl, rfl, h1, CVs_take k h⟩

omit [GInv] in
theorem CVs_set {w : World} {D : Nat → Prop} : ∀ {cs : List V} {φ : Nat → Option Pl} {xs : List Value} {i : Nat} {c : V} {x : Value}, CVs w D cs φ xs [] → CV w D c φ x [] →
    CVs w D (cs.set i c) φ (xs.set i x) []
  | [], φ, xs, i, c, x, h, hc => by simp only [CVs] at h; obtain ⟨rfl, _⟩ := h; simp [CVs]
  | c :: cs, φ, xs, i, c', x', h, hc => by
    simp only [CVs] at h; obtain ⟨x, xs', f1, f2, rfl, hf, h1, h⟩ := h
    have hf := List.append_eq_nil_iff.1 hf.symm
    obtain ⟨rfl, rfl⟩ := hf
    cases i with
    | zero => simp only [List.set_cons_zero, CVs]; exact ⟨x', xs', [], [], rfl, rfl, hc, h⟩
    | succ i => simp only [List.set_cons_succ, CVs]; exact ⟨x, _, [], [], rfl, rfl, h1, CVs_set h hc⟩

omit [GInv] in
/-- Element i of a row. -/
theorem CR_get {w : World} {D : Nat → Prop} {s : Nat} : ∀ {es : List V} {φ : Nat → Option Pl} {xs : List Value} {f : List Nat} {i : Nat} {e : V}, CR w D s es φ xs f → es[i]? = some e →
    ∃ x f', CV w D e φ x f' ∧ (∀ b ∈ f', b ∈ f) ∧ (x.cells.size = s ∧ x.cells.toList.all one = true) ∧ ∀ j, j < s → xs[i * s + j]? = x.cells[j]?
  | [], φ, xs, f, i, e, h, he => by simp at he
  | c :: cs, φ, xs, f, i, e, h, he => by
    simp only [CR] at h; obtain ⟨x, rest, f1, f2, rfl, ⟨hs, ho⟩, rfl, h1, h⟩ := h
    cases i with
    | zero =>
      simp at he; subst he
      refine ⟨x, f1, h1, fun b hb => List.mem_append_left _ hb, ⟨hs, ho⟩, fun j hj => ?_⟩
      rw [List.getElem?_append_left (by simpa [hs] using hj)]; simp
    | succ i =>
      obtain ⟨y, f', g1, g2, g3, g4⟩ := CR_get h (by simpa using he)
      refine ⟨y, f', g1, fun b hb => List.mem_append_right _ (g2 b hb), g3, fun j hj => ?_⟩
      rw [← g4 j hj, List.getElem?_append_right (by simp [hs, Nat.add_mul]; omega)]
      congr 1; simp [hs, Nat.add_mul]; omega

omit [GInv] in
/-- A row goes by its own cells alone. -/
theorem CR_ext {w : World} {D : Nat → Prop} {s : Nat} : ∀ {es : List V} {φ : Nat → Option Pl} {xs ys : List Value} {f : List Nat}, CR w D s es φ xs f → (∀ j, j < es.length * s → ys[j]? = xs[j]?) → CR w D s es φ ys f
  | [], φ, xs, ys, f, h, hy => by simpa [CR] using h
  | c :: cs, φ, xs, ys, f, h, hy => by
    simp only [CR] at h ⊢; obtain ⟨x, rest, f1, f2, rfl, ⟨hs, ho⟩, rfl, h1, h⟩ := h
    refine ⟨x, ys.drop s, f1, f2, ?_, ⟨hs, ho⟩, rfl, h1, CR_ext h fun j hj => ?_⟩
    · refine List.ext_getElem? fun j => ?_
      by_cases hj : j < s
      · rw [hy j (by simp [Nat.add_mul]; omega), List.getElem?_append_left (by simpa [hs] using hj), List.getElem?_append_left (by simpa [hs] using hj)]
      · rw [List.getElem?_append_right (by simp [hs]; omega), List.getElem?_drop]; congr 1; simp [hs]; omega
    · rw [List.getElem?_drop, hy (s + j) (by simp [Nat.add_mul]; omega), List.getElem?_append_right (by simp [hs])]; congr 1; simp [hs]

omit [GInv] in
theorem CR_length {w : World} {D : Nat → Prop} {s : Nat} : ∀ {es : List V} {φ : Nat → Option Pl} {xs : List Value} {f : List Nat}, CR w D s es φ xs f → es.length * s ≤ xs.length
  | [], φ, xs, f, h => by simp
  | c :: cs, φ, xs, f, h => by
    simp only [CR] at h; obtain ⟨x, rest, f1, f2, rfl, ⟨hs, ho⟩, rfl, h1, h⟩ := h
    have := CR_length h
    simp [Nat.add_mul, hs]; omega

omit [GInv] in
theorem CR_append {w : World} {D : Nat → Prop} {s : Nat} : ∀ {es ds : List V} {φ : Nat → Option Pl} {xs : List Value} {f g : List Nat}, CR w D s es φ xs f → CR w D s ds φ (xs.drop (es.length * s)) g → CR w D s (es ++ ds) φ xs (f ++ g)
  | [], ds, φ, xs, f, g, h, h' => by simp only [CR] at h; subst h; simpa using h'
  | c :: cs, ds, φ, xs, f, g, h, h' => by
    simp only [CR, List.cons_append] at h ⊢; obtain ⟨x, rest, f1, f2, rfl, ⟨hs, ho⟩, rfl, h1, h⟩ := h
    refine ⟨x, rest, f1, f2 ++ g, rfl, ⟨hs, ho⟩, by simp, h1, CR_append h ?_⟩
    have : (c :: cs).length * s = x.cells.toList.length + cs.length * s := by simp [hs, Nat.add_mul]; omega
    rw [this, List.drop_length_add_append] at h'
    exact h'

omit [GInv] in
theorem CR_drop {w : World} {D : Nat → Prop} {s : Nat} : ∀ {es : List V} {φ : Nat → Option Pl} {xs : List Value} (k : Nat), CR w D s es φ xs [] → CR w D s (es.drop k) φ (xs.drop (k * s)) []
  | es, φ, xs, 0, h => by simpa using h
  | [], φ, xs, k + 1, h => by simp [CR]
  | c :: cs, φ, xs, k + 1, h => by
    simp only [CR] at h; obtain ⟨x, rest, f1, f2, rfl, ⟨hs, ho⟩, hf, h1, h⟩ := h
    have : f2 = [] := (List.append_eq_nil_iff.1 hf.symm).2
    subst this
    have hh := CR_drop k h
    have : (k + 1) * s = x.cells.toList.length + k * s := by simp [hs, Nat.add_mul]; omega
    rw [this, List.drop_length_add_append]
    simpa using hh

omit [GInv] in
theorem CR_take {w : World} {D : Nat → Prop} {s : Nat} : ∀ {es : List V} {φ : Nat → Option Pl} {xs : List Value} (k : Nat), CR w D s es φ xs [] → CR w D s (es.take k) φ xs []
  | es, φ, xs, 0, h => by simp [CR]
  | [], φ, xs, k + 1, h => by simp [CR]
  | c :: cs, φ, xs, k + 1, h => by
    simp only [CR, List.take_succ_cons] at h ⊢; obtain ⟨x, rest, f1, f2, rfl, ⟨hs, ho⟩, hf, h1, h⟩ := h
    have : f2 = [] := (List.append_eq_nil_iff.1 hf.symm).2
    have : f1 = [] := (List.append_eq_nil_iff.1 hf.symm).1
    subst f1; subst f2
    exact ⟨x, rest, [], [], rfl, ⟨hs, ho⟩, rfl, h1, CR_take k h⟩

omit [GInv] in
/-- Element i is written anew: the cells of the others stay. -/
theorem CR_set {w : World} {D : Nat → Prop} {s : Nat} : ∀ {es : List V} {φ : Nat → Option Pl} {xs ys : List Value} {f : List Nat} {i : Nat} {e e' : V} {y : Value}, CR w D s es φ xs f → es[i]? = some e →
    noOwn e = true → CV w D e' φ y [] → (y.cells.size = s ∧ y.cells.toList.all one = true) → ys.length = xs.length → (∀ j, (j < i * s ∨ i * s + s ≤ j) → ys[j]? = xs[j]?) → (∀ j, j < s → ys[i * s + j]? = y.cells[j]?) → CR w D s (es.set i e') φ ys f
  | [], φ, xs, ys, f, i, e, e', y, h, he, hn, hy, hsz, hl, hot, hw => by simp at he
  | c :: cs, φ, xs, ys, f, i, e, e', y, h, he, hn, hy, hsz, hl, hot, hw => by
    simp only [CR] at h; obtain ⟨x, rest, f1, f2, rfl, ⟨hs, ho⟩, rfl, h1, h⟩ := h
    cases i with
    | zero =>
      simp at he; subst he
      have : f1 = [] := CV_noOwn _ _ _ _ hn h1
      subst this
      simp only [List.set_cons_zero, CR]
      refine ⟨y, rest, [], f2, ?_, hsz, rfl, hy, h⟩
      refine List.ext_getElem? fun j => ?_
      by_cases hj : j < s
      · have := hw j hj
        simp only [Nat.zero_mul, Nat.zero_add] at this
        rw [this, List.getElem?_append_left (by simpa [hsz.1] using hj)]; simp
      · rw [hot j (.inr (by omega)), List.getElem?_append_right (by simp [hs]; omega), List.getElem?_append_right (by simp [hsz.1]; omega)]; simp [hs, hsz.1]
    | succ i =>
      simp only [List.set_cons_succ, CR]
      refine ⟨x, ys.drop s, f1, f2, ?_, ⟨hs, ho⟩, rfl, h1, CR_set (i := i) (e := e) h (by simpa using he) hn hy hsz ?_ ?_ ?_⟩
      · refine List.ext_getElem? fun j => ?_
        by_cases hj : j < s
        · rw [hot j (.inl (by simp [Nat.add_mul]; omega)), List.getElem?_append_left (by simpa [hs] using hj), List.getElem?_append_left (by simpa [hs] using hj)]
        · rw [List.getElem?_append_right (by simp [hs]; omega), List.getElem?_drop]; congr 1; simp [hs]; omega
      · simp [hl, hs]
      · intro j hj
        rw [List.getElem?_drop, hot (s + j) (by simp only [Nat.add_mul, Nat.one_mul]; omega), List.getElem?_append_right (by simp [hs])]; congr 1; simp [hs]
      · intro j hj
        rw [List.getElem?_drop, ← hw j hj]; congr 1; simp only [Nat.add_mul, Nat.one_mul]; omega

/-- An abstract block: cells of an element, the elements. -/
structure Blk where
  s : Nat
  es : List V
  deriving Inhabited

def BlkOk (w : World) (D : Nat → Prop) (φ : Nat → Option Pl) (id : Nat) (blk : Blk) (f : List Nat) : Prop :=
  (φ id = none ∧ blk.es = [] ∧ f = []) ∨
  ∃ p arr ty f', φ id = some p ∧ p.s = blk.s ∧ p.z = arr.size ∧ w.heap[p.b]? = some (.cells arr ty (0, 0)) ∧ f = p.b :: f' ∧ CR w D blk.s blk.es φ (arr.toList.drop p.o) f'

/-- What stays the same throughout the run of one function: the world at its entry, the blocks of it that it may write, those that nobody writes, the places of the blocks that it was handed, the number of its slots. -/
structure Ctx where
  w0 : World
  W : List Nat
  D0 : Nat → Prop
  φ0 : Nat → Option Pl
  pin : List Nat
  n : Nat

structure St where
  sl : Nat → V
  hp : Nat → Option Blk

def upd {α : Type} (f : Nat → α) (k : Nat) (x : α) : Nat → α := fun i => if i = k then x else f i
omit [GInv] in
@[simp] theorem upd_same {α : Type} (f : Nat → α) (k : Nat) (x : α) : upd f k x k = x := by simp [upd]
omit [GInv] in
theorem upd_ne {α : Type} (f : Nat → α) {k i : Nat} (x : α) (h : i ≠ k) : upd f k x i = f i := by simp [upd, h]

/-- The abstract state s stands for the activation a and the world w. G: the blocks of a value that is on its way into the state. -/
structure RelD (X : Ctx) (s : St) (a : Act) (w : World) (D : Nat → Prop) (φ : Nat → Option Pl) (F : Nat → List Nat) (G : List Nat) : Prop where
  os : w.os = X.w0.os
  tape : w.tape = X.w0.tape
  output : w.output = X.w0.output
  size : X.w0.heap.size ≤ w.heap.size
  old : ∀ b, b < X.w0.heap.size → b ∉ X.W → w.heap[b]? = X.w0.heap[b]?
  Dup : ∀ b, X.D0 b → D b
  Ddn : ∀ b, D b → X.D0 b ∨ X.w0.heap.size ≤ b
  Dlt : ∀ b, D b → b < w.heap.size
  defers : a.defers = []
  ntmps : a.tmps.size = X.n
  slots : ∀ t, CV w D (s.sl t) φ (a.tmps.getD t undef) []
  blks : ∀ id blk, s.hp id = some blk → BlkOk w D φ id blk (F id)
  nob : ∀ id, s.hp id = none → F id = []
  nodup : ∀ id, (F id).Nodup
  sep : ∀ i j, i ≠ j → ∀ b, b ∈ F i → b ∉ F j
  notD : ∀ id b, b ∈ F id → ¬ D b ∧ b < w.heap.size ∧ (X.w0.heap.size ≤ b ∨ b ∈ X.W)
  pins : ∀ id, id ∈ X.pin → φ id = X.φ0 id
  gnodup : G.Nodup
  gsep : ∀ i b, b ∈ F i → b ∉ G
  gnotD : ∀ b, b ∈ G → ¬ D b ∧ b < w.heap.size ∧ (X.w0.heap.size ≤ b ∨ b ∈ X.W)
  gi : GInv.holds w D

def Rel (X : Ctx) (s : St) (a : Act) (w : World) : Prop := ∃ D φ F, RelD X s a w D φ F []

section
variable {X : Ctx} {s : St} {a : Act} {w : World} {D : Nat → Prop} {φ : Nat → Option Pl} {F : Nat → List Nat} {G : List Nat}

omit [GInv] in
theorem getD_put (a : Act) (d t : Nat) (x : Value) : (a.put (some d) x).tmps.getD t undef = if t = d ∧ d < a.tmps.size then x else a.tmps.getD t undef := by
  simp only [Act.put, Array.getD_eq_getD_getElem?, Array.getElem?_setIfInBounds]
  by_cases h : d = t
  · subst h; by_cases h2 : d < a.tmps.size
    · simp [h2]
    · simp [h2]
  · simp [h, Ne.symm h]

theorem RelD.put (h : RelD X s a w D φ F G) (d : Nat) (hd : d < X.n) (v : V) (x : Value) (hv : CV w D v φ x []) :
    RelD X { s with sl := upd s.sl d v } (a.put (some d) x) w D φ F G := by
  refine { h with defers := h.defers, ntmps := by simpa [Act.put] using h.ntmps, slots := fun t => ?_ }
  rw [getD_put]
  by_cases ht : t = d
  · subst ht; simp [h.ntmps, hd, hv]
  · simp only [upd, ht, if_false, false_and]; exact h.slots t

/-- A slot's value is forgotten, a block's too. -/
theorem RelD.weaken (h : RelD X s a w D φ F G) (s' : St) (hs : ∀ t, s'.sl t = s.sl t ∨ s'.sl t = .undef) (hh : ∀ id, s'.hp id = s.hp id ∨ s'.hp id = none) :
    RelD X s' a w D φ (fun id => if (s'.hp id).isSome then F id else []) G := by
  refine { h with slots := fun t => ?_, blks := fun id blk hb => ?_, nob := fun id hn => by simp [hn], nodup := fun id => ?_, sep := fun i j hij b hb => ?_, notD := fun id b hb => ?_, gsep := fun i b hb => ?_ }
  · rcases hs t with e | e
    · rw [e]; exact h.slots t
    · rw [e]; simp [CV]
  · rcases hh id with e | e
    · simp only [hb, Option.isSome_some, if_true]; exact h.blks id blk (e ▸ hb)
    · rw [e] at hb; cases hb
  · split
    · exact h.nodup id
    · exact List.nodup_nil
  · split at hb
    · split
      · exact h.sep i j hij b hb
      · simp
    · simp at hb
  · split at hb
    · exact h.notD id b hb
    · simp at hb
  · split at hb
    · exact h.gsep i b hb
    · simp at hb

/-- The world grows: what was there stays. G': new blocks. -/
theorem RelD.grow (h : RelD X s a w D φ F G) (w' : World) (D' : Nat → Prop) (G' : List Nat) (hos : w'.os = w.os) (htape : w'.tape = w.tape) (hout : w'.output = w.output)
    (hsz : w.heap.size ≤ w'.heap.size) (hold : ∀ b, b < w.heap.size → w'.heap[b]? = w.heap[b]?) (hD : ∀ b, D b → D' b) (hD' : ∀ b, D' b → (D b ∨ w.heap.size ≤ b) ∧ b < w'.heap.size)
    (hg : G'.Nodup) (hg' : ∀ b, b ∈ G' → w.heap.size ≤ b ∧ b < w'.heap.size ∧ ¬ D' b) : RelD X s a w' D' φ F (G ++ G') := by
  have hnD : ∀ b, b < w.heap.size → ¬ D b → ¬ D' b := fun b hb hn hd => by
    rcases (hD' b hd).1 with e | e
    · exact hn e
    · omega
  refine { h with os := hos.trans h.os, tape := htape.trans h.tape, output := hout.trans h.output, size := Nat.le_trans h.size hsz, old := fun b hb hW => (hold b (Nat.lt_of_lt_of_le hb h.size)).trans (h.old b hb hW), Dup := fun b hb => hD b (h.Dup b hb), Ddn := fun b hb => ?_, Dlt := fun b hb => (hD' b hb).2, slots := fun t => CV_mono hD _ _ _ _ _ (fun b hb => hold b (hb.elim (h.Dlt b) (by simp))) (fun _ _ => rfl) (h.slots t), blks := fun id blk hb => ?_, notD := fun id b hb => ?_, gnodup := ?_, gsep := fun i b hb => ?_, gnotD := fun b hb => ?_, gi := GInv.mono h.gi hD fun b hb => hold b (h.Dlt b hb) }
  · rcases (hD' b hb).1 with e | e
    · exact h.Ddn b e
    · exact .inr (Nat.le_trans h.size e)
  · rcases h.blks id blk hb with e | ⟨p, arr, ty, f', h1, h2, h3, h4, h5, h6⟩
    · exact .inl e
    · refine .inr ⟨p, arr, ty, f', h1, h2, h3, ?_, h5, CR_mono hD _ _ _ _ _ _ (fun b hb => hold b ?_) (fun _ _ => rfl) h6⟩
      · rw [hold p.b (h.notD id p.b (by rw [h5]; exact List.mem_cons_self)).2.1]; exact h4
      · exact hb.elim (h.Dlt b) fun hm => (h.notD id b (by rw [h5]; exact List.mem_cons_of_mem _ hm)).2.1
  · have := h.notD id b hb
    exact ⟨hnD b this.2.1 this.1, by omega, this.2.2⟩
  · refine List.nodup_append.2 ⟨h.gnodup, hg, fun b hb c hc e => ?_⟩
    subst e
    have := (h.gnotD b hb).2.1; have := (hg' b hc).1; omega
  · intro hm
    rcases List.mem_append.1 hm with hm | hm
    · exact h.gsep i b hb hm
    · have := (h.notD i b hb).2.1; have := (hg' b hm).1; omega
  · rcases List.mem_append.1 hb with hm | hm
    · have := h.gnotD b hm
      exact ⟨hnD b this.2.1 this.1, by omega, this.2.2⟩
    · have := hg' b hm
      exact ⟨this.2.2, this.2.1, .inl (Nat.le_trans h.size this.1)⟩

/-- No slot and no block leads to d. -/
structure Fresh (s : St) (d : Nat) : Prop where
  sl : ∀ t, ment d (s.sl t) = false
  hp : ∀ id blk, s.hp id = some blk → ments d blk.es = false
  no : s.hp d = none

omit [GInv] in
theorem ne_of_ment {d id : Nat} {v : V} (h : ment d v = false) (hm : ment id v = true) : id ≠ d := fun e => by rw [e, h] at hm; cases hm
omit [GInv] in
theorem ne_of_ments {d id : Nat} {v : List V} (h : ments d v = false) (hm : ments id v = true) : id ≠ d := fun e => by rw [e, h] at hm; cases hm

/-- A block on its way gets an id. -/
theorem RelD.settle {f : List Nat} (h : RelD X s a w D φ F (f ++ G)) (d : Nat) (hd : Fresh s d) (hp : d ∉ X.pin) (pl : Option Pl) (blk : Blk) (hb : BlkOk w D (upd φ d pl) d blk f) :
    RelD X { s with hp := upd s.hp d (some blk) } a w D (upd φ d pl) (upd F d f) G := by
  have hF : F d = [] := h.nob d hd.no
  refine { h with slots := fun t => CV_mono (fun _ hb => hb) _ _ _ _ _ (fun _ _ => rfl) (fun id hm => upd_ne _ _ (ne_of_ment (hd.sl t) hm)) (h.slots t), blks := fun id b' hb' => ?_, nob := fun id hn => ?_, nodup := fun id => ?_, sep := fun i j hij b hbf => ?_, notD := fun id b hb => ?_, pins := fun id hm => ?_, gnodup := (List.nodup_append.1 h.gnodup).2.1, gsep := fun i b hb => ?_, gnotD := fun b hb => h.gnotD b (List.mem_append_right _ hb) }
  · by_cases e : id = d
    · subst e; simp at hb'; subst hb'; simpa using hb
    · simp only [upd, e, if_false] at hb' ⊢
      rcases h.blks id b' hb' with g | ⟨p, arr, ty, f', h1, h2, h3, h4, h5, h6⟩
      · exact .inl (by simpa [upd, e] using g)
      · exact .inr ⟨p, arr, ty, f', by simpa [upd, e] using h1, h2, h3, h4, h5, CR_mono (fun _ hb => hb) _ _ _ _ _ _ (fun _ _ => rfl) (fun i hm => upd_ne _ _ (ne_of_ments (hd.hp id b' hb') hm)) h6⟩
  · by_cases e : id = d
    · subst e; simp at hn
    · simp only [upd, e, if_false] at hn ⊢; exact h.nob id hn
  · by_cases e : id = d
    · subst e; simp only [upd_same]; exact (List.nodup_append.1 h.gnodup).1
    · simp only [upd, e, if_false]; exact h.nodup id
  · by_cases e : i = d
    · subst e; simp only [upd_same] at hbf; rw [upd_ne _ _ (Ne.symm hij)]
      exact fun hm => h.gsep j b hm (List.mem_append_left _ hbf)
    · rw [upd_ne _ _ e] at hbf
      by_cases e2 : j = d
      · subst e2; simp only [upd_same]; exact fun hm => h.gsep i b hbf (List.mem_append_left _ hm)
      · rw [upd_ne _ _ e2]; exact h.sep i j hij b hbf
  · by_cases e : id = d
    · subst e; simp only [upd_same] at hb; exact h.gnotD b (List.mem_append_left _ hb)
    · rw [upd_ne _ _ e] at hb; exact h.notD id b hb
  · rw [upd_ne _ _ (fun e : id = d => hp (by rw [← e]; exact hm))]; exact h.pins id hm
  · by_cases e : i = d
    · subst e; simp only [upd_same] at hb
      exact fun hm => (List.nodup_append.1 h.gnodup).2.2 b hb b hm rfl
    · rw [upd_ne _ _ e] at hb; exact fun hm => h.gsep i b hb (List.mem_append_right _ hm)

/-- A block loses its id: it is on its way. -/
theorem RelD.release (h : RelD X s a w D φ F G) (d : Nat) : RelD X { s with hp := upd s.hp d none } a w D φ (upd F d []) (F d ++ G) := by
  refine { h with blks := fun id b' hb' => ?_, nob := fun id hn => ?_, nodup := fun id => ?_, sep := fun i j hij b hb => ?_, notD := fun id b hb => ?_, gnodup := ?_, gsep := fun i b hb => ?_, gnotD := fun b hb => ?_ }
  · by_cases e : id = d
    · subst e; simp at hb'
    · simp only [upd, e, if_false] at hb' ⊢; exact h.blks id b' hb'
  · by_cases e : id = d
    · subst e; simp
    · simp only [upd, e, if_false] at hn ⊢; exact h.nob id hn
  · by_cases e : id = d
    · subst e; simp
    · rw [upd_ne _ _ e]; exact h.nodup id
  · by_cases e : i = d
    · subst e; simp at hb
    · rw [upd_ne _ _ e] at hb
      by_cases e2 : j = d
      · subst e2; simp
      · rw [upd_ne _ _ e2]; exact h.sep i j hij b hb
  · by_cases e : id = d
    · subst e; simp at hb
    · rw [upd_ne _ _ e] at hb; exact h.notD id b hb
  · exact List.nodup_append.2 ⟨h.nodup d, h.gnodup, fun b hb c hc e => h.gsep d b hb (e ▸ hc)⟩
  · by_cases e : i = d
    · subst e; simp at hb
    · rw [upd_ne _ _ e] at hb
      intro hm
      rcases List.mem_append.1 hm with hm | hm
      · exact h.sep i d e b hb hm
      · exact h.gsep i b hb hm
  · rcases List.mem_append.1 hb with hm | hm
    · exact h.notD d b hm
    · exact h.gnotD b hm

theorem RelD.gperm {G' : List Nat} (h : RelD X s a w D φ F G) (hp : G.Perm G') : RelD X s a w D φ F G' :=
  { h with gnodup := hp.nodup_iff.1 h.gnodup, gsep := fun i b hb hm => h.gsep i b hb (hp.mem_iff.2 hm), gnotD := fun b hb => h.gnotD b (hp.mem_iff.2 hb) }

theorem RelD.gsub {G' : List Nat} (h : RelD X s a w D φ F G) (hs : G'.Sublist G) : RelD X s a w D φ F G' :=
  { h with gnodup := hs.nodup h.gnodup, gsep := fun i b hb hm => h.gsep i b hb (hs.subset hm), gnotD := fun b hb => h.gnotD b (hs.subset hb) }

/-- A block of the state is written. -/
theorem RelD.write (h : RelD X s a w D φ F G) (d : Nat) (blk : Blk) (hb : s.hp d = some blk) (p : Pl) (hp : φ d = some p) (arr arr' : Array Value) (ty : TypeId)
    (hw : w.heap[p.b]? = some (.cells arr ty (0, 0))) (hl : arr'.size = arr.size) (w' : World) (hw' : w'.heap = w.heap.setIfInBounds p.b (.cells arr' ty (0, 0))) (hos : w'.os = w.os) (htape : w'.tape = w.tape) (hout : w'.output = w.output)
    (es' : List V) (hes : ∀ f' , F d = p.b :: f' → CR w D blk.s blk.es φ (arr.toList.drop p.o) f' → CR w D blk.s es' φ (arr'.toList.drop p.o) f') :
    RelD X { s with hp := upd s.hp d (some ⟨blk.s, es'⟩) } a w' D φ F G := by
  have hbl : p.b < w.heap.size := (Array.getElem?_eq_some_iff.1 hw).1
  have hsz : w'.heap.size = w.heap.size := by rw [hw']; simp
  have hne : ∀ b, b ≠ p.b → w'.heap[b]? = w.heap[b]? := fun b e => by rw [hw']; exact Array.getElem?_setIfInBounds_ne (Ne.symm e)
  have hnew : w'.heap[p.b]? = some (.cells arr' ty (0, 0)) := by rw [hw', Array.getElem?_setIfInBounds]; simp [hbl]
  obtain ⟨f', hF⟩ : ∃ f', F d = p.b :: f' := by
    rcases h.blks d blk hb with e | ⟨q, _, _, f', h1, _, _, _, h5, _⟩
    · rw [hp] at e; cases e.1
    · rw [hp] at h1; cases h1; exact ⟨f', h5⟩
  have hin : p.b ∈ F d := by rw [hF]; exact List.mem_cons_self
  have hD : ∀ b, D b → b ≠ p.b := fun b hb e => (h.notD d p.b hin).1 (e ▸ hb)
  have hcv : ∀ (fp : List Nat), (∀ b ∈ fp, b ≠ p.b) → ∀ b, D b ∨ b ∈ fp → w'.heap[b]? = w.heap[b]? := fun fp hfp b hb => hne b (hb.elim (hD b) (hfp b))
  refine { h with os := hos.trans h.os, tape := htape.trans h.tape, output := hout.trans h.output, size := by rw [hsz]; exact h.size, old := fun b hb' hW => ?_, Dlt := fun b hb' => by rw [hsz]; exact h.Dlt b hb', slots := fun t => CV_mono (fun _ hb => hb) _ _ _ _ _ (hcv [] (by simp)) (fun _ _ => rfl) (h.slots t), blks := fun id b' hb' => ?_, nob := fun id hn => ?_, notD := fun id b hb' => by rw [hsz]; exact h.notD id b hb', gnotD := fun b hb' => by rw [hsz]; exact h.gnotD b hb', gi := GInv.mono h.gi (fun _ hb => hb) fun b hb => hne b (hD b hb) }
  · have hx : b ≠ p.b := fun e => by
      subst e
      rcases (h.notD d p.b hin).2.2 with g | g
      · omega
      · exact hW g
    rw [hne b hx]; exact h.old b hb' hW
  · by_cases e : id = d
    · subst e
      simp at hb'; subst hb'
      rcases h.blks id blk hb with g | ⟨q, arr0, ty0, f0, h1, h2, h3, h4, h5, h6⟩
      · rw [hp] at g; cases g.1
      · rw [hp] at h1; cases h1
        rw [hw] at h4; cases h4
        refine .inr ⟨p, arr', ty, f0, hp, h2, by rw [hl]; exact h3, hnew, h5, CR_mono (fun _ hb => hb) _ _ _ _ _ _ (hcv f0 fun b hb' e => ?_) (fun _ _ => rfl) (hes f0 h5 h6)⟩
        have := h.nodup id
        rw [h5] at this
        exact (List.nodup_cons.1 this).1 (e ▸ hb')
    · simp only [upd, e, if_false] at hb'
      rcases h.blks id b' hb' with g | ⟨q, arr0, ty0, f0, h1, h2, h3, h4, h5, h6⟩
      · exact .inl g
      · have hq : ∀ b ∈ F id, b ≠ p.b := fun b hb' e' => h.sep d id (Ne.symm e) p.b hin (e' ▸ hb')
        refine .inr ⟨q, arr0, ty0, f0, h1, h2, h3, ?_, h5, CR_mono (fun _ hb => hb) _ _ _ _ _ _ (hcv f0 fun b hb' => hq b (by rw [h5]; exact List.mem_cons_of_mem _ hb')) (fun _ _ => rfl) h6⟩
        rw [hne q.b (hq q.b (by rw [h5]; exact List.mem_cons_self))]; exact h4
  · by_cases e : id = d
    · subst e; simp at hn
    · simp only [upd, e, if_false] at hn; exact h.nob id hn
end
end Go.Abs
