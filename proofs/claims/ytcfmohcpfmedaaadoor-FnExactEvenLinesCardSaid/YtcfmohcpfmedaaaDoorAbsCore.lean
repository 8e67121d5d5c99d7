/- The abstract layer, part 1: abstract values, what a concrete value must be to stand for one, states and their relation to the machine's. -/
import Derived.Orders
import Derived.Tactics
import Derived.Laws.AppendOwn
import Derived.Laws.Small
set_option linter.unusedVariables false
set_option linter.unusedSimpArgs false
namespace Go.Abs

/-- What holds throughout of the package's variables that nobody writes: a seat says what. -/
class GInv where
  holds : World → (Nat → Prop) → Prop
  mono : ∀ {w w' : World} {D D' : Nat → Prop}, holds w D → (∀ b, D b → D' b) → (∀ b, D b → w'.heap[b]? = w.heap[b]?) → holds w' D'

/-- An abstract value. 'v': just this value. 'ref': the address of cell j of element i of block id. 'sl': a slice of n elements of block id from element i on. 'rp', 'ro': the same in memory that nobody writes, with what stands there. 'own': a slice of fresh memory that nothing else leads to. -/
inductive V where
  | undef
  | v (x : Value)
  | ref (id i j : Nat)
  | sl (id i n : Nat)
  | rp (s : Nat) (es : List V) (i j : Nat)
  | ro (s : Nat) (es : List V)
  | own (s : Nat) (es : List V)
  | agg (cs : List V)
  | tup (vs : List V)
  | clo (f : Nat) (caps : List V)
  deriving Inhabited

/-- A text of these bytes. -/
def bs (l : List UInt8) : ByteArray := ⟨l.toArray⟩

/-- Where an abstract block lies: block, offset, cells of an element, cells of the whole block. -/
structure Pl where
  b : Nat
  o : Nat
  s : Nat
  z : Nat

def blk? (w : World) (b : Nat) : Option (Array Value) :=
  match w.heap[b]? with
  | some (.cells c _ _) => some c
  | _ => none

/-- The value of one cell; a text is no longer than a machine allows. -/
def one : Value → Bool
  | .agg _ => false
  | .tuple _ => false
  | .string b => decide (b.size ≤ 9223372036854775807)
  | _ => true

mutual
/-- It leads to no block by an id. -/
def noIds : V → Bool
  | .ref _ _ _ => false
  | .sl _ _ _ => false
  | .agg cs => noIdss cs
  | .tup cs => noIdss cs
  | .clo _ cs => noIdss cs
  | _ => true
def noIdss : List V → Bool
  | [] => true
  | c :: cs => noIds c && noIdss cs
end

mutual
def CV (w : World) (D : Nat → Prop) : V → (Nat → Option Pl) → Value → List Nat → Prop
  | .undef, _, _, fp => fp = []
  | .v y, _, x, fp => x = y ∧ one y = true ∧ fp = []
  | .ref id i j, φ, x, fp => fp = [] ∧ ∃ p, φ id = some p ∧ x = .pointer (some ⟨p.b, p.o + (i * p.s + j), none⟩)
  | .sl id i n, φ, x, fp => fp = [] ∧ ((φ id = none ∧ i = 0 ∧ n = 0 ∧ x = .slice none 0 0) ∨
      ∃ p o cap, φ id = some p ∧ x = .slice (some ⟨p.b, o, none⟩) n cap ∧ n ≤ cap ∧ cap ≤ maxLen ∧
        (cap = 0 ∨ (o = p.o + i * p.s ∧ p.o + (i + cap) * p.s ≤ p.z)))
  | .rp s es i j, _, x, fp => fp = [] ∧ ∃ b o arr, x = .pointer (some ⟨b, o + (i * s + j), none⟩) ∧ D b ∧ blk? w b = some arr ∧
      CR w D s es (fun _ => none) (arr.toList.drop o) [] ∧ noIdss es = true
  | .ro s es, _, x, fp => fp = [] ∧ ((es = [] ∧ ∃ a cap, x = .slice a 0 cap ∧ cap ≤ maxLen) ∨
      ∃ b o cap arr, x = .slice (some ⟨b, o, none⟩) es.length cap ∧ es.length ≤ cap ∧ cap ≤ maxLen ∧ D b ∧ blk? w b = some arr ∧
        CR w D s es (fun _ => none) (arr.toList.drop o) [] ∧ noIdss es = true)
  | .own s es, _, x, fp => (es = [] ∧ x = .slice none 0 0 ∧ fp = []) ∨
      ∃ b o cap arr ty fp', x = .slice (some ⟨b, o, none⟩) es.length cap ∧ es.length ≤ cap ∧ cap ≤ maxLen ∧ (cap = 0 ∨ o + cap * s ≤ arr.size) ∧
        w.heap[b]? = some (.cells arr ty (0, 0)) ∧ fp = b :: fp' ∧ CR w D s es (fun _ => none) (arr.toList.drop o) fp' ∧ noIdss es = true
  | .agg cs, φ, x, fp => ∃ xs, x = .agg xs ∧ CVs w D cs φ xs.toList fp
  | .tup cs, φ, x, fp => ∃ xs, x = .tuple xs ∧ CVs w D cs φ xs.toList fp
  | .clo f cs, φ, x, fp => ∃ xs, x = .func (.func f) #[] xs ∧ CVs w D cs φ xs.toList fp
def CVs (w : World) (D : Nat → Prop) : List V → (Nat → Option Pl) → List Value → List Nat → Prop
  | [], _, xs, fp => xs = [] ∧ fp = []
  | c :: cs, φ, xs, fp => ∃ x xs' f1 f2, xs = x :: xs' ∧ fp = f1 ++ f2 ∧ CV w D c φ x f1 ∧ CVs w D cs φ xs' f2
/-- Elements of s cells each, one behind the other, at the head of the cells xs. -/
def CR (w : World) (D : Nat → Prop) (s : Nat) : List V → (Nat → Option Pl) → List Value → List Nat → Prop
  | [], _, _, fp => fp = []
  | e :: es, φ, xs, fp => ∃ x rest f1 f2, xs = x.cells.toList ++ rest ∧ (x.cells.size = s ∧ x.cells.toList.all one = true) ∧ fp = f1 ++ f2 ∧ CV w D e φ x f1 ∧ CR w D s es φ rest f2
end

mutual
/-- Does the value lead to block id? -/
def ment (id : Nat) : V → Bool
  | .ref k _ _ => k == id
  | .sl k _ _ => k == id
  | .agg cs => ments id cs
  | .tup cs => ments id cs
  | .clo _ cs => ments id cs
  | _ => false
def ments (id : Nat) : List V → Bool
  | [] => false
  | c :: cs => ment id c || ments id cs
end

mutual
/-- No fresh memory of its own inside. -/
def noOwn : V → Bool
  | .own _ _ => false
  | .agg cs => noOwns cs
  | .tup cs => noOwns cs
  | .clo _ cs => noOwns cs
  | _ => true
def noOwns : List V → Bool
  | [] => true
  | c :: cs => noOwn c && noOwns cs
end

mutual
theorem ment_noIds (id : Nat) : ∀ v : V, noIds v = true → ment id v = false
  | .undef, _ | .v _, _ | .rp _ _ _ _, _ | .ro _ _, _ | .own _ _, _ => by simp [ment]
  | .ref _ _ _, h | .sl _ _ _, h => by simp [noIds] at h
  | .agg cs, h | .tup cs, h | .clo _ cs, h => by simp only [ment]; exact ments_noIds id cs (by simpa [noIds] using h)
theorem ments_noIds (id : Nat) : ∀ cs : List V, noIdss cs = true → ments id cs = false
  | [], _ => rfl
  | c :: cs, h => by
    simp only [noIdss, Bool.and_eq_true] at h
    simp [ments, ment_noIds id c h.1, ments_noIds id cs h.2]
end

theorem blk?_eq {w w' : World} {b : Nat} (h : w'.heap[b]? = w.heap[b]?) : blk? w' b = blk? w b := by simp [blk?, h]

theorem cell?_of_blk {w : World} {b : Nat} {arr : Array Value} (h : blk? w b = some arr) (o : Nat) : w.cell? ⟨b, o, none⟩ = arr[o]? := by
  unfold blk? at h
  unfold World.cell?
  split at h <;> simp_all

theorem blk?_of_heap {w : World} {b : Nat} {arr : Array Value} {ty : TypeId} {fr : Nat × Nat} (h : w.heap[b]? = some (.cells arr ty fr)) : blk? w b = some arr := by
  simp [blk?, h]

mutual
theorem CV_mono {w w' : World} {D D' : Nat → Prop} (hD : ∀ b, D b → D' b) :
    ∀ (v : V) (φ φ' : Nat → Option Pl) (x : Value) (fp : List Nat), (∀ b, D b ∨ b ∈ fp → w'.heap[b]? = w.heap[b]?) → (∀ id, ment id v = true → φ' id = φ id) →
      CV w D v φ x fp → CV w' D' v φ' x fp
  | .undef, φ, φ', x, fp, hh, hφ, h => by simpa [CV] using h
  | .v y, φ, φ', x, fp, hh, hφ, h => by simpa [CV] using h
  | .ref id i j, φ, φ', x, fp, hh, hφ, h => by
    simp only [CV] at h ⊢
    rw [hφ id (by simp [ment])]; exact h
  | .sl id i n, φ, φ', x, fp, hh, hφ, h => by
    simp only [CV] at h ⊢
    rw [hφ id (by simp [ment])]; exact h
  | .rp s es i j, φ, φ', x, fp, hh, hφ, h => by
    simp only [CV] at h ⊢
    obtain ⟨hf, b, o, arr, h1, h2, h3, h4, h5⟩ := h
    exact ⟨hf, b, o, arr, h1, hD b h2, by rw [blk?_eq (hh b (.inl h2))]; exact h3, CR_mono hD s es _ _ _ _ (fun b hb => hh b (hb.imp id (by simp))) (fun _ _ => rfl) h4, h5⟩
  | .ro s es, φ, φ', x, fp, hh, hφ, h => by
    simp only [CV] at h ⊢
    obtain ⟨hf, h | ⟨b, o, cap, arr, h1, h2, h3, h4, h5, h6, h7⟩⟩ := h
    · exact ⟨hf, .inl h⟩
    · exact ⟨hf, .inr ⟨b, o, cap, arr, h1, h2, h3, hD b h4, by rw [blk?_eq (hh b (.inl h4))]; exact h5, CR_mono hD s es _ _ _ _ (fun b hb => hh b (hb.imp id (by simp))) (fun _ _ => rfl) h6, h7⟩⟩
  | .own s es, φ, φ', x, fp, hh, hφ, h => by
    simp only [CV] at h ⊢
    obtain h | ⟨b, o, cap, arr, ty, fp', h1, h2, h3, h4, h5, h6, h7, h8⟩ := h
    · exact .inl h
    · refine .inr ⟨b, o, cap, arr, ty, fp', h1, h2, h3, h4, ?_, h6, CR_mono hD s es _ _ _ _ (fun b hb => hh b (hb.imp id (by rw [h6]; exact List.mem_cons_of_mem _))) (fun _ _ => rfl) h7, h8⟩
      rw [hh b (.inr (by rw [h6]; exact List.mem_cons_self))]; exact h5
  | .agg cs, φ, φ', x, fp, hh, hφ, h => by
    simp only [CV] at h ⊢
    obtain ⟨xs, h1, h2⟩ := h
    exact ⟨xs, h1, CVs_mono hD cs _ _ _ _ hh (fun id hm => hφ id (by simpa [ment] using hm)) h2⟩
  | .tup cs, φ, φ', x, fp, hh, hφ, h => by
    simp only [CV] at h ⊢
    obtain ⟨xs, h1, h2⟩ := h
    exact ⟨xs, h1, CVs_mono hD cs _ _ _ _ hh (fun id hm => hφ id (by simpa [ment] using hm)) h2⟩
  | .clo f cs, φ, φ', x, fp, hh, hφ, h => by
    simp only [CV] at h ⊢
    obtain ⟨xs, h1, h2⟩ := h
    exact ⟨xs, h1, CVs_mono hD cs _ _ _ _ hh (fun id hm => hφ id (by simpa [ment] using hm)) h2⟩
theorem CVs_mono {w w' : World} {D D' : Nat → Prop} (hD : ∀ b, D b → D' b) :
    ∀ (cs : List V) (φ φ' : Nat → Option Pl) (xs : List Value) (fp : List Nat), (∀ b, D b ∨ b ∈ fp → w'.heap[b]? = w.heap[b]?) → (∀ id, ments id cs = true → φ' id = φ id) →
      CVs w D cs φ xs fp → CVs w' D' cs φ' xs fp
  | [], φ, φ', xs, fp, hh, hφ, h => by simpa [CVs] using h
  | c :: cs, φ, φ', xs, fp, hh, hφ, h => by
    simp only [CVs] at h ⊢
    obtain ⟨x, xs', f1, f2, h1, h2, h3, h4⟩ := h
    subst h2
    exact ⟨x, xs', f1, f2, h1, rfl, CV_mono hD c _ _ _ _ (fun b hb => hh b (hb.imp id (List.mem_append_left _))) (fun id hm => hφ id (by simp [ments, hm])) h3,
      CVs_mono hD cs _ _ _ _ (fun b hb => hh b (hb.imp id (List.mem_append_right _))) (fun id hm => hφ id (by simp [ments, hm])) h4⟩
theorem CR_mono {w w' : World} {D D' : Nat → Prop} (hD : ∀ b, D b → D' b) (s : Nat) :
    ∀ (cs : List V) (φ φ' : Nat → Option Pl) (xs : List Value) (fp : List Nat), (∀ b, D b ∨ b ∈ fp → w'.heap[b]? = w.heap[b]?) → (∀ id, ments id cs = true → φ' id = φ id) →
      CR w D s cs φ xs fp → CR w' D' s cs φ' xs fp
  | [], φ, φ', xs, fp, hh, hφ, h => by simpa [CR] using h
  | c :: cs, φ, φ', xs, fp, hh, hφ, h => by
    simp only [CR] at h ⊢
    obtain ⟨x, xs', f1, f2, h1, h0, h2, h3, h4⟩ := h
    subst h2
    exact ⟨x, xs', f1, f2, h1, h0, rfl, CV_mono hD c _ _ _ _ (fun b hb => hh b (hb.imp id (List.mem_append_left _))) (fun id hm => hφ id (by simp [ments, hm])) h3,
      CR_mono hD s cs _ _ _ _ (fun b hb => hh b (hb.imp id (List.mem_append_right _))) (fun id hm => hφ id (by simp [ments, hm])) h4⟩
end

mutual
theorem CV_noOwn {w : World} {D : Nat → Prop} : ∀ (v : V) (φ : Nat → Option Pl) (x : Value) (fp : List Nat), noOwn v = true → CV w D v φ x fp → fp = []
  | .undef, φ, x, fp, hn, h => by simpa [CV] using h
  | .v y, φ, x, fp, hn, h => by simp only [CV] at h; exact h.2.2
  | .ref id i j, φ, x, fp, hn, h => by simp only [CV] at h; exact h.1
  | .sl id i n, φ, x, fp, hn, h => by simp only [CV] at h; exact h.1
  | .rp s es i j, φ, x, fp, hn, h => by simp only [CV] at h; exact h.1
  | .ro s es, φ, x, fp, hn, h => by simp only [CV] at h; exact h.1
  | .own s es, φ, x, fp, hn, h => by simp [noOwn] at hn
  | .agg cs, φ, x, fp, hn, h => by
    simp only [CV] at h; obtain ⟨xs, _, h⟩ := h
    exact CVs_noOwn cs φ _ fp (by simpa [noOwn] using hn) h
  | .tup cs, φ, x, fp, hn, h => by
    simp only [CV] at h; obtain ⟨xs, _, h⟩ := h
    exact CVs_noOwn cs φ _ fp (by simpa [noOwn] using hn) h
  | .clo f cs, φ, x, fp, hn, h => by
    simp only [CV] at h; obtain ⟨xs, _, h⟩ := h
    exact CVs_noOwn cs φ _ fp (by simpa [noOwn] using hn) h
theorem CVs_noOwn {w : World} {D : Nat → Prop} : ∀ (v : List V) (φ : Nat → Option Pl) (x : List Value) (fp : List Nat), noOwns v = true → CVs w D v φ x fp → fp = []
  | [], φ, x, fp, hn, h => by simp only [CVs] at h; exact h.2
  | c :: cs, φ, x, fp, hn, h => by
    simp only [CVs] at h
    obtain ⟨x, xs', f1, f2, h1, h2, h3, h4⟩ := h
    simp only [noOwns, Bool.and_eq_true] at hn
    rw [h2, CV_noOwn c φ x f1 hn.1 h3, CVs_noOwn cs φ xs' f2 hn.2 h4]; rfl
end

theorem CR_noOwn {w : World} {D : Nat → Prop} {s : Nat} : ∀ (v : List V) (φ : Nat → Option Pl) (x : List Value) (fp : List Nat), noOwns v = true → CR w D s v φ x fp → fp = []
  | [], φ, x, fp, hn, h => by simp only [CR] at h; exact h
  | c :: cs, φ, x, fp, hn, h => by
    simp only [CR] at h
    obtain ⟨x, xs', f1, f2, h1, h0, h2, h3, h4⟩ := h
    simp only [noOwns, Bool.and_eq_true] at hn
    rw [h2, CV_noOwn c φ x f1 hn.1 h3, CR_noOwn cs φ xs' f2 hn.2 h4]; rfl
end Go.Abs
