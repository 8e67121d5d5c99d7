/- The abstract layer: texts as rows of bytes. -/
import Derived.Test.YtcfmohcpfmedaaaDoorAbsEval
set_option linter.unusedVariables false
set_option linter.unusedSimpArgs false
namespace Go.Abs

/-- A text. -/
abbrev S (l : List UInt8) : V := .v (.string (bs l))
/-- A byte. -/
abbrev Y (b : UInt8) : V := .v (.int .u8 b.toNat)

@[simp] theorem bs_size (l : List UInt8) : (bs l).size = l.length := by simp [bs, ByteArray.size]
@[simp] theorem bs_append (a b : List UInt8) : bs a ++ bs b = bs (a ++ b) := by apply ByteArray.ext; simp [bs]
@[simp] theorem bs_extract (l : List UInt8) (i j : Nat) : (bs l).extract i j = bs ((l.drop i).take (j - i)) := by apply ByteArray.ext; simp [bs]
@[simp] theorem bs_get (l : List UInt8) (i : Nat) : (bs l)[i]? = l[i]? := by
  unfold bs
  show (if h : i < (ByteArray.mk l.toArray).size then some ((ByteArray.mk l.toArray)[i]) else none) = _
  have : (ByteArray.mk l.toArray).size = l.length := rfl
  by_cases h : i < l.length
  · rw [dif_pos (by rw [this]; exact h), List.getElem?_eq_getElem h]; rfl
  · rw [dif_neg (by rw [this]; exact h), List.getElem?_eq_none (by omega)]
@[simp] theorem bs_getE (l : List UInt8) (i : Nat) (h : i < (bs l).size) : (bs l)[i]'h = l[i]'(by simpa [bs, ByteArray.size] using h) := by
  have h1 : (bs l)[i]? = some ((bs l)[i]'h) := by rw [getElem?_pos]
  rw [bs_get, List.getElem?_eq_getElem (by simpa [bs, ByteArray.size] using h)] at h1
  exact (Option.some.inj h1).symm
theorem bs_loop (l : List UInt8) : ∀ (k i : Nat) (r : List UInt8), l.length - i = k → ByteArray.toList.loop (bs l) i r = r.reverse ++ l.drop i := by
  intro k
  induction k with
  | zero =>
    intro i r h
    rw [ByteArray.toList.loop, if_neg (by show ¬ i < l.length; omega), List.drop_of_length_le (by omega)]; simp
  | succ k ih =>
    intro i r h
    rw [ByteArray.toList.loop, if_pos (by show i < l.length; omega), ih (i + 1) _ (by omega)]
    have hi : i < l.length := by omega
    rw [List.drop_eq_getElem_cons hi]
    have : (bs l).get! i = l[i] := by
      show (bs l).data[i]! = _
      simp [bs, hi]
    rw [this]; simp
@[simp] theorem bs_toList (l : List UInt8) : (bs l).toList = l := by
  show ByteArray.toList.loop (bs l) 0 [] = l
  rw [bs_loop l _ 0 [] rfl]; simp
theorem bs_data (b : ByteArray) : b = bs b.data.toList := by apply ByteArray.ext; simp [bs]
@[simp] theorem bs_inj {a b : List UInt8} : bs a = bs b ↔ a = b := ⟨fun h => by rw [← bs_toList a, h, bs_toList], fun h => by rw [h]⟩
@[simp] theorem byte_toNat_inj {a b : UInt8} : ((a.toNat : Int) = (b.toNat : Int)) ↔ a = b := ⟨fun h => UInt8.toNat.inj (by omega), fun h => by rw [h]⟩

/-- Texts in a row. -/
abbrev texts (l : List (List UInt8)) : List V := l.map S
@[simp] theorem noOwns_texts (l : List (List UInt8)) : noOwns (l.map S) = true := by induction l <;> simp_all
@[simp] theorem noIdss_texts (l : List (List UInt8)) : noIdss (l.map S) = true := by induction l <;> simp_all
@[simp] theorem noRos_texts (l : List (List UInt8)) : noRos (l.map S) = true := by induction l <;> simp_all
@[simp] theorem ments_texts (d : Nat) (l : List (List UInt8)) : ments d (l.map S) = false := by induction l <;> simp_all
@[simp] theorem map_borrow_S (hp : Nat → Option Blk) (k : Nat) (l : List (List UInt8)) : List.map (borrow hp (k + 1) ∘ S) l = l.map S := by simp [Function.comp_def]

theorem rows_of {α : Type} {f : α → V} {s : Nat} {b : Bool} {Q : V → Prop} (hQ : ∀ v, Q v → ∃ x, v = f x) {v : V} (h : ∃ es, v = .ro s es ∧ (∀ e ∈ es, Q e ∧ isAggV e = b) ∧ es.length ≤ maxLen) : ∃ l : List α, v = .ro s (l.map f) := by
  obtain ⟨es, rfl, h, hlen⟩ := h
  clear hlen
  induction es with
  | nil => exact ⟨[], rfl⟩
  | cons e es ih =>
    obtain ⟨x, hx⟩ := hQ e (h e List.mem_cons_self).1
    obtain ⟨l, hl⟩ := ih (fun e he => h e (List.mem_cons_of_mem _ he))
    cases hl
    exact ⟨x :: l, by rw [hx]; rfl⟩
end Go.Abs
