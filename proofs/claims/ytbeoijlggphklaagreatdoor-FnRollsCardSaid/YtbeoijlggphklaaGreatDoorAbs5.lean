/- The abstract layer, merged part 5 of 5. -/
import Derived.Test.YtbeoijlggphklaaGreatDoorAbs3
import Derived.ProofKit
import Derived.Test.YtbeoijlggphklaaGreatDoorAbs4
import Derived.JoinedCond
import Derived.WideKeyArgs
import Derived.Carry
set_option linter.unusedVariables false
set_option linter.unusedSimpArgs false
namespace Go.Abs
open Go.ChangeShapes Go.WideShapes Go.ChangeAt Go.RowKit

/-- The blocks that are there. -/
def Old (w : World) (b : Nat) : Prop := b < w.heap.size

mutual
/-- How many values and letters a reading holds. -/
def bulk {H : Type} : DataW H → Nat
  | .lit (.string bytes) => bytes.length + 1
  | .lit _ => 1
  | .nil => 1
  | .ptr d => bulk d + 1
  | .slice elems spare => bulkAll elems + bulkAll spare + 1
  | .agg parts => bulkAll parts + 1
  | .iface _ d => bulk d + 1
  | .map entries => bulkEntries entries + 1
  | .held _ => 1
def bulkAll {H : Type} : List (DataW H) → Nat
  | [] => 0
  | d :: r => bulk d + bulkAll r
def bulkEntries {H : Type} : List (Lit × DataW H) → Nat
  | [] => 0
  | x :: r => bulkEntry x + bulkEntries r
def bulkEntry {H : Type} : Lit × DataW H → Nat
  | (.string bytes, d) => bytes.length + bulk d + 1
  | (_, d) => bulk d + 1
end

mutual
/-- How many values and letters an abstract value holds. -/
def vbulk : V → Nat
  | .v (.string b) => b.size + 1
  | .v _ => 1
  | .ro _ es => vbulks es + 1
  | .rp _ es _ _ => vbulks es + 1
  | .own _ es => vbulks es + 1
  | .agg cs => vbulks cs
  | .tup cs => vbulks cs
  | _ => 0
def vbulks : List V → Nat
  | [] => 0
  | c :: cs => vbulk c + vbulks cs
end

theorem vbulks_append : ∀ (a b : List V), vbulks (a ++ b) = vbulks a + vbulks b
  | [], b => by simp [vbulks]
  | x :: a, b => by simp only [List.cons_append, vbulks]; rw [vbulks_append a b]; omega
theorem noIdss_append : ∀ (a b : List V), noIdss (a ++ b) = (noIdss a && noIdss b)
  | [], b => by simp [noIdss]
  | x :: a, b => by simp only [List.cons_append, noIdss]; rw [noIdss_append a b, Bool.and_assoc]

theorem cells_noIds {v : V} {vs : List V} (h : cells? v = some vs) (hn : noIds v = true) : noIdss vs = true := by
  cases v <;> simp only [cells?, Option.some.injEq, reduceCtorEq] at h <;> rw [← h] <;> first | exact hn | (simp only [noIdss, Bool.and_true]; exact hn)
theorem vbulks_one (v : V) : vbulks [v] = vbulk v := by simp only [vbulks, Nat.add_zero]
theorem cells_bulk {v : V} {vs : List V} (h : cells? v = some vs) : vbulks vs = vbulk v := by
  have key : vs = [v] ∨ v = .agg vs := by
    cases v <;> simp only [cells?, Option.some.injEq, reduceCtorEq] at h <;> rw [← h] <;> simp
  rcases key with rfl | rfl
  · exact vbulks_one v
  · simp only [vbulk]

/-- A row of n cells that reads at type t stands for an abstract value of the shape S. -/
def Reads (P : Program) (t : TypeId) (agg : Bool) (n : Nat) (S : V → Prop) : Prop :=
  ∀ (H : Type) (enc : TypeId × Value → H) (w : World) (held : Bool) (fuel : Nat) (cs : List Value) (x : DataW H × List MemPlace), DataW.trod enc P w 0 (fun _ => true) held fuel t cs = some x →
    cs.length = n ∧ cs.all one = true ∧ ∃ v vs, S v ∧ isAggV v = agg ∧ cells? v = some vs ∧ CVs w (Old w) vs (fun _ => none) cs [] ∧ noIds v = true ∧ vbulk v ≤ bulk x.1

theorem Reads.imp {P : Program} {t : TypeId} {agg : Bool} {n : Nat} {S S' : V → Prop} (h : Reads P t agg n S) (hs : ∀ v, S v → S' v) : Reads P t agg n S' := fun H enc w held fuel cs x hx => by
  obtain ⟨h1, h2, v, vs, h3, h4⟩ := h H enc w held fuel cs x hx
  exact ⟨h1, h2, v, vs, hs v h3, h4⟩

theorem CVs_single {w : World} {D : Nat → Prop} {v : V} {φ : Nat → Option Pl} {x : Value} (h : CVs w D [v] φ [x] []) : CV w D v φ x [] := by
  simp only [CVs] at h
  obtain ⟨y, ys, f1, f2, e, hf, h1, h2, _⟩ := h
  cases e
  have := List.append_eq_nil_iff.1 hf.symm
  rw [this.1] at h1; exact h1

theorem CVs_len {w : World} {D : Nat → Prop} {φ : Nat → Option Pl} : ∀ (vs : List V) (xs : List Value) (f : List Nat), CVs w D vs φ xs f → xs.length = vs.length
  | [], xs, f, h => by simp only [CVs] at h; rw [h.1]; rfl
  | v :: vs, xs, f, h => by
    simp only [CVs] at h
    obtain ⟨y, ys, f1, f2, rfl, _, _, h2⟩ := h
    simp [CVs_len vs ys f2 h2]

/-- The cells of an element are those of a value. -/
theorem value_of_cells {w : World} {D : Nat → Prop} {v : V} {vs : List V} {cs : List Value} (hc : cells? v = some vs) (h1 : cs.all one = true) (h : CVs w D vs (fun _ => none) cs []) :
    ∃ x : Value, x.cells.toList = cs ∧ CV w D v (fun _ => none) x [] ∧ (isAggV v = true → x = .agg cs.toArray) := by
  cases v with
  | agg cs' =>
    simp only [cells?, Option.some.injEq] at hc; subst hc
    exact ⟨.agg cs.toArray, by simp [Value.cells], by simp only [CV]; exact ⟨_, rfl, by simpa using h⟩, fun _ => rfl⟩
  | undef => simp [cells?] at hc
  | tup _ => simp [cells?] at hc
  | _ =>
    simp only [cells?, Option.some.injEq] at hc; subst hc
    have hl := CVs_len _ _ _ h
    match cs, hl with
    | [x], _ =>
      have ho : one x = true := by simpa using h1
      exact ⟨x, by rw [one_cells ho], CVs_single h, fun e => by simp [isAggV] at e⟩

section
variable {P : Program} {t : TypeId}

theorem Reads.int {k : IntKind} (ht : P.underlying t = some (.int k)) : Reads P t false 1 (fun v => ∃ n, v = .v (.int k n) ∧ (Lit.int k n).wf = true) := fun H enc w held fuel cs x hx => by
  obtain ⟨n, rfl, rfl, hw⟩ := DataW.trod_int ht hx
  refine ⟨rfl, rfl, .v (.int k n), [.v (.int k n)], ⟨n, rfl, hw⟩, rfl, rfl, ?_, rfl, by simp [vbulk, bulk]⟩
  exact CVs_one (by simp [CV, one])
theorem Reads.bool (ht : P.underlying t = some .bool) : Reads P t false 1 (fun v => ∃ b, v = .v (.bool b)) := fun H enc w held fuel cs x hx => by
  obtain ⟨n, rfl, rfl⟩ := DataW.trod_bool ht hx
  refine ⟨rfl, rfl, .v (.bool n), [.v (.bool n)], ⟨n, rfl⟩, rfl, rfl, ?_, rfl, by simp [vbulk, bulk]⟩
  exact CVs_one (by simp [CV, one])
theorem Reads.string (ht : P.underlying t = some .string) : Reads P t false 1 (fun v => ∃ b : ByteArray, v = .v (.string b) ∧ b.size ≤ maxLen) := fun H enc w held fuel cs x hx => by
  obtain ⟨s, rfl, rfl, hs⟩ := DataW.trod_string ht hx
  have ho : s.size ≤ 9223372036854775807 := by unfold maxLen at hs; omega
  refine ⟨rfl, by simpa [one] using ho, .v (.string s), [.v (.string s)], ⟨s, rfl, hs⟩, rfl, rfl, ?_, rfl, ?_⟩
  · exact CVs_one (by simpa [CV, one] using ho)
  · show s.size + 1 ≤ s.data.toList.length + 1
    rw [Array.length_toList]; exact Nat.le_refl _

theorem CVs_app {w : World} {D : Nat → Prop} {φ : Nat → Option Pl} : ∀ (vs us : List V) (xs ys : List Value), CVs w D vs φ xs [] → CVs w D us φ ys [] → CVs w D (vs ++ us) φ (xs ++ ys) []
  | [], us, xs, ys, h, h' => by simp only [CVs] at h; rw [h.1]; exact h'
  | v :: vs, us, xs, ys, h, h' => by
    simp only [CVs] at h
    obtain ⟨y, zs, f1, f2, rfl, hf, h1, h2⟩ := h
    have := List.append_eq_nil_iff.1 hf.symm
    obtain ⟨rfl, rfl⟩ := this
    simp only [List.cons_append, CVs]
    exact ⟨y, zs ++ ys, [], [], rfl, rfl, h1, CVs_app vs us zs ys h2 h'⟩

/-- The fields of a struct, one behind the other. -/
def Fields (P : Program) : Nat → List Field → List (Bool × Nat × (V → Prop)) → Prop
  | _, [], [] => True
  | off, f :: fs, (b, n, S) :: Ss => f.offset = off ∧ P.cellsOf f.type = n ∧ Reads P f.type b n S ∧ Fields P (off + n) fs Ss
  | _, _, _ => False

def Each : List (Bool × Nat × (V → Prop)) → List V → Prop
  | [], [] => True
  | (b, _, S) :: Ss, v :: vs => (S v ∧ isAggV v = b) ∧ Each Ss vs
  | _, _ => False

theorem Each.cons {b : Bool} {n : Nat} {S : V → Prop} {Ss : List (Bool × Nat × (V → Prop))} {vs : List V} (h : Each ((b, n, S) :: Ss) vs) : ∃ v vs', vs = v :: vs' ∧ S v ∧ Each Ss vs' := by
  cases vs with
  | nil => exact h.elim
  | cons v vs => exact ⟨v, vs, rfl, h.1.1, h.2⟩
theorem Each.nil {vs : List V} (h : Each [] vs) : vs = [] := by
  cases vs with
  | nil => rfl
  | cons v vs => exact h.elim

def cellsV (v : V) : List V := (cells? v).getD []

theorem fields_read {H : Type} {enc : TypeId × Value → H} {w : World} {held : Bool} {m : Nat} {cs : List Value} : ∀ (fs : List Field) (Ss : List (Bool × Nat × (V → Prop))) (off : Nat) (xs : List (DataW H × List MemPlace)), Fields P off fs Ss → xs.length = fs.length →
    (∀ (i : Nat) (f : Field), fs[i]? = some f → DataW.trod enc P w 0 (fun _ => true) held m f.type ((cs.drop f.offset).take (P.cellsOf f.type)) = xs[i]?) → off ≤ cs.length →
    ∃ vs, Each Ss vs ∧ off + (Ss.map (·.2.1)).sum ≤ cs.length ∧ ((cs.drop off).take (Ss.map (·.2.1)).sum).all one = true ∧
      CVs w (Old w) (vs.flatMap cellsV) (fun _ => none) ((cs.drop off).take (Ss.map (·.2.1)).sum) [] ∧ noIdss (vs.flatMap cellsV) = true ∧ vbulks (vs.flatMap cellsV) ≤ bulkAll (xs.map (·.1))
  | [], [], off, xs, _, hl, _, hle => ⟨[], trivial, by simpa using hle, by simp, by simp [CVs], rfl, by simp [vbulks]⟩
  | f :: fs, (b, n, S) :: Ss, off, xs, hF, hl, h, hle => by
    obtain ⟨rfl, rfl, hr, hF⟩ := hF
    match xs, hl with
    | x :: xs, hl =>
      have h0 := h 0 f rfl
      simp only [List.getElem?_cons_zero] at h0
      obtain ⟨g1, g2, v, vs, g3, g4, g5, g6, g7, g8⟩ := hr H enc w held m _ x h0
      have hlen : f.offset + P.cellsOf f.type ≤ cs.length := by
        rw [List.length_take, List.length_drop] at g1; omega
      obtain ⟨us, k1, k2, k3, k4, k5, k6⟩ := fields_read fs Ss _ xs hF (by simpa using hl) (fun i f' hf' => by
        have := h (i + 1) f' (by simpa using hf')
        simpa using this) hlen
      have hsplit : (cs.drop f.offset).take (P.cellsOf f.type + (Ss.map (·.2.1)).sum) = (cs.drop f.offset).take (P.cellsOf f.type) ++ (cs.drop (f.offset + P.cellsOf f.type)).take (Ss.map (·.2.1)).sum := by
        rw [List.take_add, List.drop_drop]
      have hcv : cellsV v = vs := by simp [cellsV, g5]
      refine ⟨v :: us, ⟨⟨g3, g4⟩, k1⟩, ?_, ?_, ?_, ?_, ?_⟩
      · simp only [List.map_cons, List.sum_cons]; omega
      · simp only [List.map_cons, List.sum_cons]
        rw [hsplit, List.all_append, g2, k3]; rfl
      · simp only [List.map_cons, List.sum_cons, List.flatMap_cons]
        rw [hsplit, hcv]
        exact CVs_app _ _ _ _ g6 k4
      · rw [List.flatMap_cons, noIdss_append, k5, hcv, Bool.and_true]
        exact cells_noIds g5 g7
      · rw [List.flatMap_cons, vbulks_append, hcv]
        have : vbulks vs = vbulk v := cells_bulk g5
        simp only [List.map_cons, bulkAll]
        omega
  | [], _ :: _, off, xs, hF, _, _, _ => hF.elim
  | _ :: _, [], off, xs, hF, _, _, _ => hF.elim

theorem Reads.struct {fs : Array Field} {Ss : List (Bool × Nat × (V → Prop))} {n : Nat} (ht : P.underlying t = some (.struct fs)) (hF : Fields P 0 fs.toList Ss) (hn : (Ss.map (·.2.1)).sum = n) (hc : P.cellsOf t = n) :
    Reads P t true n (fun v => ∃ vs, Each Ss vs ∧ v = .agg (vs.flatMap cellsV)) := fun H enc w held fuel cs x hx => by
  obtain ⟨xs, m, rfl, rfl, hl, hxl, hx⟩ := DataW.trod_struct ht hx
  obtain ⟨vs, h1, h2, h3, h4, h5, h6⟩ := fields_read fs.toList Ss 0 xs hF (by simpa using hxl) (fun i f hf => hx i f (by simpa using hf)) (Nat.zero_le _)
  have htk : (cs.drop 0).take (Ss.map (·.2.1)).sum = cs := by
    rw [List.drop_zero, hn, List.take_of_length_le (by omega)]
  rw [htk] at h3 h4
  refine ⟨by omega, h3, _, _, ⟨vs, h1, rfl⟩, rfl, rfl, h4, by simpa [noIds] using h5, ?_⟩
  simp only [vbulk, bulk]; omega

theorem drop_split {α : Type} (l cs : List α) (k n : Nat) (hl : cs.length = n) (h : ∀ j, j < n → l[k + j]? = cs[j]?) : l.drop k = cs ++ l.drop (k + n) := by
  apply List.ext_getElem?
  intro i
  rw [List.getElem?_drop]
  by_cases hi : i < n
  · rw [List.getElem?_append_left (by omega)]; exact h i hi
  · rw [List.getElem?_append_right (by omega), List.getElem?_drop, hl]
    congr 1; omega

theorem bulkAll_append {H : Type} : ∀ (a b : List (DataW H)), bulkAll (a ++ b) = bulkAll a + bulkAll b
  | [], b => by simp [bulkAll]
  | x :: a, b => by simp only [List.cons_append, bulkAll]; rw [bulkAll_append a b]; omega

theorem Reads.slice {e : TypeId} {b : Bool} {n : Nat} {S : V → Prop} (ht : P.underlying t = some (.slice e)) (he : P.cellsOf e = n) (hn : 0 < n) (hr : Reads P e b n S) :
    Reads P t false 1 (fun v => ∃ es, v = .ro n es ∧ (∀ e ∈ es, S e ∧ isAggV e = b) ∧ es.length ≤ maxLen) := fun H enc w held fuel cs x hx => by
  rcases DataW.trod_slice ht hx with ⟨rfl, rfl⟩ | ⟨a, len, cap, elems, rest, m, rfl, rfl, rfl, _, hl, hm, hlen, hel, _, _⟩
  · refine ⟨rfl, rfl, .ro n [], [.ro n []], ⟨[], rfl, by simp, by simp⟩, rfl, rfl, CVs_one ?_, rfl, by simp [vbulk, vbulks, bulk]⟩
    simp only [CV]
    exact ⟨trivial, .inl ⟨trivial, _, _, rfl, by simp⟩⟩
  · rw [he] at hel
    obtain ⟨ab, ao, asp⟩ := a
    -- the elements from the i-th on
    have key : ∀ (k i : Nat), i + k = len → ∃ es : List V, es.length = k ∧ (∀ e ∈ es, S e ∧ isAggV e = b) ∧ noIdss es = true ∧ vbulks es ≤ bulkAll ((elems.drop i).map (·.1)) ∧
        (0 < k → asp = none ∧ ab < w.heap.size ∧ ∃ arr, blk? w ab = some arr ∧ CR w (Old w) n es (fun _ => none) (arr.toList.drop (ao + i * n)) []) := by
      intro k
      induction k with
      | zero => exact fun i hi => ⟨[], rfl, by simp, rfl, by simp [vbulks], fun h => absurd h (Nat.lt_irrefl 0)⟩
      | succ k ih =>
        intro i hi
        obtain ⟨es, h1, h2, h3, h4, h5⟩ := ih (i + 1) (by omega)
        have hi' := hel i (by omega)
        have hget : i < elems.length := by omega
        rw [List.getElem?_eq_getElem hget, Option.bind_eq_some_iff] at hi'
        obtain ⟨cs', hcs, htr⟩ := hi'
        obtain ⟨_, hcl, hcell⟩ := World.cells?_some hcs
        obtain ⟨g1, g2, v, vs, g3, g4, g5, g6, g7, g8⟩ := hr H enc w held m _ _ htr
        -- where the cells lie
        have hc0 := hcell 0 (by omega)
        have hc0' : ∃ y, w.cell? (((⟨ab, ao, asp⟩ : Addr).add (i * n)).add 0) = some y := by
          rw [hc0, List.getElem?_eq_getElem (by omega)]; exact ⟨_, rfl⟩
        obtain ⟨y, hy⟩ := hc0'
        have hadd0 : ((⟨ab, ao, asp⟩ : Addr).add (i * n)).add 0 = (⟨ab, ao, asp⟩ : Addr).add (i * n) := by simp [Addr.add]
        rw [hadd0] at hy
        have hblk : ∃ arr, blk? w ab = some arr ∧ ab < w.heap.size := by
          have hb : ((⟨ab, ao, asp⟩ : Addr).add (i * n)).block = ab := block_add _ _
          unfold World.cell? at hy
          rw [hb] at hy
          unfold blk?
          cases hh : w.heap[ab]? with
          | none => rw [hh] at hy; simp at hy
          | some bk =>
            rw [hh] at hy
            cases bk with
            | cells c ty fr => exact ⟨c, rfl, (Array.getElem?_eq_some_iff.1 hh).1⟩
            | _ => simp at hy
        obtain ⟨arr, harr, hlt⟩ := hblk
        have hspot : asp = none := by
          by_cases hi0 : i * n = 0
          · have := World.cell?_spot hy
            simpa [Addr.add, hi0] using this
          · -- the first cell of all has the place itself
            have h00 := hel 0 (by omega)
            rw [List.getElem?_eq_getElem (by omega), Option.bind_eq_some_iff] at h00
            obtain ⟨cs0, hcs0, _⟩ := h00
            obtain ⟨_, hcl0, hcell0⟩ := World.cells?_some hcs0
            have := hcell0 0 (by omega)
            rw [List.getElem?_eq_getElem (by omega)] at this
            have := World.cell?_spot this
            simpa [Addr.add] using this
        subst hspot
        refine ⟨v :: es, by simp [h1], fun e he => ?_, by simp [noIdss, g7, h3], ?_, fun _ => ⟨rfl, hlt, arr, harr, ?_⟩⟩
        · rcases List.mem_cons.1 he with rfl | he
          · exact ⟨g3, g4⟩
          · exact h2 e he
        · rw [List.drop_eq_getElem_cons hget]
          simp only [List.map_cons, bulkAll, vbulks]; omega
        · obtain ⟨x', hx1, hx2, _⟩ := value_of_cells g5 g2 g6
          have hd : arr.toList.drop (ao + i * n) = cs' ++ arr.toList.drop (ao + i * n + n) := by
            refine drop_split _ _ _ _ g1 fun j hj => ?_
            have := hcell j hj
            rw [add_plain, add_plain] at this
            rw [← this]
            unfold World.cell?
            unfold blk? at harr
            cases hh : w.heap[ab]? with
            | none => rw [hh] at harr; simp at harr
            | some bk =>
              rw [hh] at harr
              cases bk with
              | cells c ty fr => simp only [Option.some.injEq] at harr; subst harr; simp
              | _ => simp at harr
          rw [hd]
          simp only [CR]
          refine ⟨x', _, [], [], by rw [hx1], ⟨?_, by rw [hx1]; exact g2⟩, rfl, hx2, ?_⟩
          · rw [← Array.length_toList, hx1]; exact g1
          · cases k with
            | zero =>
              match es, h1 with
              | [], _ => simp [CR]
            | succ k =>
              obtain ⟨_, _, arr', harr', hcr⟩ := h5 (by omega)
              rw [harr] at harr'; cases harr'
              have e1 : ao + (i + 1) * n = ao + i * n + n := by rw [Nat.add_mul]; omega
              rw [e1] at hcr; exact hcr
    obtain ⟨es, h1, h2, h3, h4, h5⟩ := key len 0 (by omega)
    have hone : one (.slice (some ⟨ab, ao, asp⟩) len cap) = true := rfl
    refine ⟨rfl, by simp [hone], .ro n es, [.ro n es], ⟨es, rfl, h2, by omega⟩, rfl, rfl, CVs_one ?_, rfl, ?_⟩
    · simp only [CV]
      refine ⟨trivial, ?_⟩
      rcases Nat.eq_zero_or_pos len with h0 | hpos
      · subst h0
        match es, h1 with
        | [], _ => exact .inl ⟨rfl, _, _, rfl, hm⟩
      · obtain ⟨rfl, hlt, arr, harr, hcr⟩ := h5 hpos
        rw [Nat.zero_mul, Nat.add_zero] at hcr
        exact .inr ⟨ab, ao, cap, arr, by rw [h1], by omega, hm, hlt, harr, hcr, h3⟩
    · rw [List.drop_zero] at h4
      simp only [vbulk, bulk]; omega
end

end Go.Abs

set_option linter.unusedVariables false
set_option linter.unusedSimpArgs false
namespace Go.Abs
open Go.ChangeShapes Go.WideShapes Go.ChangeAt Go.RowKit
variable [GInv]

omit [GInv] in
theorem Reads.str {P : Program} {t : TypeId} (ht : P.underlying t = some .string) : Reads P t false 1 (fun v => ∃ b : List UInt8, v = S b ∧ b.length ≤ maxLen) :=
  (Reads.string ht).imp fun v hv => by
    obtain ⟨b, rfl, hb⟩ := hv
    refine ⟨b.data.toList, by rw [S, ← bs_data], ?_⟩
    simpa using hb

omit [GInv] in
theorem Reads.byte {P : Program} {t : TypeId} (ht : P.underlying t = some (.int .u8)) : Reads P t false 1 (fun v => ∃ b : UInt8, v = Y b) :=
  (Reads.int ht).imp fun v hv => by
    obtain ⟨n, rfl, hn⟩ := hv
    simp [Lit.wf, IntKind.min, IntKind.max, IntKind.signed, IntKind.bits] at hn
    obtain ⟨m, rfl⟩ := Int.eq_ofNat_of_zero_le (by omega : 0 ≤ n)
    refine ⟨UInt8.ofNat m, ?_⟩
    simp only [Y]
    congr 2
    simp
    omega


/-- The parameters, each with the shapes that it may read as. -/
def Params (P : Program) : List TypeId → List (Bool × Nat × (V → Prop)) → Prop
  | [], [] => True
  | t :: ts, (b, n, S) :: Ss => (Reads P t b n S ∧ (P.readableRec t = true ∧ t < P.types.size) ∧
      (match P.underlying t with | some (.struct _) => b = true | some (.int _) => b = false | some .string => b = false | some .bool => b = false | some (.slice _) => b = false | _ => False)) ∧ Params P ts Ss
  | _, _ => False

section
variable {P : Program} {H : Type} {enc : TypeId × Value → H} {W : World}

omit [GInv] in
theorem arg_read {t : TypeId} {b : Bool} {n base : Nat} {S : V → Prop} {x : Value} {d : DataW H} {ps : List MemPlace} (hr : Reads P t b n S)
    (ho : match P.underlying t with | some (.struct _) => b = true | some (.int _) => b = false | some .string => b = false | some .bool => b = false | some (.slice _) => b = false | _ => False)
    (hval : Value.okWide P W .any base t x) (h : DataW.Trod enc P W 0 (fun _ => true) true t x d ps) :
    ∃ v, (S v ∧ isAggV v = b) ∧ CV W (Old W) v (fun _ => none) x [] ∧ vbulk v ≤ bulk d := by
  obtain ⟨fuel, h⟩ := h
  obtain ⟨g1, g2, v, vs, g3, g4, g5, g6, g7, g8⟩ := hr H enc W true fuel _ _ h
  obtain ⟨y, h1, h2, h3⟩ := value_of_cells g5 g2 g6
  refine ⟨v, ⟨g3, g4⟩, ?_, g8⟩
  have plain : x.cells = #[x] → b = false → CV W (Old W) v (fun _ => none) x [] := fun hx hb => by
    have hv : vs = [v] := by
      rw [hb] at g4
      cases v <;> simp_all [cells?, isAggV]
    rw [hv, hx] at g6
    exact CVs_single g6
  split at ho
  · rename_i ht
    obtain ⟨cs, rfl, _⟩ := okWide_struct ht hval
    have e := h3 (by rw [g4]; exact ho)
    subst e
    simpa [Value.cells] using h2
  · rename_i ht
    obtain ⟨m, rfl⟩ := okWide_int ht hval
    exact plain rfl ho
  · rename_i ht
    obtain ⟨m, rfl⟩ := okWide_string ht hval
    exact plain rfl ho
  · rename_i ht
    obtain ⟨m, rfl⟩ := okWide_bool ht hval
    exact plain rfl ho
  · rename_i ht
    obtain ⟨a, l, c, rfl⟩ := okWide_slice ht hval
    exact plain rfl ho
  · exact ho.elim

omit [GInv] in
theorem args_read {base : Nat} : ∀ (ts : List TypeId) (Ss : List (Bool × Nat × (V → Prop))) (args : List Value) (ds : List (DataW H)) (ps : List MemPlace), Params P ts Ss →
    (∀ (j : Nat) t v, ts[j]? = some t → args[j]? = some v → Value.okWide P W .any base t v) → DataW.TrodAll enc P W 0 (fun _ => true) true ts args ds ps →
    ∃ vs, Each Ss vs ∧ CVs W (Old W) vs (fun _ => none) args [] ∧ vbulks vs ≤ bulkAll ds
  | [], [], args, ds, ps, _, _, h => by
    cases args <;> cases ds <;> simp [DataW.TrodAll] at h
    exact ⟨[], trivial, by simp [CVs], by simp [vbulks]⟩
  | t :: ts, (b, n, S) :: Ss, args, ds, ps, hp, hval, h => by
    obtain ⟨v, vs, d, ds', p, q, rfl, rfl, rfl, hd, hrest⟩ := trodAll_cons h
    obtain ⟨⟨hr, _, ho⟩, hp⟩ := hp
    obtain ⟨y, h1, h2, h3⟩ := arg_read hr ho (hval 0 t v rfl rfl) hd
    obtain ⟨ys, k1, k2, k3⟩ := args_read ts Ss vs ds' q hp (fun j t' v' hj hv => hval (j + 1) t' v' (by simpa using hj) (by simpa using hv)) hrest
    exact ⟨y :: ys, ⟨h1, k1⟩, by simp only [CVs]; exact ⟨v, vs, [], [], rfl, rfl, h2, k2⟩, by simp only [vbulks, bulkAll]; omega⟩
  | [], _ :: _, _, _, _, hp, _, _ => hp.elim
  | _ :: _, [], _, _, _, hp, _, _ => hp.elim

omit [GInv] in
theorem args_stay {W' : World} {sp : Nat → Bool} (hl : laidOutB P = true) (hb : Below W.heap.size W W') : ∀ (ts : List TypeId) (Ss : List (Bool × Nat × (V → Prop))) (args : List Value) (ds : List (DataW H)) (ps : List MemPlace), Params P ts Ss →
    (∀ p ∈ ps, p.block < W.heap.size) → (∀ p ∈ ps, sp p.block = true) → DataW.TrodAll enc P W 0 (fun _ => true) true ts args ds ps → DataW.TrodAll enc P W' 0 sp true ts args ds ps
  | [], [], args, ds, ps, _, _, _, h => by
    cases args <;> cases ds <;> simp [DataW.TrodAll] at h ⊢
    exact h
  | t :: ts, (b, n, S) :: Ss, args, ds, ps, hp, hlt, hsp, h => by
    obtain ⟨v, vs, d, ds', p, q, rfl, rfl, rfl, hd, hrest⟩ := trodAll_cons h
    obtain ⟨⟨_, hr, _⟩, hp⟩ := hp
    exact ⟨p, q, WideElems.Trod_stays hl hr.1 hr.2 hd (fun x hx => hb.same (hlt x (List.mem_append_left _ hx))) (fun x hx => hsp x (List.mem_append_left _ hx)),
      args_stay hl hb ts Ss vs ds' q hp (fun x hx => hlt x (List.mem_append_right _ hx)) (fun x hx => hsp x (List.mem_append_right _ hx)) hrest, rfl⟩
  | [], _ :: _, _, _, _, hp, _, _, _ => hp.elim
  | _ :: _, [], _, _, _, hp, _, _, _ => hp.elim

omit [GInv] in
theorem Grow.below {w w' : World} {D D' : Nat → Prop} (h : Grow w D [] w' D') : Below w.heap.size w w' :=
  ⟨h.os, h.tape, h.output, h.size, fun k hk => h.old k hk List.not_mem_nil⟩

omit [GInv] in
theorem keptBut_of_below {w w' : World} (h : Below w.heap.size w w') (may : MemPlace → Prop) : w.keptBut w' may := by
  refine ⟨h.os, h.output, fun i hi => ?_⟩
  have e := h.block i hi
  split
  · rename_i h1 h2
    rw [e, h1] at h2
    simp only [Option.some.injEq, Obj.cells.injEq] at h2
    obtain ⟨rfl, rfl, rfl⟩ := h2
    exact ⟨rfl, rfl, rfl, fun _ _ => rfl⟩
  · rename_i h1 h2
    rw [e, h1] at h2
    simp only [Option.some.injEq, Obj.map.injEq] at h2
    obtain ⟨rfl, rfl⟩ := h2
    exact .inr ⟨rfl, rfl⟩
  · exact e

omit [GInv] in
/-- 'post' where all old blocks stay. -/
theorem post_below {f : Func} {s : ChangeSpec} {apart fresh handsOn again : Bool} {W' : World} {args : Array Value} {v : Value} {ds gs : List (DataW H)} {pa : List MemPlace}
    (hW : DataW.Whole enc P f.params.toList s.vars apart W args.toList ds gs pa) (hb : Below W.heap.size W W')
    (hres : ∀ (b : Nat) (sp : Nat → Bool) (hd : Bool), DataW.TrodAll enc P W' b sp hd f.resultTypes.toList (v.resultList f.resultTypes.size) (s.fn H (ds ++ gs)).results [])
    (hargs : ∀ sp : Nat → Bool, (∀ p ∈ pa, sp p.block = true) → DataW.TrodAll enc P W' 0 sp true f.params.toList args.toList (s.fn H (ds ++ gs)).args pa)
    (hvars : ∀ sp : Nat → Bool, (∀ p ∈ pa, sp p.block = true) → DataW.TrodVars enc P W' sp s.vars (s.fn H (ds ++ gs)).vars [])
    (hok : ∀ (j : Nat) (t : TypeId) (r : Value), f.resultTypes[j]? = some t → (v.resultList f.resultTypes.size)[j]? = some r → Value.okWide P W' .any 0 t r) :
    s.post enc P f apart fresh handsOn again W args v W' := by
  have hlt := hW.lt
  have hold : ∀ p ∈ pa, (fun b => decide (b < W.heap.size)) p.block = true := fun p hp => by simpa using hlt p hp
  obtain ⟨_, _, _, _, _, hz, hn⟩ := id hW
  refine ⟨ds, gs, pa, [], pa, [], hW, hres _ _ _, hargs _ hold, hvars _ hold, keptBut_of_below hb _, fun _ => ⟨hok, _, _, ([] ++ pa) ++ [], ⟨[] ++ pa, [], trodAll_append (hargs _ (fun _ _ => rfl)) (hres _ _ _), hvars _ (fun _ _ => rfl), rfl, ?_, ?_⟩, ?_⟩⟩
  · intro b off hp
    have hp' : MemPlace.cell b off ∈ pa := by simpa using hp
    have e := hb.block b (hlt _ hp')
    have hz' := hz b off hp'
    unfold World.frozen? at hz' ⊢
    rw [e]; exact hz'
  · intro ha
    simpa using hn ha
  · intro p hp _
    simpa using hp
end

/-- WHAT A ROW 'IT RETURNS TRUE' ASKS, out of the law function's contract. -/
theorem law_calls {P : Program} {f tb : Nat} {fn : Func} {s : ChangeSpec} {Ss : List (Bool × Nat × (V → Prop))} {small : Nat → Prop} (hl : laidOutB P = true) (hv : s.vars = [])
    (hfn : ∀ (H : Type) (ds : List (DataW H)), ds.length = fn.params.size → s.fn H ds = { results := [.lit (.bool true)], args := ds })
    (hres : fn.resultTypes = #[tb]) (hb : P.underlying tb = some .bool) (hp : Params P fn.params.toList Ss)
    (hP : ∀ vs, Each Ss vs → (∃ m, small m ∧ vbulks vs ≤ m) → PCall P f vs (.v (.bool true)))
    (H : Type) (enc : TypeId × Value → H) (W : World) (base : Nat) (args : Array Value) (ds gs : List (DataW H)) (before : List MemPlace)
    (hval : ∀ (j : Nat) t v, fn.params[j]? = some t → args[j]? = some v → Value.okWide P W .any base t v)
    (hW : DataW.Whole enc P fn.params.toList s.vars false W args.toList ds gs before) (hsm : small (bulkAll ds)) (hgi : GInv.holds W (Old W)) :
    Calls P f args W fun e W' => ∃ v, e = .returned v ∧ s.post enc P fn false true false false W args v W' := by
  have hW' := hW
  obtain ⟨p, q, hA, hV, rfl, _, _⟩ := hW
  rw [hv] at hV
  obtain ⟨rfl, rfl⟩ := trodVars_none hV
  obtain ⟨vs, h1, h2, h3⟩ := args_read fn.params.toList Ss args.toList ds p hp (fun j t v hj hx => hval j t v (by simpa using hj) (by simpa using hx)) hA
  have hcall := (hP vs h1 ⟨_, hsm, h3⟩).2 W (Old W) args.toList (fun _ h => h) hgi h2
  rw [Array.toArray_toList] at hcall
  refine hcall.mono ?_
  rintro e W' ⟨y, D', fp, rfl, hg, hcv, _, _⟩
  have hy : y = .bool true := by simp only [CV] at hcv; exact hcv.1
  subst hy
  have hbl := Grow.below hg
  have hlt : ∀ x ∈ p, x.block < W.heap.size := fun x hx => hW'.lt x (by simpa using hx)
  have hlen : ∀ (ts : List TypeId) (vs : List Value) (ds : List (DataW H)) (ps : List MemPlace), DataW.TrodAll enc P W 0 (fun _ => true) true ts vs ds ps → ds.length = ts.length := by
    intro ts
    induction ts with
    | nil => intro vs ds ps h; cases vs <;> cases ds <;> simp [DataW.TrodAll] at h; rfl
    | cons t ts ih =>
      intro vs ds ps h
      obtain ⟨v, vs, d, ds', p, q, rfl, rfl, rfl, _, hr⟩ := trodAll_cons h
      simp [ih _ _ _ hr]
  have hds : ds.length = fn.params.size := by rw [hlen _ _ _ _ hA]; simp
  have hs := hfn H ds hds
  rw [List.append_nil] at hW'
  refine ⟨_, rfl, post_below hW' hbl (fun b sp hd => ?_) (fun sp hsp => ?_) (fun sp _ => ?_) (ok_one hres rfl (okWide_bool_mk hb _))⟩
  · rw [List.append_nil, hs, hres]
    exact trodAll_mk1 (shut_bool hb _)
  · rw [List.append_nil, hs]
    exact args_stay hl hbl fn.params.toList Ss args.toList ds p hp hlt hsp hA
  · rw [List.append_nil, hs, hv]; rfl

end Go.Abs
