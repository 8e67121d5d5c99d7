/- The plain law of a crash: what is recovered is a part of what was there, and no less than what was durable. -/
import Derived.Test.YtgefdcllialhkaaDoorCrash
set_option linter.unusedVariables false
set_option linter.unusedSimpArgs false
namespace Go.Proofs.YtgefdcllialhkaaDoor
open Go.Abs

theorem decLine_more {k : Nat} {a r : List UInt8} {e : LogRecord} (h : decLine k a = some e) : decLine k (a ++ r) = some e := by
  obtain ⟨h1, r', rfl⟩ := decLine_iff.1 h
  exact decLine_iff.2 ⟨h1, r' ++ r, by simp⟩
theorem decLine_less {k : Nat} {a : List UInt8} {y : UInt8} {e : LogRecord} (hy : y ≠ 10) (h : decLine k (a ++ [y]) = some e) : ∃ r, a = enc k e ++ 10 :: r ∧ decLine k a = some e := by
  obtain ⟨h1, r, hr⟩ := decLine_iff.1 h
  rcases List.eq_nil_or_concat r with rfl | ⟨r', z, rfl⟩
  · have : (a ++ [y]).getLast? = (enc k e ++ [10]).getLast? := by rw [hr]
    simp at this
    exact absurd this hy
  · have h2 : a ++ [y] = (enc k e ++ 10 :: r') ++ [z] := by rw [hr]; simp
    have h3 := (List.append_inj' h2 rfl).1
    exact ⟨r', h3, decLine_iff.2 ⟨h1, r', h3⟩⟩
theorem recs_pre : ∀ (n k : Nat) (a r : List UInt8), ∃ w, recs n k (a ++ r) = recs n k a ++ w
  | 0, k, a, r => ⟨[], rfl⟩
  | n + 1, k, a, r => by
    cases h : decLine k a with
    | none => exact ⟨recs (n + 1) k (a ++ r), by rw [recs.eq_def (n + 1) k a]; simp only [h, List.nil_append]⟩
    | some e =>
      obtain ⟨h1, r', rfl⟩ := decLine_iff.1 h
      have h' := decLine_more (r := r) h
      obtain ⟨w, hw⟩ := recs_pre n (k + 1) r' r
      refine ⟨w, ?_⟩
      rw [recs, h', recs, h]
      dsimp only
      simp only [List.append_assoc, List.cons_append, drop_line, hw]
theorem recs_bad : ∀ (n k : Nat) (a : List UInt8) (y : UInt8), y ≠ 10 → ∃ w, recs n k a = recs n k (a ++ [y]) ++ w
  | 0, k, a, y, _ => ⟨[], rfl⟩
  | n + 1, k, a, y, hy => by
    cases h : decLine k (a ++ [y]) with
    | none => exact ⟨recs (n + 1) k a, by rw [recs.eq_def (n + 1) k (a ++ [y])]; simp only [h, List.nil_append]⟩
    | some e =>
      obtain ⟨r, rfl, h2⟩ := decLine_less hy h
      obtain ⟨w, hw⟩ := recs_bad n (k + 1) r y hy
      refine ⟨w, ?_⟩
      rw [recs, h2, recs, h]
      dsimp only
      simp only [List.append_assoc, List.cons_append, drop_line, hw]
theorem enc_bytes {k : Nat} {e : LogRecord} (h : record e = true) : (245 : UInt8) ∉ enc k e := by
  obtain ⟨_, _, h1, h2, h3⟩ := record_iff.1 h
  have g : ∀ {s : List UInt8}, plain s = true → (245 : UInt8) ∉ s := fun hs hm => by
    have := (plain_mem hs hm).2.1
    revert this; decide
  have d : ∀ n, (245 : UInt8) ∉ digits n := fun n => digits_not (by decide)
  unfold enc sealT body
  simp only [List.mem_append, List.mem_cons, not_or]
  exact ⟨⟨d _, by decide, g h1, by decide, g h2⟩, by decide, d _⟩
theorem encs_bytes : ∀ (es : List LogRecord) (k : Nat), (∀ e ∈ es, record e = true) → (245 : UInt8) ∉ encs k es
  | [], _, _ => by simp [encs]
  | e :: es, k, h => by
    simp only [encs, List.mem_append, List.mem_cons, not_or]
    exact ⟨enc_bytes (h e (by simp)), by decide, encs_bytes es (k + 1) fun x hx => h x (by simp [hx])⟩
theorem open_durable {l : Log} (h : logOk l = true) (x : List UInt8) : l.durable.length ≤ openN (l.durable ++ x) := by
  obtain ⟨_, h2, _⟩ := logOk_iff.1 h
  obtain ⟨w, hw⟩ := recs_pre 60 0 l.durable x
  have hw' : openL (l.durable ++ x) = openL l.durable ++ w := hw
  rw [openN, hw', encs_append, List.length_append]
  have : (encs 0 (openL l.durable)).length = l.durable.length := h2
  omega
theorem set_last {t : List UInt8} {y : UInt8} (h : t ≠ []) : t.set (t.length - 1) y = t.dropLast ++ [y] := by
  rcases List.eq_nil_or_concat t with rfl | ⟨a, z, rfl⟩
  · exact absurd rfl h
  · simp
theorem not10 {x : UInt8} (h : x ≠ 245) : (255 - x : UInt8) ≠ 10 := by
  intro e
  apply h
  have : x = 255 - (255 - x) := by
    apply UInt8.toNat_inj.1
    have hx := UInt8.toNat_lt x
    have e1 : (255 - x : UInt8).toNat = 255 - x.toNat := by
      rw [UInt8.toNat_sub]
      show (2 ^ 8 - x.toNat + 255) % 2 ^ 8 = 255 - x.toNat
      omega
    rw [UInt8.toNat_sub, e1]
    show x.toNat = (2 ^ 8 - (255 - x.toNat) + 255) % 2 ^ 8
    omega
  rw [this, e]; rfl
theorem crash_law {l : Log} {n : Int} {b : Bool} (h : crashOk l n = true) :
    (crashT l n b).length ≤ 30000 ∧ l.durable.length ≤ openN (crashT l n b) ∧ ∃ w, recordsL l = openL (crashT l n b) ++ w := by
  have h' := h
  simp only [crashOk, Bool.and_eq_true, inR_iff] at h'
  obtain ⟨hl, hn⟩ := h'
  obtain ⟨h1, h2, h3⟩ := logOk_iff.1 hl
  have hb := openN_bound (l.durable ++ l.pending)
  have hok := openL_ok (l.durable ++ l.pending)
  have hall := (logOk_all hl).1
  rw [crashT, if_pos h, recordsL, if_pos hl]
  obtain ⟨k, rfl⟩ : ∃ k : Nat, n = k := ⟨n.toNat, by omega⟩
  simp only [Int.toNat_natCast]
  have htl : (tornT (l.pending.take k) b).length ≤ l.pending.length := by
    unfold tornT
    split <;> simp <;> omega
  refine ⟨by rw [List.length_append]; omega, open_durable hl _, ?_⟩
  by_cases hc : b = true ∧ l.pending.take k ≠ []
  · obtain ⟨rfl, hne⟩ := hc
    obtain ⟨t, ht⟩ : ∃ t, l.pending.take k = t := ⟨_, rfl⟩
    rw [ht] at hne ⊢
    have hp : l.pending = t ++ l.pending.drop k := by rw [← ht, List.take_append_drop]
    obtain ⟨x, hx⟩ : ∃ x, t.getD (t.length - 1) 0 = x := ⟨_, rfl⟩
    have hlast : t = t.dropLast ++ [x] := by
      rcases List.eq_nil_or_concat t with rfl | ⟨a, z, rfl⟩
      · exact absurd rfl hne
      · simp at hx
        rw [hx]; simp
    have hxm : x ∈ l.durable ++ l.pending := by
      rw [hp, hlast]; simp
    have hx5 : x ≠ 245 := fun e => by
      rw [hall] at hxm
      exact encs_bytes _ 0 hok.1 (e ▸ hxm)
    rw [tornT, if_pos rfl, hx, set_last hne, ← List.append_assoc]
    obtain ⟨w1, hw1⟩ := recs_bad 60 0 (l.durable ++ t.dropLast) (255 - x) (not10 hx5)
    obtain ⟨w2, hw2⟩ := recs_pre 60 0 (l.durable ++ t.dropLast) ([x] ++ l.pending.drop k)
    have e : l.durable ++ l.pending = l.durable ++ t.dropLast ++ ([x] ++ l.pending.drop k) := by
      conv => lhs; rw [hp, hlast]
      simp
    refine ⟨w1 ++ w2, ?_⟩
    show recs 60 0 (l.durable ++ l.pending) = recs 60 0 _ ++ (w1 ++ w2)
    rw [e, hw2, hw1, List.append_assoc]
  · have e : tornT (l.pending.take k) b = l.pending.take k := by
      unfold tornT
      cases b with
      | false => rfl
      | true =>
        have : l.pending.take k = [] := by
          apply Classical.byContradiction
          intro hne
          exact hc ⟨rfl, hne⟩
        rw [this]; rfl
    rw [e]
    obtain ⟨w, hw⟩ := recs_pre 60 0 (l.durable ++ l.pending.take k) (l.pending.drop k)
    refine ⟨w, ?_⟩
    show recs 60 0 (l.durable ++ l.pending) = recs 60 0 _ ++ w
    rw [← hw, List.append_assoc, List.take_append_drop]
theorem recover_records (s : List UInt8) (hs : s.length ≤ 30000) : recordsL (recoverL s) = openL s ∧ (recoverL s).durable = s.take (openN s) := by
  have hok := openL_ok s
  have hoe := open_encs hok.1 hok.2
  have e : recoverL s = ⟨s.take (openN s), [], (openL s).length⟩ := by rw [recoverL, if_pos hs]
  refine ⟨?_, by rw [e]⟩
  rw [recordsL, if_pos (recover_fix s hs).1, e]
  dsimp only
  rw [List.append_nil, take_open]; exact hoe.1
end Go.Proofs.YtgefdcllialhkaaDoor
