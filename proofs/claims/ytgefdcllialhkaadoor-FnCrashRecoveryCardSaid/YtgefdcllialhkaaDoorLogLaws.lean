/- The plain laws of the log: what an appended record does, what recovery gives back, what a crash leaves. -/
import Derived.Test.YtgefdcllialhkaaDoorLogs
set_option linter.unusedVariables false
set_option linter.unusedSimpArgs false
namespace Go.Proofs.YtgefdcllialhkaaDoor
open Go.Abs

theorem open_encs {es : List LogRecord} (h : ∀ e ∈ es, record e = true) (hn : es.length ≤ 60) : openL (encs 0 es) = es ∧ openN (encs 0 es) = (encs 0 es).length := by
  have h1 := recs_encs es (60 - es.length) 0 [] h
  rw [recs_nil, List.append_nil, List.append_nil, show es.length + (60 - es.length) = 60 by omega] at h1
  have h2 : openL (encs 0 es) = es := h1
  exact ⟨h2, by rw [openN, h2]⟩
theorem openL_ok (s : List UInt8) : (∀ e ∈ openL s, record e = true) ∧ (openL s).length ≤ 60 := ⟨(recs_ok 60 0 s).1, recs_len 60 0 s⟩
theorem take_open (s : List UInt8) : s.take (openN s) = encs 0 (openL s) := by
  conv => lhs; arg 2; rw [open_split s]
  unfold openN
  exact List.take_left
theorem logOk_iff {l : Log} : logOk l = true ↔ openN (l.durable ++ l.pending) = l.durable.length + l.pending.length ∧ openN l.durable = l.durable.length ∧ ((openL (l.durable ++ l.pending)).length : Int) = l.count := by
  simp [logOk]
theorem logOk_all {l : Log} (h : logOk l = true) : l.durable ++ l.pending = encs 0 (openL (l.durable ++ l.pending)) ∧ l.durable = encs 0 (openL l.durable) := by
  obtain ⟨h1, h2, _⟩ := logOk_iff.1 h
  have t1 := take_open (l.durable ++ l.pending)
  have t2 := take_open l.durable
  rw [h1, List.take_of_length_le (by simp)] at t1
  rw [h2, List.take_of_length_le (by omega)] at t2
  exact ⟨t1, t2⟩
/-- An appended record. -/
theorem append_law {l : Log} {e : LogRecord} (h : appendN l e = 0) : logOk l = true ∧ record e = true ∧ logOk (appendL l e) = true ∧ recordsL (appendL l e) = recordsL l ++ [e] ∧ (appendL l e).count = (recordsL l).length + 1 ∧
    (appendL l e).durable.length + (appendL l e).pending.length ≤ 22320 := by
  have hc : logOk l = true ∧ record e = true ∧ l.count ≠ 60 := by
    unfold appendN at h
    split at h
    · rename_i hc
      simp only [Bool.and_eq_true] at hc
      split at h
      · cases h
      · exact ⟨hc.1, hc.2, by assumption⟩
    · cases h
  obtain ⟨hl, he, hne⟩ := hc
  have hcnt := logOk_count hl
  obtain ⟨h1, h2, h3⟩ := logOk_iff.1 hl
  have hall := (logOk_all hl).1
  have hok := openL_ok (l.durable ++ l.pending)
  have ea : appendL l e = ⟨l.durable, l.pending ++ (enc l.count.toNat e ++ [10]), l.count + 1⟩ := by
    rw [appendL, if_pos]
    simp [hl, he, hne]
  have er : recordsL l = openL (l.durable ++ l.pending) := by rw [recordsL, if_pos hl]
  rw [ea, er]
  obtain ⟨es, hes⟩ : ∃ es, openL (l.durable ++ l.pending) = es := ⟨_, rfl⟩
  rw [hes] at hall hok h3 ⊢
  have hk : l.count.toNat = es.length := by omega
  have hnew : l.durable ++ (l.pending ++ (enc l.count.toNat e ++ [10])) = encs 0 (es ++ [e]) := by
    rw [encs_append, ← hall, hk]
    simp [encs]
  have hoe := open_encs (es := es ++ [e]) (fun x hx => by
    rcases List.mem_append.1 hx with hx | hx
    · exact hok.1 x hx
    · rw [List.mem_singleton.1 hx]; exact he) (by simp; omega)
  have hlen : l.durable.length + (l.pending ++ (enc l.count.toNat e ++ [10])).length = (encs 0 (es ++ [e])).length := by rw [← hnew]; simp only [List.length_append]
  have hok' : logOk ⟨l.durable, l.pending ++ (enc l.count.toNat e ++ [10]), l.count + 1⟩ = true := by
    rw [logOk_iff]
    dsimp only
    rw [hnew, hoe.1, hoe.2, hlen]
    refine ⟨rfl, h2, ?_⟩
    rw [List.length_append, List.length_singleton]; omega
  refine ⟨hl, he, hok', ?_, by dsimp only; omega, ?_⟩
  · rw [recordsL, if_pos hok']
    dsimp only
    rw [hnew]; exact hoe.1
  · dsimp only
    rw [hlen, ← hoe.2]; exact openN_bound _
theorem append_not {l : Log} {e : LogRecord} (h : appendN l e ≠ 0) : appendL l e = l := by
  unfold appendN at h
  rw [appendL]
  split
  · rename_i hc
    simp only [Bool.and_eq_true, Bool.not_eq_true', decide_eq_false_iff_not] at hc
    rw [if_pos (by simp [hc.1.1, hc.1.2]), if_neg hc.2] at h
    exact absurd rfl h
  · rfl
/-- Recovery of the bytes of a valid log gives the synchronized log. -/
theorem recover_sync {l : Log} (h : logOk l = true) : recoverL (l.durable ++ l.pending) = syncL l ∧ recoverN (l.durable ++ l.pending) = (l.durable ++ l.pending).length ∧ (l.durable ++ l.pending).length ≤ 30000 := by
  obtain ⟨h1, h2, h3⟩ := logOk_iff.1 h
  have hb := openN_bound (l.durable ++ l.pending)
  have hle : (l.durable ++ l.pending).length ≤ 30000 := by rw [List.length_append]; omega
  refine ⟨?_, ?_, hle⟩
  · rw [recoverL, if_pos hle, syncL, if_pos h, h3, h1, List.take_of_length_le (by simp)]
  · rw [recoverN, if_pos hle, h1, List.length_append]
/-- A recovered log stays as it is. -/
theorem recover_fix (s : List UInt8) (hs : s.length ≤ 30000) : logOk (recoverL s) = true ∧ syncL (recoverL s) = recoverL s := by
  have hok := openL_ok s
  have hoe := open_encs hok.1 hok.2
  have e : recoverL s = ⟨encs 0 (openL s), [], (openL s).length⟩ := by rw [recoverL, if_pos hs, take_open]
  have hl : logOk (recoverL s) = true := by
    rw [logOk_iff, e]
    dsimp only
    rw [List.append_nil, hoe.1, hoe.2]
    exact ⟨by simp, rfl, rfl⟩
  refine ⟨hl, ?_⟩
  rw [syncL, if_pos hl, e]
  simp
theorem digits_first : ∀ k : Fin 60, digits k.val = digits 0 → k.val = 0 := by
  intro k h
  rw [digits_small (n := 0) (by omega)] at h
  by_cases hk : k.val < 10
  · rw [digits_small hk] at h
    have hv := congrArg (fun l : List UInt8 => (l.headD 0).toNat) h
    simp only [List.headD_cons] at hv
    rw [UInt8.toNat_ofNat_of_lt' (by show 48 + k.val < 256; omega)] at hv
    have : (UInt8.ofNat (48 + 0)).toNat = 48 := by decide
    omega
  · rw [digits_big hk] at h
    have hv := congrArg List.length h
    have h1 : 0 < (digits (k.val / 10)).length := by
      rw [digits_small (by omega)]; simp
    simp at hv
    rw [hv] at h1; simp at h1
/-- Only at number 0 is an encoded record read at the start of a text. -/
theorem enc_first {k : Nat} {e : LogRecord} (hk : k < 60) (he : record e = true) (h0 : k ≠ 0) : openL (enc k e ++ [10]) = [] := by
  have hd : decLine 0 (enc k e ++ [10]) = none := by
    rw [decLine, if_pos (by simp), show enc k e ++ [10] = enc k e ++ 10 :: [] from rfl, cut0_at (enc_not10 he)]
    rw [dec_none]
    intro e' he' hee
    have h1 : cut0 35 (enc k e) = body k e := by unfold enc sealT; exact cut0_at (body_not35 he)
    have h2 : cut0 35 (enc 0 e') = body 0 e' := by unfold enc sealT; exact cut0_at (body_not35 he')
    have h3 : body 0 e' = body k e := by rw [← h1, ← h2, hee]
    have h4 : cut0 32 (body 0 e') = digits 0 := by unfold body; exact cut0_at (digits_not (by decide))
    have h5 : cut0 32 (body k e) = digits k := by unfold body; exact cut0_at (digits_not (by decide))
    exact h0 (digits_first ⟨k, hk⟩ (by rw [← h4, ← h5, h3]))
  show recs 60 0 _ = []
  rw [recs, hd]
theorem enc_at {e : LogRecord} (he : record e = true) : openL (enc 0 e ++ [10]) = [e] := by
  have := (open_encs (es := [e]) (by simpa using he) (by simp)).1
  simpa [encs] using this
theorem encR_law (k : Int) (e : LogRecord) (hok : (inR k 0 59 && record e) = true) : (0 < recoverN (encR k e) ↔ k = 0) ∧ (k = 0 → (recoverL (encR k e)).count = 1) := by
  have hok' := hok
  simp only [Bool.and_eq_true, inR_iff] at hok'
  obtain ⟨hk, he⟩ := hok'
  obtain ⟨n, rfl⟩ : ∃ n : Nat, k = n := ⟨k.toNat, by omega⟩
  have hl := enc_len (k := n) (by omega) he
  rw [encR, if_pos hok]
  simp only [Int.toNat_natCast]
  have hs : (enc n e ++ [10]).length ≤ 30000 := by simp; omega
  by_cases h0 : n = 0
  · subst h0
    have := enc_at he
    rw [recoverN, if_pos hs, recoverL, if_pos hs, openN, this]
    simp [encs]
  · have := enc_first (k := n) (by omega) he h0
    rw [recoverN, if_pos hs, openN, this]
    simp [encs]
    omega
end Go.Proofs.YtgefdcllialhkaaDoor
