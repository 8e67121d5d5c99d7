/- The log of records as plain rows of bytes: lines, what is read back, valid logs. No program in sight. -/
import Derived.Test.YtgefdcllialhkaaDoorRec
import Derived.Test.YtgefdcllialhkaaDoorTexts
import Derived.Test.YtgefdcllialhkaaDoorLogT
set_option linter.unusedVariables false
set_option linter.unusedSimpArgs false
namespace Go.Proofs.YtgefdcllialhkaaDoor
open Go.Abs

/-! ### The checksum, a record's line -/
def sumStep (h : Int) (b : UInt8) : Int := (41 * h + b.toNat + 1) % 999979
def sumT (s : List UInt8) : Int := s.foldl sumStep 7
theorem sumStep_bounds {h : Int} (h0 : 0 ≤ h) (b : UInt8) : 0 ≤ sumStep h b ∧ sumStep h b < 999979 := by
  unfold sumStep
  constructor
  · exact Int.emod_nonneg _ (by omega)
  · exact Int.emod_lt_of_pos _ (by omega)
theorem foldl_bounds : ∀ (s : List UInt8) {h : Int}, 0 ≤ h → h < 999979 → 0 ≤ s.foldl sumStep h ∧ s.foldl sumStep h < 999979
  | [], h, h0, h1 => ⟨h0, h1⟩
  | b :: s, h, h0, h1 => by
    have := sumStep_bounds h0 b
    exact foldl_bounds s this.1 this.2
theorem sumT_bounds (s : List UInt8) : 0 ≤ sumT s ∧ sumT s < 999979 := foldl_bounds s (by omega) (by omega)
def sealT (s : List UInt8) : List UInt8 := s ++ 35 :: digits (sumT s).toNat
def body (k : Nat) (e : LogRecord) : List UInt8 := digits k ++ 32 :: (e.command ++ 64 :: e.reply)
/-- A record's line, without its end. -/
def enc (k : Nat) (e : LogRecord) : List UInt8 := sealT (body k e)

theorem plain_mem {s : List UInt8} (h : plain s = true) {b : UInt8} (hb : b ∈ s) : 32 ≤ b.toNat ∧ b.toNat ≤ 126 ∧ b ≠ 35 := by
  have := List.all_eq_true.1 h b hb
  simp only [plainB, decide_eq_true_iff] at this
  refine ⟨by omega, by omega, ?_⟩
  rintro rfl
  exact this.2.2 rfl
theorem record_iff {r : LogRecord} : record r = true ↔ (1 ≤ r.command.length ∧ r.command.length ≤ 160) ∧ r.reply.length ≤ 200 ∧ plain r.command = true ∧ plain r.reply = true ∧ 64 ∉ r.command := by
  simp only [record, Bool.and_eq_true, inR_iff, decide_eq_true_iff, Bool.not_eq_true', List.contains_eq_mem, decide_eq_false_iff_not]
  constructor
  · rintro ⟨⟨⟨⟨h1, h2⟩, h3⟩, h4⟩, h5⟩
    exact ⟨by omega, h2, h3, h4, h5⟩
  · rintro ⟨h1, h2, h3, h4, h5⟩
    exact ⟨⟨⟨⟨by omega, h2⟩, h3⟩, h4⟩, h5⟩
theorem digits_not {n : Nat} {b : UInt8} (h : b.toNat < 48 ∨ 57 < b.toNat) : b ∉ digits n := fun hb => by
  have := digits_range n b hb; omega
theorem body_not35 {k : Nat} {e : LogRecord} (h : record e = true) : (35 : UInt8) ∉ body k e := by
  obtain ⟨_, _, h1, h2, _⟩ := record_iff.1 h
  unfold body
  simp only [List.mem_append, List.mem_cons, not_or]
  refine ⟨digits_not (by decide), by decide, fun hb => (plain_mem h1 hb).2.2 rfl, by decide, fun hb => (plain_mem h2 hb).2.2 rfl⟩
theorem enc_not10 {k : Nat} {e : LogRecord} (h : record e = true) : (10 : UInt8) ∉ enc k e := by
  obtain ⟨_, _, h1, h2, _⟩ := record_iff.1 h
  unfold enc sealT body
  simp only [List.mem_append, List.mem_cons, not_or]
  refine ⟨⟨digits_not (by decide), by decide, fun hb => ?_, by decide, fun hb => ?_⟩, by decide, digits_not (by decide)⟩
  · have := (plain_mem h1 hb).1; simp at this
  · have := (plain_mem h2 hb).1; simp at this
theorem body_len {k : Nat} {e : LogRecord} (hk : k < 100) (h : record e = true) : (body k e).length ≤ 364 := by
  obtain ⟨h1, h2, _⟩ := record_iff.1 h
  have := digits_len 1 k (by omega)
  unfold body
  simp only [List.length_append, List.length_cons]
  omega
theorem enc_len {k : Nat} {e : LogRecord} (hk : k < 100) (h : record e = true) : (enc k e).length ≤ 371 := by
  have h1 := body_len hk h
  have h2 := digits_len 5 (sumT (body k e)).toNat (by have := sumT_bounds (body k e); omega)
  unfold enc sealT
  simp only [List.length_append, List.length_cons]
  omega

/-! ### A line read back -/
def readE (line : List UInt8) : LogRecord := ⟨cut0 64 (cut1 32 (cut0 35 line)), cut1 64 (cut1 32 (cut0 35 line))⟩
/-- The record number k that a line without its end stands for. -/
def dec (k : Nat) (line : List UInt8) : Option LogRecord := if record (readE line) = true ∧ enc k (readE line) = line then some (readE line) else none
theorem readE_enc {k : Nat} {e : LogRecord} (h : record e = true) : readE (enc k e) = e := by
  obtain ⟨_, _, h1, h2, h3⟩ := record_iff.1 h
  unfold readE enc sealT
  rw [cut0_at (body_not35 h)]
  unfold body
  rw [cut1_at (digits_not (by decide)), cut0_at h3, cut1_at h3]
theorem dec_iff {k : Nat} {line : List UInt8} {e : LogRecord} : dec k line = some e ↔ record e = true ∧ enc k e = line := by
  unfold dec
  constructor
  · intro h
    split at h
    · rename_i hc
      simp only [Option.some.injEq] at h
      rw [← h]; exact hc
    · cases h
  · rintro ⟨h1, rfl⟩
    rw [readE_enc h1, if_pos ⟨h1, rfl⟩]
theorem dec_none {k : Nat} {line : List UInt8} : dec k line = none ↔ ∀ e, record e = true → enc k e ≠ line := by
  constructor
  · intro h e he hl
    rw [dec_iff.2 ⟨he, hl⟩] at h; cases h
  · intro h
    cases hd : dec k line with
    | none => rfl
    | some e => exact absurd (dec_iff.1 hd).2 (h e (dec_iff.1 hd).1)
/-- The record number k at the head of a text. -/
def decLine (k : Nat) (s : List UInt8) : Option LogRecord := if (10 : UInt8) ∈ s then dec k (cut0 10 s) else none
theorem decLine_iff {k : Nat} {s : List UInt8} {e : LogRecord} : decLine k s = some e ↔ record e = true ∧ ∃ r, s = enc k e ++ 10 :: r := by
  unfold decLine
  constructor
  · intro h
    split at h
    · rename_i hm
      obtain ⟨h1, h2⟩ := dec_iff.1 h
      exact ⟨h1, _, by rw [h2]; exact (cut_split hm).1⟩
    · cases h
  · rintro ⟨h1, r, rfl⟩
    rw [if_pos (by simp), cut0_at (enc_not10 h1)]
    exact dec_iff.2 ⟨h1, rfl⟩

/-! ### All records of a text -/
/-- At most n records from number k on. -/
def recs : Nat → Nat → List UInt8 → List LogRecord
  | 0, _, _ => []
  | n + 1, k, s => match decLine k s with
    | some e => e :: recs n (k + 1) (s.drop ((enc k e).length + 1))
    | none => []
/-- Records as they are written. -/
def encs : Nat → List LogRecord → List UInt8
  | _, [] => []
  | k, e :: es => enc k e ++ 10 :: encs (k + 1) es
theorem encs_append : ∀ (k : Nat) (a b : List LogRecord), encs k (a ++ b) = encs k a ++ encs (k + a.length) b
  | k, [], b => by simp [encs]
  | k, e :: a, b => by
    rw [List.cons_append, encs, encs, encs_append (k + 1) a b]
    simp [Nat.add_comm, Nat.add_left_comm]
theorem recs_len : ∀ (n k : Nat) (s : List UInt8), (recs n k s).length ≤ n
  | 0, _, _ => by simp [recs]
  | n + 1, k, s => by
    rw [recs]
    split
    · have := recs_len n (k + 1) (s.drop ((enc k ‹_›).length + 1))
      simp only [List.length_cons]; omega
    · simp
theorem drop_line {a r : List UInt8} : (a ++ 10 :: r).drop (a.length + 1) = r := by
  rw [← List.drop_drop, List.drop_left]; rfl
theorem drop_line' {c : UInt8} {a r : List UInt8} (_ : c ∉ a) : (a ++ c :: r).drop (a.length + 1) = r := by
  rw [← List.drop_drop, List.drop_left]; rfl
theorem recs_ok : ∀ (n k : Nat) (s : List UInt8), (∀ e ∈ recs n k s, record e = true) ∧ ∃ r, s = encs k (recs n k s) ++ r
  | 0, k, s => ⟨by simp [recs], s, by simp [recs, encs]⟩
  | n + 1, k, s => by
    rw [recs]
    split
    · rename_i e he
      obtain ⟨h1, r, rfl⟩ := decLine_iff.1 he
      rw [drop_line]
      obtain ⟨g1, r', g2⟩ := recs_ok n (k + 1) r
      refine ⟨?_, r', ?_⟩
      · intro x hx
        rcases List.mem_cons.1 hx with rfl | hx
        · exact h1
        · exact g1 x hx
      · rw [encs]
        conv => lhs; rw [g2]
        simp
    · exact ⟨by simp, s, by simp [encs]⟩
theorem recs_encs : ∀ (es : List LogRecord) (n k : Nat) (r : List UInt8), (∀ e ∈ es, record e = true) → recs (es.length + n) k (encs k es ++ r) = es ++ recs n (k + es.length) r
  | [], n, k, r, _ => by simp [encs]
  | e :: es, n, k, r, h => by
    have h1 := h e List.mem_cons_self
    rw [List.length_cons, show es.length + 1 + n = (es.length + n) + 1 by omega, recs, encs]
    have hd : decLine k (enc k e ++ 10 :: encs (k + 1) es ++ r) = some e := decLine_iff.2 ⟨h1, encs (k + 1) es ++ r, by simp⟩
    rw [hd]
    simp only
    rw [List.append_assoc, List.cons_append, drop_line, recs_encs es n (k + 1) r (fun x hx => h x (List.mem_cons_of_mem _ hx))]
    simp [Nat.add_comm, Nat.add_left_comm]
theorem recs_nil : ∀ (n k : Nat), recs n k [] = []
  | 0, _ => rfl
  | n + 1, k => by
    rw [recs]
    have : decLine k [] = none := by simp [decLine]
    rw [this]

def openL (s : List UInt8) : List LogRecord := recs 60 0 s
/-- How many bytes are read. -/
def openN (s : List UInt8) : Nat := (encs 0 (openL s)).length
theorem openN_le (s : List UInt8) : openN s ≤ s.length := by
  obtain ⟨_, r, h⟩ := recs_ok 60 0 s
  unfold openN openL
  conv => rhs; rw [h]
  simp
theorem open_split (s : List UInt8) : s = encs 0 (openL s) ++ s.drop (openN s) := by
  obtain ⟨_, r, h⟩ := recs_ok 60 0 s
  unfold openN openL
  have : s.drop (encs 0 (recs 60 0 s)).length = r := by
    conv => lhs; arg 2; rw [h]
    exact List.drop_left
  rw [this]; exact h

/-- A valid log. -/
def logOk (l : Log) : Bool := decide (openN (l.durable ++ l.pending) = l.durable.length + l.pending.length) && (decide (openN l.durable = l.durable.length) && decide (((openL (l.durable ++ l.pending)).length : Int) = l.count))

/-- The first j records end where the durable part ends: the same as that the durable part is read whole. -/
theorem open_prefix {d p : List UInt8} (h : openN (d ++ p) = (d ++ p).length) : openN d = d.length ↔ ∃ j, j ≤ (openL (d ++ p)).length ∧ (encs 0 ((openL (d ++ p)).take j)).length = d.length := by
  have hs := open_split (d ++ p)
  have hr := (recs_ok 60 0 (d ++ p)).1
  rw [h, List.drop_length, List.append_nil] at hs
  constructor
  · intro hd
    have hsd := open_split d
    rw [hd, List.drop_length, List.append_nil] at hsd
    have hl := recs_len 60 0 d
    have hrd := (recs_ok 60 0 d).1
    have e : openL (d ++ p) = openL d ++ recs (60 - (openL d).length) (0 + (openL d).length) p := by
      have := recs_encs (openL d) (60 - (openL d).length) 0 p hrd
      rw [← hsd, show (openL d).length + (60 - (openL d).length) = 60 by have h60 : (openL d).length ≤ 60 := hl; omega] at this
      exact this
    refine ⟨(openL d).length, by rw [e]; simp, ?_⟩
    rw [e, List.take_left]
    exact congrArg List.length hsd.symm
  · rintro ⟨j, hj, hl⟩
    have e : encs 0 (openL (d ++ p)) = encs 0 ((openL (d ++ p)).take j) ++ encs (0 + ((openL (d ++ p)).take j).length) ((openL (d ++ p)).drop j) := by
      rw [← encs_append, List.take_append_drop]
    rw [e] at hs
    have hd : d = encs 0 ((openL (d ++ p)).take j) := (List.append_inj hs hl.symm).1
    have hlen := recs_len 60 0 (d ++ p)
    have hn : ((openL (d ++ p)).take j).length ≤ 60 := by rw [List.length_take]; unfold openL at hj ⊢; omega
    have := recs_encs ((openL (d ++ p)).take j) (60 - ((openL (d ++ p)).take j).length) 0 [] (fun x hx => hr x (List.mem_of_mem_take hx))
    rw [List.append_nil, ← hd, recs_nil, List.append_nil, show ((openL (d ++ p)).take j).length + (60 - ((openL (d ++ p)).take j).length) = 60 by omega] at this
    have ho : openL d = (openL (d ++ p)).take j := this
    unfold openN
    rw [ho]; exact hl
theorem encs_len : ∀ (es : List LogRecord) (k : Nat), k + es.length ≤ 100 → (∀ e ∈ es, record e = true) → (encs k es).length ≤ 372 * es.length
  | [], _, _, _ => by simp [encs]
  | e :: es, k, hk, h => by
    rw [List.length_cons] at hk
    have h1 := enc_len (k := k) (by omega) (h e List.mem_cons_self)
    have h2 := encs_len es (k + 1) (by omega) (fun x hx => h x (List.mem_cons_of_mem _ hx))
    rw [encs]
    simp only [List.length_append, List.length_cons]
    omega
theorem openN_bound (s : List UInt8) : openN s ≤ 22320 := by
  have h1 := recs_len 60 0 s
  have h2 := encs_len (openL s) 0 (by unfold openL; omega) (recs_ok 60 0 s).1
  unfold openN
  unfold openL at h2 ⊢
  omega

/-! ### A line read back by the reference -/
def ahead (k : Nat) : List UInt8 := digits k ++ [32]
def specAt (k : Nat) (line : List UInt8) : Bool := decide ((ahead k).length ≤ (cut0 35 line).length) && decide ((cut0 35 line).take (ahead k).length = ahead k)
def specRest (k : Nat) (line : List UInt8) : List UInt8 := (cut0 35 line).drop (ahead k).length
def specE (k : Nat) (line : List UInt8) : LogRecord := ⟨cut0 64 (specRest k line), (specRest k line).drop ((cut0 64 (specRest k line)).length + 1)⟩
theorem spec_enc {k : Nat} {e : LogRecord} (h : record e = true) : specAt k (enc k e) = true ∧ (cut0 64 (specRest k (enc k e))).length ≠ (specRest k (enc k e)).length ∧ specE k (enc k e) = e := by
  obtain ⟨_, _, _, _, h3⟩ := record_iff.1 h
  have hb : cut0 35 (enc k e) = ahead k ++ (e.command ++ 64 :: e.reply) := by
    unfold enc sealT
    rw [cut0_at (body_not35 h)]
    simp [body, ahead]
  have hr : specRest k (enc k e) = e.command ++ 64 :: e.reply := by
    unfold specRest
    rw [hb, List.drop_left]
  refine ⟨?_, ?_, ?_⟩
  · unfold specAt
    rw [hb, List.take_left]; simp
  · rw [hr, cut0_at h3]; simp
  · unfold specE
    rw [hr, cut0_at h3, drop_line' h3]
theorem spec_dec {k : Nat} {line : List UInt8} : (dec k line).isSome = (specAt k line && (!decide ((cut0 64 (specRest k line)).length = (specRest k line).length) && (record (specE k line) && decide (enc k (specE k line) = line)))) := by
  cases hd : dec k line with
  | some e =>
    obtain ⟨h1, rfl⟩ := dec_iff.1 hd
    obtain ⟨g1, g2, g3⟩ := spec_enc (k := k) h1
    simp [g1, g2, g3, h1]
  | none =>
    rw [eq_comm]
    simp only [Option.isSome_none, Bool.and_eq_false_iff, Bool.not_eq_false', decide_eq_true_iff, decide_eq_false_iff_not]
    by_cases h : record (specE k line) = true
    · exact .inr (.inr (.inr (dec_none.1 hd _ h)))
    · exact .inr (.inr (.inl (by simpa using h)))
theorem spec_dec_some {k : Nat} {line : List UInt8} {e : LogRecord} (h : dec k line = some e) : specE k line = e := by
  obtain ⟨h1, rfl⟩ := dec_iff.1 h
  exact (spec_enc h1).2.2
end Go.Proofs.YtgefdcllialhkaaDoor
