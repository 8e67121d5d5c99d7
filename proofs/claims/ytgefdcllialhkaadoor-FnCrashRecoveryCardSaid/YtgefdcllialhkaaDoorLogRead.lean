/- Lines and logs read back, in the program and in the reference. -/
import Derived.Test.YtgefdcllialhkaaDoorCodeLogRead
import Derived.Test.YtgefdcllialhkaaDoorCuts
set_option linter.unusedVariables false
set_option linter.unusedSimpArgs false
namespace Go.Proofs.YtgefdcllialhkaaDoor
open Go.Abs

def noRec : LogRecord := ⟨[], []⟩
/-- What the reference returns as the record of a line. -/
def specR (k : Nat) (line : List UInt8) : LogRecord := if specAt k line && !decide ((cut0 64 (specRest k line)).length = (specRest k line).length) then specE k line else noRec
theorem specR_dec {k : Nat} {line : List UInt8} {e : LogRecord} (h : dec k line = some e) : specR k line = e := by
  obtain ⟨h1, rfl⟩ := dec_iff.1 h
  obtain ⟨g1, g2, g3⟩ := spec_enc (k := k) h1
  simp [specR, g1, g2, g3]

theorem cut0_le (c : UInt8) (s : List UInt8) : (cut0 c s).length ≤ s.length := by
  unfold cut0
  exact (List.takeWhile_prefix _).length_le
theorem split_res (s : List UInt8) (c : UInt8) (hs : s.length ≤ 4000000) : ∃ ps : List (List UInt8), parts c s = cut0 c s :: ps ∧ PCall Tryd.prog n_s_l1Split [S s, Y c] (.own 1 ((cut0 c s :: ps).map S)) := by
  have h := parts_head (c := c) s
  cases hp : parts c s with
  | nil => exact absurd hp (parts_ne s)
  | cons p ps =>
    rw [hp] at h
    have h' : p = cut0 c s := h
    subst h'
    exact ⟨ps, rfl, by rw [← hp]; exact s_l1Split s c hs⟩

theorem s_l27Read (line : List UInt8) (k : Nat) (hk : k < 100) (hl : line.length ≤ 4000000) : PCall Tryd.prog n_s_l27Read [S line, I k] (.tup [eLogRecord (specR k line), B (dec k line).isSome]) := by
  have hdl := digits_len 1 k (by omega)
  have hcl := cut0_le 35 line
  obtain ⟨ps, hps, hsp⟩ := split_res line 35 hl
  refine PCall.of fn_s_l27Read (by simp) ?_
  simp [c_s_l27Read, r_s_l27Read_0, r_s_l27Read_1]
  refine callQ_v (s_l1Num k (by omega)) ?_
  simp
  refine ⟨by omega, ?_⟩
  simp [r_s_l27Read_2]
  refine callQ_of hsp rfl (.inl (by simp)) (by simp) ?_
  have ha : digits k ++ [32] = ahead k := rfl
  have hal : (ahead k).length = (digits k).length + 1 := by simp [ahead]
  simp
  by_cases h1 : (ahead k).length ≤ (cut0 35 line).length
  rotate_left
  · have : (dec k line).isSome = false := by rw [spec_dec]; simp [specAt, h1]
    simp [r_s_l27Read_3, r_s_l27Read_4, show ((cut0 35 line).length : Int) < (digits k).length + 1 by omega, this, specR, specAt, h1, noRec]
  simp [r_s_l27Read_3, show ¬ ((cut0 35 line).length : Int) < (digits k).length + 1 by omega]
  refine ⟨⟨by omega, by omega⟩, fun h2 => ?_, fun h2 => ?_⟩
  · have hs : specAt k line = false := by
      simp only [specAt, Bool.and_eq_false_iff, decide_eq_false_iff_not]
      right; rw [hal]; exact h2
    have : (dec k line).isSome = false := by rw [spec_dec, hs]; rfl
    simp [r_s_l27Read_4, this, specR, hs, noRec]
  have hs : specAt k line = true := by
    simp only [specAt, Bool.and_eq_true, decide_eq_true_iff]
    exact ⟨h1, by rw [hal]; exact h2⟩
  have hrest : (cut0 35 line).drop ((digits k).length + 1) = specRest k line := by unfold specRest; rw [hal]
  have hrl : (specRest k line).length ≤ line.length := by rw [← hrest, List.length_drop]; omega
  have hcr := cut0_le 64 (specRest k line)
  obtain ⟨qs, hqs, hsq⟩ := split_res (specRest k line) 64 (by omega)
  simp [r_s_l27Read_5]
  refine ⟨⟨by omega, by omega⟩, ?_⟩
  rw [hrest, List.take_of_length_le (by rw [← hrest, List.length_drop]; omega)]
  simp [r_s_l27Read_6]
  refine callQ_of hsq rfl (.inl (by simp)) (by simp) ?_
  simp [r_s_l27Read_7]
  refine ⟨fun h3 => ?_, fun h3 => ?_⟩
  · have h3' : (cut0 64 (specRest k line)).length = (specRest k line).length := by omega
    have : (dec k line).isSome = false := by rw [spec_dec]; simp [h3']
    simp [r_s_l27Read_8, this, specR, h3', noRec]
  have h3 : ¬ (cut0 64 (specRest k line)).length = (specRest k line).length := by omega
  have hR : specR k line = specE k line := by simp [specR, hs, h3]
  simp [r_s_l27Read_9]
  rw [wrap64 (by omega) (by omega)]
  have hc1 : (cut0 64 (specRest k line)).length < (specRest k line).length := by omega
  refine ⟨⟨by omega, by omega⟩, ?_⟩
  rw [List.take_of_length_le (by rw [List.length_drop]; omega)]
  simp [r_s_l27Read_10, p_s_l27Read_10]
  refine callD_v (PCall.arg (s_l27Good (specE k line)) (by simp [specE])) ?_ ?_ ?_
  · simp
  · simp
  have hd : (dec k line).isSome = (record (specE k line) && decide (enc k (specE k line) = line)) := by rw [spec_dec, hs]; simp [h3]
  cases h4 : record (specE k line) with
  | false =>
    rw [h4] at hd
    simp
    refine ⟨oEnd_of (by simp [p_s_l27Read_10]) (by simp), ?_⟩
    rw [Bool.false_and] at hd
    have hd' : dec k line = none := by simpa using hd
    simp [hd', hR, specE]
  | true =>
    rw [h4] at hd
    simp
    refine callD_v (PCall.arg (s_l27Line k (specE k line) hk h4) (by simp [specE])) ?_ ?_ ?_
    · simp
    · simp
    simp
    refine ⟨by omega, oEnd_of (by simp [p_s_l27Read_10]) (by simp), ?_⟩
    rw [hd, hR, Bool.true_and]
    refine ⟨⟨rfl, rfl⟩, ?_⟩
    rw [Bool.eq_iff_iff]; simp

/-- The record number k at the head of a text, for the program: none behind the sixtieth. -/
def rd (k : Nat) (s : List UInt8) : Option LogRecord := if k < 60 then decLine k s else none
def rdE (k : Nat) (s : List UInt8) : LogRecord := (rd k s).getD noRec
def rdN (k : Nat) (s : List UInt8) : Nat := match rd k s with | some e => (enc k e).length + 1 | none => 0
theorem i_readRecord (s : List UInt8) (k : Nat) (hk : k ≤ 60) (hs : s.length ≤ 4000000) : PCall Tryd.prog n_i_readRecord [S s, I k] (.tup [eLogRecord (rdE k s), I (rdN k s), B (rd k s).isSome]) := by
  have hcl := cut0_le 10 s
  refine PCall.of fn_i_readRecord (by simp) ?_
  simp [c_i_readRecord, r_i_readRecord_0, r_i_readRecord_1]
  refine callQ_of (strings_Cut s 10) rfl (.inl (by simp)) (by simp) ?_
  simp [r_i_readRecord_2]
  refine callQ_of (strings_Cut (cut0 10 s) 35) rfl (.inl (by simp)) (by simp) ?_
  simp [r_i_readRecord_3]
  refine callQ_of (strings_Cut (cut0 35 (cut0 10 s)) 32) rfl (.inl (by simp)) (by simp) ?_
  simp [r_i_readRecord_4]
  refine callQ_of (strings_Cut (cut1 32 (cut0 35 (cut0 10 s))) 64) rfl (.inl (by simp)) (by simp) ?_
  simp [r_i_readRecord_5]
  by_cases h1 : (10 : UInt8) ∈ s
  rotate_left
  · have : rd k s = none := by simp [rd, decLine, h1]
    simp [r_i_readRecord_6, r_i_readRecord_7, h1, rdE, rdN, this, noRec]
  by_cases h2 : 60 ≤ k
  · have : rd k s = none := by simp [rd, show ¬ k < 60 by omega]
    simp [r_i_readRecord_6, r_i_readRecord_7, h1, show (60 : Int) ≤ k by omega, rdE, rdN, this, noRec]
  simp [r_i_readRecord_6, h1, show ¬ (60 : Int) ≤ k by omega]
  have hrd : rd k s = dec k (cut0 10 s) := by simp [rd, decLine, h1, show k < 60 by omega]
  refine callQ_v (PCall.arg (i_IsValidRecord (readE (cut0 10 s))) (by simp [readE])) ?_
  cases h3 : record (readE (cut0 10 s)) with
  | false =>
    have : rd k s = none := by rw [hrd]; simp [dec, h3]
    simp [r_i_readRecord_7, rdE, rdN, this, noRec]
  | true =>
  simp
  refine callQ_v (PCall.arg (i_encodeRecord k (readE (cut0 10 s)) (by omega) h3) (by simp [readE])) ?_
  simp
  refine ⟨by omega, fun h4 => ?_, fun h4 => ?_⟩
  · have : rd k s = none := by rw [hrd]; simp [dec, h3, h4]
    simp [r_i_readRecord_7, rdE, rdN, this, noRec]
  · have : rd k s = some (readE (cut0 10 s)) := by rw [hrd]; simp [dec, h3, h4]
    simp [r_i_readRecord_8, rdE, rdN, this, h4]
    rw [wrap64 (by omega) (by omega)]
    simp [readE]

theorem rd_open {n k : Nat} {r : List UInt8} (h : n + k = 60) : recs n k r = match rd k r with | some e => e :: recs (n - 1) (k + 1) (r.drop ((enc k e).length + 1)) | none => [] := by
  cases n with
  | zero => simp [recs, rd, show ¬ k < 60 by omega]
  | succ n =>
    have : rd k r = decLine k r := by simp [rd, show k < 60 by omega]
    rw [recs, this]
    cases decLine k r <;> rfl
/-- Where the records end. -/
def endsOf (l : List LogRecord) : List Int := (List.range (l.length + 1)).map fun j => ((encs 0 (l.take j)).length : Int)
theorem endsOf_snoc (l : List LogRecord) (e : LogRecord) : endsOf (l ++ [e]) = endsOf l ++ [((encs 0 (l ++ [e])).length : Int)] := by
  unfold endsOf
  rw [List.length_append, List.length_singleton, List.range_succ, List.map_append, List.map_singleton]
  congr 1
  · apply List.map_congr_left
    intro j hj
    rw [List.mem_range] at hj
    rw [List.take_append_of_le_length (by omega)]
  · rw [List.take_of_length_le (by simp)]
theorem endsOf_len (l : List LogRecord) : (endsOf l).length = l.length + 1 := by simp [endsOf]
theorem encs_snoc (l : List LogRecord) (e : LogRecord) : (encs 0 (l ++ [e])).length = (encs 0 l).length + ((enc l.length e).length + 1) := by
  rw [encs_append]; simp [encs]

/-- So far l has been read of s; r is left. -/
structure Part (s : List UInt8) (l : List LogRecord) (r : List UInt8) : Prop where
  len : l.length ≤ 60
  text : s = encs 0 l ++ r
  all : openL s = l ++ recs (60 - l.length) l.length r
theorem Part.zero (s : List UInt8) : Part s [] s := ⟨by simp, by simp [encs], by simp [openL]⟩
theorem Part.next {s : List UInt8} {l : List LogRecord} {r : List UInt8} {e : LogRecord} (h : Part s l r) (he : rd l.length r = some e) : Part s (l ++ [e]) (r.drop ((enc l.length e).length + 1)) := by
  have hk : l.length < 60 := by
    unfold rd at he
    split at he
    · assumption
    · cases he
  have hd : decLine l.length r = some e := by simpa [rd, hk] using he
  obtain ⟨_, r', rfl⟩ := decLine_iff.1 hd
  refine ⟨by simp; omega, ?_, ?_⟩
  · rw [drop_line, encs_append]
    conv => lhs; rw [h.text]
    simp [encs]
  · have h2 := h.all
    rw [rd_open (by have := h.len; omega), he] at h2
    simp only at h2
    rw [h2]
    simp [show 60 - l.length - 1 = 60 - (l.length + 1) by omega]
theorem Part.done {s : List UInt8} {l : List LogRecord} {r : List UInt8} (h : Part s l r) (he : rd l.length r = none) : openL s = l := by
  have h2 := h.all
  rw [rd_open (by have := h.len; omega), he] at h2
  simpa using h2
theorem Part.at_ {s : List UInt8} {l : List LogRecord} {r : List UInt8} (h : Part s l r) : s.drop (encs 0 l).length = r ∧ (encs 0 l).length ≤ s.length := by
  have := h.text
  constructor
  · conv => lhs; arg 2; rw [this]
    exact List.drop_left
  · conv => rhs; rw [this]
    simp
theorem rd_len {k : Nat} {r : List UInt8} {e : LogRecord} (h : rd k r = some e) : (enc k e).length + 1 ≤ r.length := by
  have hd : decLine k r = some e := by
    unfold rd at h
    split at h
    · exact h
    · cases h
  obtain ⟨_, r', rfl⟩ := decLine_iff.1 hd
  simp

theorem i_readRecords (s : List UInt8) (hs : s.length ≤ 4000000) : PCall Tryd.prog n_i_readRecords [S s] (.tup [.own 2 ((openL s).map eLogRecord), .own 1 (ints (endsOf (openL s)))]) := by
  refine PCall.of fn_i_readRecords (by simp) ?_
  simp [c_i_readRecords, r_i_readRecords_0, r_i_readRecords_1, l_i_readRecords_8]
  refine loopK (fun l : List LogRecord => ⟨[(0, S s), (4, .sl 10 0 l.length), (5, .sl 11 0 (l.length + 1)), (6, I (encs 0 l).length)], [(10, ⟨2, l.map eLogRecord⟩), (11, ⟨1, ints (endsOf l)⟩)], []⟩) (fun l => 60 - l.length)
    (fun l => Part s l (s.drop (encs 0 l).length)) [] (Wk.list rfl (by simp [encs]) (by simp [endsOf, encs])) ?_ ?_
  · simpa [encs] using Part.zero s
  intro l hp K hN hR hE
  have h60 := hp.len
  have hat := hp.at_.2
  have hdl : (s.drop (encs 0 l).length).length = s.length - (encs 0 l).length := List.length_drop
  simp [r_i_readRecords_2]
  refine ⟨by omega, ?_⟩
  refine callQ_of (PCall.arg (i_readRecord (s.drop (encs 0 l).length) l.length h60 (by omega)) (by simp; exact List.take_of_length_le (by omega))) rfl (.inl (by simp)) (by simp) ?_
  simp [r_i_readRecords_3]
  refine ⟨fun h => ?_, fun h => ?_⟩
  · have ho := hp.done h
    simp [r_i_readRecords_4]
    refine hR _ ?_
    simp [ho, endsOf_len]
  · obtain ⟨e, he⟩ := Option.isSome_iff_exists.1 h
    have hn := hp.next he
    have hrl := rd_len he
    have hE : rdE l.length (s.drop (encs 0 l).length) = e := by simp [rdE, he]
    have hN' : rdN l.length (s.drop (encs 0 l).length) = (enc l.length e).length + 1 := by simp [rdN, he]
    rw [hE, hN']
    have hlen := encs_snoc l e
    have hdr : (s.drop (encs 0 l).length).drop ((enc l.length e).length + 1) = s.drop (encs 0 (l ++ [e])).length := by rw [List.drop_drop, hlen]
    rw [hdr] at hn
    have hn60 := hn.len
    simp [r_i_readRecords_5]
    rw [wrap64 (by omega) (by omega)]
    simp [r_i_readRecords_6]
    refine ⟨by unfold lenBound; omega, ?_⟩
    simp [r_i_readRecords_7, endsOf_len]
    refine ⟨by unfold lenBound; omega, ?_⟩
    refine hN (l ++ [e]) _ (by simp at hn60 ⊢; omega) hn (Wk.trans (Wk.ren 32 10 (by decide) (by simp)) (Wk.trans (Wk.ren 36 11 (by decide) ?_) (Wk.list rfl ?_ ?_)))
    · simp [AS.ren, ren, reN, renB]
    · simp [AS.ren, ren, reN, hlen]
    · simp [AS.ren, ren, reN, renB, endsOf_snoc, endsOf_len, hlen]
      exact List.take_of_length_le (by simp [endsOf_len])

theorem s_l27Open (s : List UInt8) (hs : s.length ≤ 4000000) : PCall Tryd.prog n_s_l27Open [S s] (.tup [.own 2 ((openL s).map eLogRecord), I (openN s)]) := by
  refine PCall.of fn_s_l27Open (by simp) ?_
  simp [c_s_l27Open, r_s_l27Open_0, r_s_l27Open_1, r_s_l27Open_2, l_s_l27Open_9]
  refine loopK (fun l : List LogRecord => ⟨[(0, S s), (4, .sl 9 0 l.length), (5, I (encs 0 l).length)], [(9, ⟨2, l.map eLogRecord⟩)], []⟩) (fun l => 60 - l.length)
    (fun l => Part s l (s.drop (encs 0 l).length)) [] (Wk.list rfl (by simp [encs]) (by simp)) ?_ ?_
  · simpa [encs] using Part.zero s
  intro l hp K hN hR hE
  have h60 := hp.len
  have hat := hp.at_.2
  have hdl : (s.drop (encs 0 l).length).length = s.length - (encs 0 l).length := List.length_drop
  have hex : rd l.length (s.drop (encs 0 l).length) = none → openL s = l ∧ openN s = (encs 0 l).length := fun h => by
    have := hp.done h
    exact ⟨this, by unfold openN; rw [this]⟩
  simp [r_s_l27Open_3]
  refine ⟨fun hlt => ⟨fun hk => ?_, fun hk => ?_⟩, fun hge => ?_⟩
  · obtain ⟨ps, hps, hsp⟩ := split_res (s.drop (encs 0 l).length) 10 (by omega)
    have hcl := cut0_le 10 (s.drop (encs 0 l).length)
    have hpl := parts_len (c := 10) (s.drop (encs 0 l).length)
    rw [hps, List.length_cons] at hpl
    simp [r_s_l27Open_4]
    refine ⟨by omega, ?_⟩
    refine callQ_of (PCall.arg hsp (by simp; exact List.take_of_length_le (by omega))) rfl (.inl (by simp)) (by simp) ?_
    simp [r_s_l27Open_5]
    refine callQ_of (PCall.arg (s_l27Read (cut0 10 (s.drop (encs 0 l).length)) l.length (by omega) (by omega)) (by simp)) rfl (.inl (by simp)) (by simp) ?_
    simp
    by_cases hm : (10 : UInt8) ∈ s.drop (encs 0 l).length
    rotate_left
    · have hx := hex (by simp [rd, decLine, hm])
      have hp0 : ¬ 2 ≤ ps.length + 1 := fun h => hm (hpl.1 h)
      simp [r_s_l27Open_6, show (ps.length : Int) + 1 < 2 by omega]
      refine hE _ _ ?_
      simp only [blockK_exit]
      simp [r_s_l27Open_10, hx.1, hx.2]
    have hp0 := hpl.2 hm
    have hrd : rd l.length (s.drop (encs 0 l).length) = dec l.length (cut0 10 (s.drop (encs 0 l).length)) := by simp [rd, decLine, hm, show l.length < 60 by omega]
    simp [r_s_l27Open_6, show ¬ (ps.length : Int) + 1 < 2 by omega]
    refine ⟨fun h => ?_, fun h => ?_⟩
    · have hx := hex (by rw [hrd]; exact h)
      refine hE _ _ ?_
      simp only [blockK_exit]
      simp [r_s_l27Open_10, hx.1, hx.2]
    · obtain ⟨e, he⟩ := Option.isSome_iff_exists.1 h
      have he' : rd l.length (s.drop (encs 0 l).length) = some e := by rw [hrd]; exact he
      have hn := hp.next he'
      have hrl := rd_len he'
      have hlen := encs_snoc l e
      have hE' := specR_dec he
      have hline := (dec_iff.1 he).2
      have hdr : (s.drop (encs 0 l).length).drop ((enc l.length e).length + 1) = s.drop (encs 0 (l ++ [e])).length := by rw [List.drop_drop, hlen]
      rw [hdr] at hn
      rw [hE', ← hline]
      simp [r_s_l27Open_7]
      refine ⟨by unfold lenBound; omega, ?_⟩
      simp [r_s_l27Open_8]
      rw [wrap64 (n := ((encs 0 l).length : Int) + ((enc l.length e).length : Int)) (by omega) (by omega), wrap64 (by omega) (by omega)]
      refine hN (l ++ [e]) _ (by simp; omega) hn (Wk.trans (Wk.ren 42 9 (by decide) ?_) (Wk.list rfl ?_ ?_))
      · simp
      · simp [AS.ren, ren, reN, hlen]
        omega
      · simp [AS.ren, ren, reN, renB]
  · have hx := hex (by simp [rd, show ¬ l.length < 60 by omega])
    refine hE _ _ ?_
    simp only [blockK_exit]
    simp [r_s_l27Open_10, hx.1, hx.2]
  · have hx := hex (by rw [List.drop_of_length_le (by omega)]; simp [rd, decLine])
    refine hE _ _ ?_
    simp only [blockK_exit]
    simp [r_s_l27Open_10, hx.1, hx.2]
end Go.Proofs.YtgefdcllialhkaaDoor
