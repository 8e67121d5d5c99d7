/- Numbers as texts, checksums, the lines of records; in the program and in the reference. -/
import Derived.Test.YtgefdcllialhkaaDoorCodeNum
import Derived.Test.YtgefdcllialhkaaDoorLogMath
set_option linter.unusedVariables false
set_option linter.unusedSimpArgs false
namespace Go.Proofs.YtgefdcllialhkaaDoor
open Go.Abs

theorem s_l1Num (n : Nat) : n ≤ 1000000000 → PCall Tryd.prog n_s_l1Num [I n] (S (digits n)) := by
  induction n using Nat.strongRecOn with
  | _ n ih =>
    intro hn
    refine PCall.of fn_s_l1Num (by simp) ?_
    simp [c_s_l1Num, r_s_l1Num_0, r_s_l1Num_1, show ¬ (n : Int) < 0 by omega]
    simp [r_s_l1Num_3]
    refine ⟨fun h => ?_, fun h => ?_⟩
    · simp [r_s_l1Num_4]
      rw [wrap64 (by omega) (by omega)]
      have hd := dig_slice (i := n) (by omega)
      refine ⟨by omega, ?_⟩
      rw [show ((n : Int) + 1).toNat - n = 1 by omega, hd, digits_small (by omega)]
    · have e1 : IntKind.i64.wrap ((n : Int) / 10) = ((n / 10 : Nat) : Int) := by rw [wrap64 (by omega) (by omega)]; omega
      have e2 : (n : Int).tmod 10 = ((n % 10 : Nat) : Int) := by rw [Int.tmod_eq_emod_of_nonneg (by omega)]; omega
      have hl := digits_le (n / 10)
      have hd := dig_slice (i := n % 10) (by omega)
      simp [r_s_l1Num_5, p_s_l1Num_5]
      rw [e1]
      refine callD_v (ih (n / 10) (by omega) (by omega)) ?_ ?_ ?_
      · simp
      · simp
      simp
      obtain ⟨m, hm, hmn⟩ : ∃ m, m < 10 ∧ n % 10 = m := ⟨n % 10, by omega, rfl⟩
      rw [hmn] at e2 hd
      rw [e2, wrap64 (by omega) (by omega), show ((m : Int) + 1).toNat - (m : Int).toNat = 1 by omega, show (m : Int).toNat = m by omega, hd]
      refine ⟨by omega, by omega, oEnd_of (by first | kernel_rfl | simp) (by first | kernel_rfl | simp), ?_⟩
      rw [digits_big (n := n) (by omega), hmn]

theorem strconv_Itoa (n : Nat) (h : n ≤ 1000000000) : PCall Tryd.prog n_strconv_Itoa [I n] (S (digits n)) := by
  have e : Lib.itoa (n : Int) = digits n := by
    unfold Lib.itoa
    rw [if_neg (by omega)]
    rfl
  refine PCall.grown (vs := [.int .i64 n]) (y := .string (bs (digits n))) (by kernel_rfl) (fun _ _ => CV_mkv ?_) (fun w D hg => ?_)
  · have := digits_le n
    simp [one]; omega
  · have := Tryd.strconv_Itoa n (by omega) (by omega) w hg.1
    rw [e] at this
    exact this

theorem i_checksum (s : List UInt8) : PCall Tryd.prog n_i_checksum [S s] (I (sumT s)) := by
  refine PCall.ofL fn_i_checksum (by simp) fun hs => ?_
  simp at hs
  simp [c_i_checksum, r_i_checksum_0, r_i_checksum_1, r_i_checksum_2, l_i_checksum_6]
  refine loopK (fun i : Nat => ⟨[(0, S s), (3, I ((s.take i).foldl sumStep 7)), (4, I i)], [], []⟩) (fun i => s.length - i) (fun i => i ≤ s.length) 0 (Wk.list rfl (by simp) (by simp)) (by simp) ?_
  intro i hi K hN hR hE
  simp [r_i_checksum_3]
  refine ⟨fun hlt => ?_, fun hge => ?_⟩
  · have hb := foldl_bounds (s.take i) (h := 7) (by omega) (by omega)
    have hy := s[i].toNat_lt
    have e : (s.take (i + 1)).foldl sumStep 7 = (41 * (s.take i).foldl sumStep 7 + s[i].toNat + 1) % 999979 := by
      rw [← List.take_append_getElem hlt, List.foldl_append]; rfl
    generalize (s.take i).foldl sumStep 7 = h at hb e
    simp [r_i_checksum_4, hlt]
    rw [wrap64 (n := 41 * h) (by omega) (by omega), wrap64 (n := (s[i].toNat : Int)) (by omega) (by omega), wrap64 (n := 41 * h + s[i].toNat) (by omega) (by omega), wrap64 (n := 41 * h + s[i].toNat + 1) (by omega) (by omega), Int.tmod_eq_emod_of_nonneg (by omega), ← e]
    simp [r_i_checksum_5]
    rw [wrap64 (by omega) (by omega)]
    exact hN (i + 1) _ (by omega) (by omega) (Wk.list rfl (by simp) (by simp))
  · refine hE _ _ ?_
    obtain rfl : i = s.length := by omega
    simp only [blockK_exit]
    simp [r_i_checksum_7, sumT]

theorem s_l1Sum (s : List UInt8) : PCall Tryd.prog n_s_l1Sum [S s] (I (sumT s)) := by
  refine PCall.ofL fn_s_l1Sum (by simp) fun hs => ?_
  simp at hs
  simp [c_s_l1Sum, r_s_l1Sum_0, r_s_l1Sum_1, r_s_l1Sum_2, l_s_l1Sum_6]
  refine loopK (fun i : Nat => ⟨[(0, S s), (3, I ((s.take i).foldl sumStep 7)), (4, I i)], [], []⟩) (fun i => s.length - i) (fun i => i ≤ s.length) 0 (Wk.list rfl (by simp) (by simp)) (by simp) ?_
  intro i hi K hN hR hE
  simp [r_s_l1Sum_3]
  refine ⟨fun hlt => ?_, fun hge => ?_⟩
  · have hb := foldl_bounds (s.take i) (h := 7) (by omega) (by omega)
    have hy := s[i].toNat_lt
    have e : (s.take (i + 1)).foldl sumStep 7 = (41 * (s.take i).foldl sumStep 7 + s[i].toNat + 1) % 999979 := by
      rw [← List.take_append_getElem hlt, List.foldl_append]; rfl
    generalize (s.take i).foldl sumStep 7 = h at hb e
    simp [r_s_l1Sum_4, hlt]
    rw [wrap64 (n := 41 * h) (by omega) (by omega), wrap64 (n := (s[i].toNat : Int)) (by omega) (by omega), wrap64 (n := 41 * h + s[i].toNat) (by omega) (by omega), wrap64 (n := 41 * h + s[i].toNat + 1) (by omega) (by omega), Int.tmod_eq_emod_of_nonneg (by omega), ← e]
    simp [r_s_l1Sum_5]
    rw [wrap64 (by omega) (by omega)]
    exact hN (i + 1) _ (by omega) (by omega) (Wk.list rfl (by simp) (by simp))
  · refine hE _ _ ?_
    obtain rfl : i = s.length := by omega
    simp only [blockK_exit]
    simp [r_s_l1Sum_7, sumT]


theorem s_l1Seal (s : List UInt8) (h : s.length ≤ 1000000) : PCall Tryd.prog n_s_l1Seal [S s] (S (sealT s)) := by
  have hb := sumT_bounds s
  have hl := digits_len 5 (sumT s).toNat (by omega)
  refine PCall.of fn_s_l1Seal (by simp) ?_
  simp [c_s_l1Seal, r_s_l1Seal_0, r_s_l1Seal_1]
  refine ⟨by omega, ?_⟩
  refine callQ_v (s_l1Sum s) ?_
  simp
  refine callQ_v (PCall.arg (s_l1Num (sumT s).toNat (by omega)) (by simp; omega)) ?_
  simp [sealT]
  omega

theorem s_l27Line (k : Nat) (e : LogRecord) (hk : k < 100) (h : record e = true) : PCall Tryd.prog n_s_l27Line [I k, eLogRecord e] (S (enc k e ++ [10])) := by
  obtain ⟨h1, h2, _⟩ := record_iff.1 h
  have hl := digits_len 1 k (by omega)
  have hL := body_len hk h
  have hE := enc_len hk h
  refine PCall.of fn_s_l27Line (by simp) ?_
  simp [c_s_l27Line, r_s_l27Line_0, r_s_l27Line_1, p_s_l27Line_1]
  refine callD_v (s_l1Num k (by omega)) ?_ ?_ ?_
  · simp
  · simp
  simp
  refine ⟨by omega, by omega, by omega, by omega, ?_⟩
  refine callD_v (PCall.arg (s_l1Seal (body k e) (by omega)) (by simp [body])) ?_ ?_ ?_
  · simp
  · simp
  have hE' : (sealT (body k e)).length ≤ 371 := hE
  simp [enc]
  exact ⟨by omega, oEnd_of (by first | kernel_rfl | simp) (by first | kernel_rfl | simp)⟩

theorem i_AppendChecksum (s : List UInt8) (h : s.length ≤ 3000) (hn : (35 : UInt8) ∉ s) : PCall Tryd.prog n_i_AppendChecksum [S s] (.tup [S (sealT s), B true]) := by
  have hb := sumT_bounds s
  have hl := digits_len 5 (sumT s).toNat (by omega)
  have hc : s.contains 35 = false := by simpa using hn
  refine PCall.of fn_i_AppendChecksum (by simp) ?_
  simp [c_i_AppendChecksum, r_i_AppendChecksum_0, r_i_AppendChecksum_1, show ¬ (4000 < (s.length : Int)) by omega]
  refine callQ_v (strings_Contains s 35) ?_
  rw [hc]
  simp [r_i_AppendChecksum_3]
  refine ⟨by omega, ?_⟩
  refine callQ_v (i_checksum s) ?_
  simp
  refine callQ_v (PCall.arg (strconv_Itoa (sumT s).toNat (by omega)) (by simp; omega)) ?_
  simp
  refine ⟨by omega, ?_⟩
  simp [r_i_AppendChecksum_4]
  refine ⟨fun h' => by omega, fun _ => ?_⟩
  simp [r_i_AppendChecksum_6, sealT]

theorem i_encodeRecord (k : Nat) (e : LogRecord) (hk : k < 100) (h : record e = true) : PCall Tryd.prog n_i_encodeRecord [I k, eLogRecord e] (S (enc k e ++ [10])) := by
  obtain ⟨h1, h2, _⟩ := record_iff.1 h
  have hl := digits_len 1 k (by omega)
  have hL := body_len hk h
  have hE := enc_len hk h
  refine PCall.of fn_i_encodeRecord (by simp) ?_
  simp [c_i_encodeRecord, r_i_encodeRecord_0, r_i_encodeRecord_1, p_i_encodeRecord_1]
  refine callD_v (strconv_Itoa k (by omega)) ?_ ?_ ?_
  · simp
  · simp
  simp
  refine ⟨by omega, by omega, by omega, by omega, ?_⟩
  refine callD_of (PCall.arg (i_AppendChecksum (body k e) (by omega) (body_not35 h)) (by simp [body])) rfl (.inl (by simp)) ?_ ?_ ?_
  · simp
  · simp
  have hE' : (sealT (body k e)).length ≤ 371 := hE
  simp
  refine ⟨oEnd_of (by first | kernel_rfl | simp) (by first | kernel_rfl | simp), ?_⟩
  simp [r_i_encodeRecord_2, enc]
  omega

/-- The text of record k. -/
def encR (k : Int) (e : LogRecord) : List UInt8 := if inR k 0 59 && record e then enc k.toNat e ++ [10] else []
theorem i_EncodeRecord (k : Int) (e : LogRecord) : PCall Tryd.prog n_i_EncodeRecord [I k, eLogRecord e] (.tup [S (encR k e), B (inR k 0 59 && record e)]) := by
  refine PCall.of fn_i_EncodeRecord (by simp) ?_
  simp [c_i_EncodeRecord, r_i_EncodeRecord_0, r_i_EncodeRecord_1]
  refine callQ_v (i_inside ..) ?_
  cases h1 : inR k 0 59 with
  | false => simp [r_i_EncodeRecord_2, encR, h1]
  | true =>
  have h1' := inR_iff.1 h1
  simp
  refine callQ_v (PCall.arg (i_IsValidRecord e) (by simp)) ?_
  cases h2 : record e with
  | false => simp [r_i_EncodeRecord_2, encR, h2]
  | true =>
  obtain ⟨n, rfl⟩ : ∃ n : Nat, k = n := ⟨k.toNat, by omega⟩
  simp [r_i_EncodeRecord_3]
  refine callQ_v (PCall.arg (i_encodeRecord n e (by omega) h2) (by simp)) ?_
  simp [encR, h1, h2]

theorem s_EncodeRecord (k : Int) (e : LogRecord) : PCall Tryd.prog n_s_EncodeRecord [I k, eLogRecord e] (.tup [S (encR k e), B (inR k 0 59 && record e)]) := by
  refine PCall.of fn_s_EncodeRecord (by simp) ?_
  simp [c_s_EncodeRecord, r_s_EncodeRecord_0, r_s_EncodeRecord_1]
  refine callQ_v (s_l1In ..) ?_
  cases h1 : inR k 0 59 with
  | false => simp [r_s_EncodeRecord_2, encR, h1]
  | true =>
  have h1' := inR_iff.1 h1
  simp
  refine callQ_v (PCall.arg (s_l27Good e) (by simp)) ?_
  cases h2 : record e with
  | false => simp [r_s_EncodeRecord_2, encR, h2]
  | true =>
  obtain ⟨n, rfl⟩ : ∃ n : Nat, k = n := ⟨k.toNat, by omega⟩
  simp [r_s_EncodeRecord_3]
  refine callQ_v (PCall.arg (s_l27Line n e (by omega) h2) (by simp)) ?_
  simp [encR, h1, h2]


end Go.Proofs.YtgefdcllialhkaaDoor
