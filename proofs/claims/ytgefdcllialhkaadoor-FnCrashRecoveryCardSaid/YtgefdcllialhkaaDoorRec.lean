/- Records of the log: the test, in the program and in the reference. -/
import Derived.Test.YtgefdcllialhkaaDoorCodeRec
import Derived.Test.YtgefdcllialhkaaDoorShelf
import Derived.Test.YtgefdcllialhkaaDoorBase
import Derived.Test.YtgefdcllialhkaaDoorAbs4
set_option linter.unusedVariables false
set_option linter.unusedSimpArgs false
namespace Go.Proofs.YtgefdcllialhkaaDoor
open Go.Abs

structure LogRecord where
  command : List UInt8
  reply : List UInt8
  deriving DecidableEq
/-- How it lies in memory. -/
abbrev eLogRecord (r : LogRecord) : V := .agg [S r.command, S r.reply]

theorem indexByte_has (s : List UInt8) (c : UInt8) : decide (0 ≤ Lib.indexByte s c) = s.contains c := by
  induction s with
  | nil => rfl
  | cons x s ih =>
    have hg := Lib.indexByte_ge s c
    rw [List.contains_cons, Lib.indexByte]
    by_cases h : x = c
    · subst h; simp
    · have h1 : (x == c) = false := by simpa using h
      have h2 : (c == x) = false := by simpa using fun e : c = x => h e.symm
      rw [h1, h2, Bool.false_or, ← ih]
      simp only [Bool.false_eq_true, if_false]
      split
      · rename_i e
        have : Lib.indexByte s c = -1 := by simpa using e
        rw [this]
      · rw [decide_eq_decide]
        rename_i e
        have : ¬ Lib.indexByte s c = -1 := by simpa using e
        omega

theorem strings_Contains (s : List UInt8) (c : UInt8) : PCall Tryd.prog n_strings_Contains [S s, S [c]] (B (s.contains c)) := by
  rw [← indexByte_has]
  exact PCall.same (vs := [.string (bs s), .string (bs [c])]) (y := .bool (decide (0 ≤ Lib.indexByte s c))) (by kernel_rfl) (fun _ _ => CV_mkv rfl) (fun w _ _ => Tryd.strings_Contains_one (bs s) c w)

/-- Printable, and no number sign. -/
def plainB (b : UInt8) : Bool := decide (32 ≤ (b.toNat : Int) ∧ (b.toNat : Int) ≤ 126 ∧ (b.toNat : Int) ≠ 35)
def plain (s : List UInt8) : Bool := s.all plainB
def record (r : LogRecord) : Bool := inR r.command.length 1 160 && decide (r.reply.length ≤ 200) && plain r.command && plain r.reply && !(r.command.contains 64)
theorem all_take_false {α : Type} {p : α → Bool} {l : List α} {i : Nat} (h : i < l.length) (hp : p l[i] = false) : l.all p = false := by
  rw [← Bool.not_eq_true, List.all_eq_true]
  intro h'
  rw [h' _ (List.getElem_mem h)] at hp; cases hp

theorem s_l1Stands (s : List UInt8) (c : UInt8) : PCall Tryd.prog n_s_l1Stands [S s, Y c] (B (s.contains c)) := by
  refine PCall.ofL fn_s_l1Stands (by simp) fun hs => ?_
  simp at hs
  simp [c_s_l1Stands, r_s_l1Stands_0, r_s_l1Stands_1, r_s_l1Stands_7]
  refine loopK (fun i : Nat => ⟨[(0, S s), (1, Y c), (5, I i)], [], []⟩) (fun i => s.length - i) (fun i => i ≤ s.length ∧ (s.take i).contains c = false) 0 (Wk.list rfl (by simp) (by simp)) (by simp) ?_
  rintro i ⟨hi, hj⟩ K hN hR hE
  simp [r_s_l1Stands_2, l_s_l1Stands_6]
  refine ⟨fun hlt => ?_, fun hge => ?_⟩
  · simp [r_s_l1Stands_3, hlt]
    refine ⟨fun h => ?_, fun h => ?_⟩
    · simp [r_s_l1Stands_4]
      refine hR _ ?_
      simp only [blockK_ret]
      have : c ∈ s := by rw [← h]; exact List.getElem_mem _
      simp [this]
    · simp [r_s_l1Stands_5]
      rw [wrap64 (by omega) (by omega)]
      refine hN (i + 1) _ (by omega) ⟨by omega, ?_⟩ (Wk.list rfl (by simp) (by simp))
      have hj' : c ∉ s.take i := by simpa using hj
      have : c ∉ s.take (i + 1) := by
        rw [← List.take_append_getElem hlt, List.mem_append]
        rintro (h' | h')
        · exact hj' h'
        · exact h (List.mem_singleton.1 h').symm
      simpa using this
  · refine hE _ _ ?_
    rw [List.take_of_length_le (by omega)] at hj
    simp only [blockK_exit]
    simp at hj ⊢
    exact hj

theorem i_isPlain (s : List UInt8) : PCall Tryd.prog n_i_isPlain [S s] (B (plain s)) := by
  refine PCall.ofL fn_i_isPlain (by simp) fun hs => ?_
  simp at hs
  simp [c_i_isPlain, r_i_isPlain_0, r_i_isPlain_1, r_i_isPlain_7]
  refine loopK (fun i : Nat => ⟨[(0, S s), (3, I i)], [], []⟩) (fun i => s.length - i) (fun i => i ≤ s.length ∧ (s.take i).all plainB = true) 0 (Wk.list rfl (by simp) (by simp)) (by simp) ?_
  rintro i ⟨hi, hj⟩ K hN hR hE
  simp [r_i_isPlain_2, l_i_isPlain_6]
  refine ⟨fun hlt => ?_, fun hge => ?_⟩
  · have hno : plainB s[i] = false → ∀ hp, K .ret ⟨[(2, B false)], hp, []⟩ := fun h hp => hR _ (by simp only [blockK_ret]; simp [plain, all_take_false hlt h])
    have hyes : plainB s[i] = true → ∀ hp, K .normal ⟨[(0, S s), (3, I ((i : Int) + 1))], hp, []⟩ := fun h hp => hN (i + 1) _ (by omega) ⟨by omega, by rw [all_take_succ hlt, hj, h]; rfl⟩ (Wk.list rfl (by simp) (by simp))
    simp [r_i_isPlain_3, hlt]
    obtain ⟨b, e⟩ : ∃ b, s[i] = b := ⟨_, rfl⟩
    rw [e] at hno hyes ⊢
    refine ⟨fun h1 => ⟨fun h2 => ⟨fun h3 => ?_, fun h3 => ?_⟩, fun h2 => ?_⟩, fun h1 => ?_⟩
    · simp [r_i_isPlain_4, h3]
      exact hno (by simp [plainB]; omega) _
    · simp [r_i_isPlain_5, h3]
      rw [wrap64 (by omega) (by omega)]
      exact hyes (by simp [plainB]; omega) _
    · simp [r_i_isPlain_4]
      exact hno (by simp [plainB]; omega) _
    · simp [r_i_isPlain_4]
      exact hno (by simp [plainB]; omega) _
  · refine hE _ _ ?_
    rw [List.take_of_length_le (by omega)] at hj
    simp only [blockK_exit]
    simp [plain, hj]

theorem s_l27Plain (s : List UInt8) (n : Int) : PCall Tryd.prog n_s_l27Plain [S s, I n] (B (plain s && decide ((s.length : Int) ≤ n))) := by
  refine PCall.ofL fn_s_l27Plain (by simp) fun hs => ?_
  simp at hs
  simp [c_s_l27Plain, r_s_l27Plain_0, r_s_l27Plain_1, r_s_l27Plain_7]
  refine loopK (fun i : Nat => ⟨[(0, S s), (1, I n), (5, I i)], [], []⟩) (fun i => s.length - i) (fun i => i ≤ s.length ∧ (s.take i).all plainB = true) 0 (Wk.list rfl (by simp) (by simp)) (by simp) ?_
  rintro i ⟨hi, hj⟩ K hN hR hE
  simp [r_s_l27Plain_2, l_s_l27Plain_6]
  refine ⟨fun hlt => ?_, fun hge => ?_⟩
  · have hno : plainB s[i] = false → ∀ hp, K .ret ⟨[(4, B false)], hp, []⟩ := fun h hp => hR _ (by simp only [blockK_ret]; simp [plain, all_take_false hlt h])
    have hyes : plainB s[i] = true → ∀ hp, K .normal ⟨[(0, S s), (1, I n), (5, I ((i : Int) + 1))], hp, []⟩ := fun h hp => hN (i + 1) _ (by omega) ⟨by omega, by rw [all_take_succ hlt, hj, h]; rfl⟩ (Wk.list rfl (by simp) (by simp))
    have hb := s[i].toNat_lt
    obtain ⟨b, e⟩ : ∃ b, s[i] = b := ⟨_, rfl⟩
    rw [e] at hno hyes hb
    simp [r_s_l27Plain_3, hlt, e]
    rw [wrap64 (by omega) (by omega)]
    refine callQ_v (s_l1In ..) ?_
    cases h1 : inR (b.toNat : Int) 32 126 with
    | false =>
      have h1 := inR_not.1 h1
      simp [r_s_l27Plain_4]
      exact hno (by simp [plainB]; omega) _
    | true =>
      have h1 := inR_iff.1 h1
      simp [hlt, e]
      refine ⟨fun h3 => ?_, fun h3 => ?_⟩
      · simp [r_s_l27Plain_4, h3]
        exact hno (by simp [plainB]; omega) _
      · simp [r_s_l27Plain_5, h3]
        rw [wrap64 (by omega) (by omega)]
        exact hyes (by simp [plainB]; omega) _
  · refine hE _ _ ?_
    rw [List.take_of_length_le (by omega)] at hj
    simp only [blockK_exit]
    simp [plain, hj]

theorem i_IsValidRecord (r : LogRecord) : PCall Tryd.prog n_i_IsValidRecord [eLogRecord r] (B (record r)) := by
  refine PCall.ofL fn_i_IsValidRecord (by simp) fun hl => ?_
  simp at hl
  simp [c_i_IsValidRecord, r_i_IsValidRecord_0, r_i_IsValidRecord_1]
  refine callQ_v (i_inside ..) ?_
  cases h1 : inR r.command.length 1 160 with
  | false => simp [record, h1]
  | true =>
  by_cases h2 : r.reply.length ≤ 200
  rotate_left
  · have : ¬ (r.reply.length : Int) ≤ 200 := by omega
    simp [record, h1, h2, this]
  have h2' : (r.reply.length : Int) ≤ 200 := by omega
  simp [h2']
  refine callQ_v (i_isPlain ..) ?_
  cases h3 : plain r.command with
  | false => simp [record, h1, h2, h3]
  | true =>
  simp
  refine callQ_v (i_isPlain ..) ?_
  cases h4 : plain r.reply with
  | false => simp [record, h1, h2, h3, h4]
  | true =>
  simp
  refine callQ_v (strings_Contains ..) ?_
  simp [record, h1, h2, h3, h4]

theorem record_ne {r : LogRecord} : (r.command.length ≠ 0 ∧ (r.command.length : Int) ≤ 160) ↔ inR r.command.length 1 160 = true := by
  rw [inR_iff]; omega

theorem s_l27Good (r : LogRecord) : PCall Tryd.prog n_s_l27Good [eLogRecord r] (B (record r)) := by
  refine PCall.ofL fn_s_l27Good (by simp) fun hl => ?_
  simp at hl
  simp [c_s_l27Good, r_s_l27Good_0, r_s_l27Good_1]
  refine ⟨fun h0 => ?_, fun h0 => by simp [record, h0, inR]⟩
  have h0 : 0 < r.command.length := List.length_pos_iff.2 h0
  refine callQ_v (s_l27Plain ..) ?_
  have h1 : (plain r.command && decide ((r.command.length : Int) ≤ 160)) = (inR r.command.length 1 160 && plain r.command) := by
    rw [Bool.and_comm]; congr 1
    rw [Bool.eq_iff_iff, inR_iff, decide_eq_true_iff]; omega
  rw [h1]
  cases h1 : inR r.command.length 1 160 with
  | false => simp [record, h1]
  | true =>
  cases h2 : plain r.command with
  | false => simp [record, h1, h2]
  | true =>
  simp
  refine callQ_v (s_l1Stands r.command 64) ?_
  cases h3 : r.command.contains 64 with
  | true => simp at h3; simp [record, h1, h2, h3]
  | false =>
  simp
  refine callQ_v (s_l27Plain ..) ?_
  have h4 : ((r.reply.length : Int) ≤ 200) = (r.reply.length ≤ 200) := by apply propext; omega
  simp at h3
  simp [record, h1, h2, h3, h4, Bool.and_comm]

theorem s_IsValidRecord (r : LogRecord) : PCall Tryd.prog n_s_IsValidRecord [eLogRecord r] (B (record r)) := by
  refine PCall.of fn_s_IsValidRecord (by simp) ?_
  simp [c_s_IsValidRecord, r_s_IsValidRecord_0, r_s_IsValidRecord_1]
  exact callQ_v (s_l27Good ..) (by simp)

end Go.Proofs.YtgefdcllialhkaaDoor
