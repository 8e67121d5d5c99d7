/- A crash of the log; in the program and in the reference. -/
import Derived.Test.YtgefdcllialhkaaDoorCodeCrash
import Derived.Test.YtgefdcllialhkaaDoorLogLaws
set_option linter.unusedVariables false
set_option linter.unusedSimpArgs false
namespace Go.Proofs.YtgefdcllialhkaaDoor
open Go.Abs

/-- The kept part of what is pending, its last byte spoilt where it is torn. -/
def tornT (t : List UInt8) (b : Bool) : List UInt8 := if b then t.set (t.length - 1) (255 - t.getD (t.length - 1) 0) else t
def crashOk (l : Log) (n : Int) : Bool := logOk l && inR n 0 l.pending.length
def crashT (l : Log) (n : Int) (b : Bool) : List UInt8 := if crashOk l n then l.durable ++ tornT (l.pending.take n.toNat) b else []
theorem sub255 (x : UInt8) : IntKind.u8.wrap (255 - (x.toNat : Int)) = ((255 - x : UInt8).toNat : Int) := by
  have h := UInt8.toNat_lt x
  have e : (255 - x : UInt8).toNat = 255 - x.toNat := by
    rw [UInt8.toNat_sub]
    show (2 ^ 8 - x.toNat + 255) % 2 ^ 8 = 255 - x.toNat
    omega
  have h1 : IntKind.u8.signed = false := rfl
  have h2 : IntKind.u8.bits = 8 := rfl
  rw [e]
  simp only [IntKind.wrap, h1, h2, Bool.false_and, Bool.false_eq_true, if_false]
  omega
theorem i_CrashLog (l : Log) (n : Int) (b : Bool) (hf : fits l) : PCall Tryd.prog n_i_CrashLog [eLog l, I n, B b] (.tup [S (crashT l n b), B (crashOk l n)]) := by
  refine PCall.of fn_i_CrashLog (by simp) ?_
  simp [c_i_CrashLog, r_i_CrashLog_0, r_i_CrashLog_1]
  refine callQ_v (PCall.arg (i_IsValidLog l hf) (by simp)) ?_
  cases h1 : logOk l with
  | false => simp [r_i_CrashLog_2, crashT, crashOk, h1]
  | true =>
  simp
  refine callQ_v (i_inside ..) ?_
  cases h2 : inR n 0 l.pending.length with
  | false => simp [r_i_CrashLog_2, crashT, crashOk, h1, h2]
  | true =>
  have h2' := inR_iff.1 h2
  have hfl := hf
  unfold fits at hfl
  obtain ⟨k, rfl⟩ : ∃ k : Nat, n = k := ⟨n.toNat, by omega⟩
  simp [r_i_CrashLog_3]
  refine ⟨by omega, ?_⟩
  have hTl : (l.pending.take k).length = k := by rw [List.length_take]; omega
  have hT : crashT l k b = l.durable ++ tornT (l.pending.take k) b := by simp [crashT, crashOk, h1, h2]
  have hO : crashOk l k = true := by simp [crashOk, h1, h2]
  rw [hT, hO]
  by_cases hk : k = 0
  · subst hk
    simp [r_i_CrashLog_4]
    cases b with
    | false =>
      simp [r_i_CrashLog_6, tornT]
      omega
    | true =>
      simp [r_i_CrashLog_6, tornT]
      omega
  · have hpn : l.pending ≠ [] := by
      intro e
      rw [e] at h2'
      simp at h2'
      omega
    rw [if_neg (by simp [hk, hpn]), ← List.map_take, Nat.min_eq_left (by omega)]
    generalize l.pending.take k = t at hTl ⊢
    simp [r_i_CrashLog_4]
    cases b with
    | false =>
      simp [r_i_CrashLog_6]
      rw [if_pos (by omega)]
      simp [tornT]
      rw [List.take_of_length_le (by simp; omega), bytesOf_Y]
      simp [tornT]
      omega
    | true =>
      have hk1 : k - 1 < t.length := by omega
      have hset : tornT t true = t.set (k - 1) (255 - t[k - 1]) := by
        have : t.getD (k - 1) 0 = t[k - 1] := by simp [hk1]
        rw [tornT, if_pos rfl, hTl, this]
      simp [r_i_CrashLog_5]
      refine ⟨fun _ => ?_, fun h0 => absurd h0 hk⟩
      rw [wrap64 (n := (k : Int) - 1) (by omega) (by omega), show ((k : Int) - 1).toNat = k - 1 by omega]
      refine ⟨by omega, ?_⟩
      simp [hk1]
      refine ⟨by omega, ?_⟩
      rw [sub255, ← List.map_set, hset]
      simp [r_i_CrashLog_6]
      rw [if_pos (by omega)]
      simp
      rw [← List.map_set, List.take_of_length_le (by simp; omega), bytesOf_Y]
      simp
      omega
theorem s_CrashLog (l : Log) (n : Int) (b : Bool) (hf : fits l) : PCall Tryd.prog n_s_CrashLog [eLog l, I n, B b] (.tup [S (crashT l n b), B (crashOk l n)]) := by
  refine PCall.of fn_s_CrashLog (by simp) ?_
  simp [c_s_CrashLog, r_s_CrashLog_0, r_s_CrashLog_1]
  refine callQ_v (PCall.arg (s_l27Log l hf) (by simp)) ?_
  cases h1 : logOk l with
  | false => simp [r_s_CrashLog_2, crashT, crashOk, h1]
  | true =>
  simp
  refine callQ_v (s_l1In ..) ?_
  cases h2 : inR n 0 l.pending.length with
  | false => simp [r_s_CrashLog_2, crashT, crashOk, h1, h2]
  | true =>
  have h2' := inR_iff.1 h2
  have hfl := hf
  unfold fits at hfl
  obtain ⟨k, rfl⟩ : ∃ k : Nat, n = k := ⟨n.toNat, by omega⟩
  simp [r_s_CrashLog_3]
  refine ⟨by omega, ?_⟩
  have hTl : (l.pending.take k).length = k := by rw [List.length_take]; omega
  have hT : crashT l k b = l.durable ++ tornT (l.pending.take k) b := by simp [crashT, crashOk, h1, h2]
  have hO : crashOk l k = true := by simp [crashOk, h1, h2]
  rw [hT, hO]
  by_cases hk : k = 0
  · subst hk
    simp [r_s_CrashLog_4]
    cases b with
    | false =>
      simp [r_s_CrashLog_6, tornT]
      omega
    | true =>
      simp [r_s_CrashLog_6, tornT]
      omega
  · have hpn : l.pending ≠ [] := by
      intro e
      rw [e] at h2'
      simp at h2'
      omega
    rw [if_neg (by simp [hk, hpn]), ← List.map_take, Nat.min_eq_left (by omega)]
    generalize l.pending.take k = t at hTl ⊢
    simp [r_s_CrashLog_4]
    cases b with
    | false =>
      simp [r_s_CrashLog_6]
      rw [if_pos (by omega)]
      simp [tornT]
      rw [List.take_of_length_le (by simp; omega), bytesOf_Y]
      simp [tornT]
      omega
    | true =>
      have hk1 : k - 1 < t.length := by omega
      have hset : tornT t true = t.set (k - 1) (255 - t[k - 1]) := by
        have : t.getD (k - 1) 0 = t[k - 1] := by simp [hk1]
        rw [tornT, if_pos rfl, hTl, this]
      simp [r_s_CrashLog_5]
      refine ⟨fun _ => ?_, fun h0 => absurd h0 hk⟩
      rw [wrap64 (n := (k : Int) - 1) (by omega) (by omega), show ((k : Int) - 1).toNat = k - 1 by omega]
      refine ⟨by omega, ?_⟩
      simp [hk1]
      refine ⟨by omega, ?_⟩
      rw [sub255, ← List.map_set, hset]
      simp [r_s_CrashLog_6]
      rw [if_pos (by omega)]
      simp
      rw [← List.map_set, List.take_of_length_le (by simp; omega), bytesOf_Y]
      simp
      omega
end Go.Proofs.YtgefdcllialhkaaDoor
