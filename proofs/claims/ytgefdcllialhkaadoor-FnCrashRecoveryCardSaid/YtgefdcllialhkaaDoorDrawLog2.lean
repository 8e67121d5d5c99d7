/- Draws of the laws of the log. -/
import Derived.Test.YtgefdcllialhkaaDoorCodeDrawLog2
import Derived.Test.YtgefdcllialhkaaDoorDrawLog
set_option linter.unusedVariables false
set_option linter.unusedSimpArgs false
namespace Go.Proofs.YtgefdcllialhkaaDoor
open Go.Abs

theorem s_l27Line_any (k : Nat) (e : LogRecord) (hk : k < 100) (h1 : e.command.length ≤ 1000) (h2 : e.reply.length ≤ 1000) : (enc k e).length ≤ 3000 ∧ PCall Tryd.prog n_s_l27Line [I k, eLogRecord e] (S (enc k e ++ [10])) := by
  have hl := digits_len 1 k (by omega)
  have hL : (body k e).length ≤ 2100 := by unfold body; simp; omega
  have hE : (sealT (body k e)).length ≤ 3000 := by
    have h2 := digits_len 5 (sumT (body k e)).toNat (by have := sumT_bounds (body k e); omega)
    unfold sealT
    simp only [List.length_append, List.length_cons]
    omega
  refine ⟨hE, ?_⟩
  refine PCall.of fn_s_l27Line (by simp) ?_
  simp [c_s_l27Line, r_s_l27Line_0, r_s_l27Line_1, p_s_l27Line_1]
  refine callD_v (s_l1Num k (by omega)) ?_ ?_ ?_
  · simp
  · simp
  simp
  refine ⟨by omega, by omega, by omega, by omega, ?_⟩
  refine callD_v (PCall.arg (s_l1Seal (body k e) (by omega)) (by simp [body])) ?_ ?_ ?_
  · simp
  · simp
  simp [enc]
  exact ⟨by omega, oEnd_of (by first | kernel_rfl | simp) (by first | kernel_rfl | simp)⟩
def Mid (l : Log) : Prop := l.durable.length + l.pending.length ≤ 50000 ∧ l.pending.length ≤ 23001
theorem Mid.fits {l : Log} (h : Mid l) : fits l := by unfold Mid at h; unfold Go.Proofs.YtgefdcllialhkaaDoor.fits; omega
theorem s_l1Cur_anyLog (code : List UInt8) (k : Nat) (s : Int) (hk : k ≤ 1000000) : ∃ (l : Log) (k' : Nat) (s' : Int), (Mid l ∧ (k ≤ k' ∧ k' ≤ k + 300)) ∧
    MCall Tryd.prog n_s_l1Cur_anyLog [curB code k s] [cR] (eLog l) [some (curB code k' s')] := by
  obtain ⟨l, k1, s1, ⟨hl, hk1⟩, hM1⟩ := s_l1Cur_log code k s hk
  obtain ⟨x, k2, s2, ⟨hx, hk2⟩, hM2⟩ := s_l1Cur_pick code k1 s1 24 (by omega) (by omega)
  obtain ⟨hl1, hl2, hl3⟩ := hl
  obtain ⟨v, k3, s3, ⟨hv, hk3⟩, hM3⟩ := s_l1Cur_spoilt code k2 s2 l.pending [35, 64, 10, 48, 49] (by omega) (by simp) (by simp) (by omega)
  have main : ∀ (a : Log) (k' : Nat) (s' : Int), ((x = 0 ∧ a = ⟨l.durable, l.pending, l.count + 1⟩ ∧ k' = k2 ∧ s' = s2) ∨ (x = 1 ∧ a = ⟨l.durable, v, l.count⟩ ∧ k' = k3 ∧ s' = s3) ∨ (x = 2 ∧ a = ⟨l.durable ++ l.pending, l.pending, l.count⟩ ∧ k' = k2 ∧ s' = s2) ∨
      ((x ≠ 0 ∧ x ≠ 1 ∧ x ≠ 2) ∧ a = l ∧ k' = k2 ∧ s' = s2)) → MCall Tryd.prog n_s_l1Cur_anyLog [curB code k s] [cR] (eLog a) [some (curB code k' s')] := by
    intro a k' s' hfin
    refine MCall.of fn_s_l1Cur_anyLog (by simp) rfl (by simp) ?_
    simp [c_s_l1Cur_anyLog, r_s_l1Cur_anyLog_0, r_s_l1Cur_anyLog_1]
    refine callQ_Mz [1000000] [] (MCall.arg hM1 (by simp)) (by simp) (by simp) (by simp) (by simp) (by simp) (by first | rfl | simp) (by simp) ?_
    simp [r_s_l1Cur_anyLog_2]
    refine callQ_Mz [1000000] [] (MCall.arg hM2 (by simp)) (by simp) (by simp) (by simp) (by simp) (by simp) (by first | rfl | simp) (by simp) ?_
    rcases hfin with ⟨rfl, rfl, rfl, rfl⟩ | ⟨rfl, rfl, rfl, rfl⟩ | ⟨rfl, rfl, rfl, rfl⟩ | ⟨⟨n0, n1, n2⟩, rfl, rfl, rfl⟩
    · simp [r_s_l1Cur_anyLog_3, r_s_l1Cur_anyLog_4, r_s_l1Cur_anyLog_9]
      rw [wrap64 (by omega) (by omega)]
    · simp [r_s_l1Cur_anyLog_3, r_s_l1Cur_anyLog_5, r_s_l1Cur_anyLog_6]
      refine callQ_Mz [1000000] [] (MCall.arg hM3 (by simp)) (by simp) (by simp) (by simp) (by simp) (by simp) (by first | rfl | simp) (by simp) ?_
      simp [r_s_l1Cur_anyLog_9]
    · simp [r_s_l1Cur_anyLog_3, r_s_l1Cur_anyLog_5, r_s_l1Cur_anyLog_7, r_s_l1Cur_anyLog_8, r_s_l1Cur_anyLog_9]
      omega
    · simp [r_s_l1Cur_anyLog_3, r_s_l1Cur_anyLog_5, r_s_l1Cur_anyLog_7, r_s_l1Cur_anyLog_9, n0, n1, n2]
  by_cases c0 : x = 0
  · exact ⟨_, _, _, ⟨⟨by dsimp only; omega, by dsimp only; omega⟩, by omega⟩, main _ _ _ (.inl ⟨c0, rfl, rfl, rfl⟩)⟩
  by_cases c1 : x = 1
  · exact ⟨_, _, _, ⟨⟨by dsimp only; omega, by dsimp only; omega⟩, by omega⟩, main _ _ _ (.inr (.inl ⟨c1, rfl, rfl, rfl⟩))⟩
  by_cases c2 : x = 2
  · exact ⟨_, _, _, ⟨⟨by dsimp only; rw [List.length_append]; omega, by dsimp only; omega⟩, by omega⟩, main _ _ _ (.inr (.inr (.inl ⟨c2, rfl, rfl, rfl⟩)))⟩
  · exact ⟨_, _, _, ⟨⟨by omega, by omega⟩, by omega⟩, main _ _ _ (.inr (.inr (.inr ⟨⟨c0, c1, c2⟩, rfl, rfl, rfl⟩)))⟩
theorem s_DrawEncodeRecord (code : List UInt8) : ∃ (n : Int) (e : LogRecord), PCall Tryd.prog n_s_DrawEncodeRecord [.ro 1 (code.map Y)] (.tup [I n, eLogRecord e]) := by
  obtain ⟨n, k1, s1, ⟨hn, hk1⟩, hM1⟩ := s_l1Cur_among code 0 0 [0, 1, 12, 59, 60, -1] (by omega) (by simp) (by simp)
  obtain ⟨e, k2, s2, ⟨he, hk2⟩, hM2⟩ := s_l1Cur_logRecord code k1 s1 (by omega)
  refine ⟨n, e, ?_⟩
  refine PCall.of fn_s_DrawEncodeRecord (by simp) ?_
  simp [c_s_DrawEncodeRecord, r_s_DrawEncodeRecord_0, r_s_DrawEncodeRecord_1, r_s_DrawEncodeRecord_2]
  refine callQ_Mz [8] [10] (MCall.arg hM1 (by simp)) (by simp) (by simp) (by simp) (by simp) (by simp) (by first | rfl | simp) (by simp) ?_
  simp [r_s_DrawEncodeRecord_3]
  refine callQ_Mz [8] [] (MCall.arg hM2 (by simp)) (by simp) (by simp) (by simp) (by simp) (by simp) (by first | rfl | simp) (by simp) ?_
  simp
theorem s_DrawCrashLog (code : List UInt8) : ∃ (l : Log) (n : Int) (b : Bool), Mid l ∧ PCall Tryd.prog n_s_DrawCrashLog [.ro 1 (code.map Y)] (.tup [eLog l, I n, B b]) := by
  obtain ⟨l, k1, s1, ⟨hl, hk1⟩, hM1⟩ := s_l1Cur_anyLog code 0 0 (by omega)
  have hl' := hl
  unfold Mid at hl'
  obtain ⟨v, k2, s2, ⟨hv, hk2⟩, hM2⟩ := s_l1Cur_pick code k1 s1 ((l.pending.length : Int) + 3) (by omega) (by omega)
  obtain ⟨b, k3, s3, hk3, hM3⟩ := s_l1Cur_one code k2 s2 2 (by omega) (by omega)
  refine ⟨l, v - 1, b, hl, ?_⟩
  refine PCall.of fn_s_DrawCrashLog (by simp) ?_
  simp [c_s_DrawCrashLog, r_s_DrawCrashLog_0, r_s_DrawCrashLog_1, r_s_DrawCrashLog_2]
  refine callQ_Mz [10] [] (MCall.arg hM1 (by simp)) (by simp) (by simp) (by simp) (by simp) (by simp) (by first | rfl | simp) (by simp) ?_
  simp [r_s_DrawCrashLog_3]
  rw [wrap64 (by omega) (by omega)]
  refine callQ_Mz [10] [] (MCall.arg hM2 (by simp)) (by simp) (by simp) (by simp) (by simp) (by simp) (by first | rfl | simp) (by simp) ?_
  simp [r_s_DrawCrashLog_4, p_s_DrawCrashLog_4]
  rw [wrap64 (by omega) (by omega)]
  refine callD_M [10] [] (l := [_]) (MCall.arg hM3 (by simp)) (by simp) (by simp) (by simp) (by simp) (by simp) (by first | rfl | simp) (by simp) (by simp) ?_
  simp
  exact oEnd_of (by simp [p_s_DrawCrashLog_4]) (by simp)
def fillL : Nat → Log
  | 0 => ⟨[], [], 0⟩
  | n + 1 => appendL (fillL n) ⟨[120], []⟩
theorem fillL_small : ∀ n, Small (fillL n)
  | 0 => Small.zero
  | n + 1 => (fillL_small n).append _
set_option maxHeartbeats 1000000 in
theorem s_DrawAppendRecord (code : List UInt8) : ∃ (l : Log) (e : LogRecord), fits l ∧ PCall Tryd.prog n_s_DrawAppendRecord [.ro 1 (code.map Y)] (.tup [eLog l, eLogRecord e]) := by
  obtain ⟨l, k1, s1, ⟨hl, hk1⟩, hM1⟩ := s_l1Cur_anyLog code 0 0 (by omega)
  obtain ⟨b, k2, s2, hk2, hM2⟩ := s_l1Cur_one code k1 s1 40 (by omega) (by omega)
  cases b with
  | false =>
    obtain ⟨e, k3, s3, ⟨he, hk3⟩, hM3⟩ := s_l1Cur_logRecord code k2 s2 (by omega)
    refine ⟨l, e, hl.fits, ?_⟩
    refine PCall.of fn_s_DrawAppendRecord (by simp) ?_
    simp [c_s_DrawAppendRecord, r_s_DrawAppendRecord_0, r_s_DrawAppendRecord_1, r_s_DrawAppendRecord_2]
    refine callQ_Mz [9] [] (MCall.arg hM1 (by simp)) (by simp) (by simp) (by simp) (by simp) (by simp) (by first | rfl | simp) (by simp) ?_
    simp [r_s_DrawAppendRecord_3]
    refine callQ_Mz [9] [] (MCall.arg hM2 (by simp)) (by simp) (by simp) (by simp) (by simp) (by simp) (by first | rfl | simp) (by simp) ?_
    simp [r_s_DrawAppendRecord_10, p_s_DrawAppendRecord_10]
    refine callD_M [9] [] (l := [_]) (MCall.arg hM3 (by simp)) (by simp) (by simp) (by simp) (by simp) (by simp) (by first | rfl | simp) (by simp) (by simp) ?_
    simp
    exact oEnd_of (by simp [p_s_DrawAppendRecord_10]) (by simp)
  | true =>
    obtain ⟨v, k3, s3, ⟨hv, hk3⟩, hM3⟩ := s_l1Cur_pick code k2 s2 2 (by omega) (by omega)
    obtain ⟨e, k4, s4, ⟨he, hk4⟩, hM4⟩ := s_l1Cur_logRecord code k3 s3 (by omega)
    obtain ⟨n, hn⟩ : ∃ n : Nat, 59 + v = n := ⟨(59 + v).toNat, by omega⟩
    refine ⟨fillL n, e, (fillL_small n).fits, ?_⟩
    refine PCall.of fn_s_DrawAppendRecord (by simp) ?_
    simp [c_s_DrawAppendRecord, r_s_DrawAppendRecord_0, r_s_DrawAppendRecord_1, r_s_DrawAppendRecord_2]
    refine callQ_Mz [9] [] (MCall.arg hM1 (by simp)) (by simp) (by simp) (by simp) (by simp) (by simp) (by first | rfl | simp) (by simp) ?_
    simp [r_s_DrawAppendRecord_3]
    refine callQ_Mz [9] [] (MCall.arg hM2 (by simp)) (by simp) (by simp) (by simp) (by simp) (by simp) (by first | rfl | simp) (by simp) ?_
    simp [r_s_DrawAppendRecord_4, r_s_DrawAppendRecord_5, l_s_DrawAppendRecord_9]
    refine callQ_Mz [9] [] (MCall.arg hM3 (by simp)) (by simp) (by simp) (by simp) (by simp) (by simp) (by first | rfl | simp) (by simp) ?_
    simp
    rw [wrap64 (by omega) (by omega), hn]
    refine loopK (fun j : Nat => ⟨[(2, .ref 2 0 0), (3, .ref 3 0 0), (4, .ref 9 0 0), (5, .ref 5 0 0), (6, I ((n : Int) - j))], [(9, curB code k3 s3), (5, ⟨3, [eLog (fillL j)]⟩), (3, ⟨2, [eLogRecord ⟨[], []⟩]⟩), (2, ⟨3, [eLog ⟨[], [], 0⟩]⟩)], []⟩) (fun j => n - j) (fun j => j ≤ n) 0 (Wk.list rfl (by simp) (by simp [fillL])) (by simp) ?_
    intro j hj K hN hR hE
    have hs := fillL_small j
    simp [r_s_DrawAppendRecord_6, r_s_DrawAppendRecord_8]
    refine ⟨fun hlt => ?_, fun hge => ?_⟩
    · simp [r_s_DrawAppendRecord_7]
      refine callQ_of (PCall.arg (s_AppendRecord (fillL j) ⟨[120], []⟩ hs.fits) (by simp)) rfl (.inl (by simp)) (by simp) ?_
      simp
      rw [wrap64 (by omega) (by omega)]
      refine hN (j + 1) _ (by omega) (by omega) (Wk.list rfl ?_ ?_)
      · simp; omega
      · simp [fillL]
    · obtain rfl : j = n := by omega
      refine hE _ _ ?_
      simp only [blockK_exit]
      simp [r_s_DrawAppendRecord_10, p_s_DrawAppendRecord_10]
      refine callD_M [9] [] (l := [_]) (MCall.arg hM4 (by simp)) (by simp) (by simp) (by simp) (by simp) (by simp) (by first | rfl | simp) (by simp) (by simp) ?_
      simp
      exact oEnd_of (by simp [p_s_DrawAppendRecord_10]) (by simp)
theorem bytes_zeros : ∀ n : Nat, bytesOf (List.replicate n (.v (.int .u8 0))) = some (List.replicate n 0)
  | 0 => rfl
  | n + 1 => by
    rw [List.replicate_succ, List.replicate_succ]
    simp only [bytesOf, bytes_zeros n, Option.map_some]
    rfl
set_option maxHeartbeats 1000000 in
theorem s_DrawRecoverLog (code : List UInt8) : ∃ t : List UInt8, PCall Tryd.prog n_s_DrawRecoverLog [.ro 1 (code.map Y)] (S t) := by
  obtain ⟨l, k1, s1, ⟨hl, hk1⟩, hM1⟩ := s_l1Cur_log code 0 0 (by omega)
  have hll : (l.durable ++ l.pending).length ≤ 23000 := by rw [List.length_append]; exact hl.1
  have hl1 := hl.1
  obtain ⟨x, k2, s2, ⟨hx, hk2⟩, hM2⟩ := s_l1Cur_pick code k1 s1 4 (by omega) (by omega)
  obtain ⟨v, k3, s3, ⟨hv, hk3⟩, hM3⟩ := s_l1Cur_spoilt code k2 s2 (l.durable ++ l.pending) [35, 64, 10, 48, 49] (by omega) (by simp) (by simp) (by omega)
  obtain ⟨i, k4, s4, ⟨hi, hk4⟩, hM4⟩ := s_l1Cur_pick code k2 s2 ((l.durable.length : Int) + l.pending.length + 1) (by omega) (by omega)
  obtain ⟨w, k5, s5, ⟨hw, hk5⟩, hM5⟩ := s_l1Cur_pick code k2 s2 4 (by omega) (by omega)
  obtain ⟨e, k6, s6, ⟨he, hk6⟩, hM6⟩ := s_l1Cur_logRecord code k5 s5 (by omega)
  obtain ⟨i, rfl⟩ : ∃ n : Nat, i = n := ⟨i.toNat, by omega⟩
  obtain ⟨w, rfl⟩ : ∃ n : Nat, w = n := ⟨w.toNat, by omega⟩
  obtain ⟨hle, hPL⟩ := s_l27Line_any w e (by omega) (by omega) (by omega)
  obtain ⟨t, kt, st, hkt, hst⟩ : ∃ (t : List UInt8) (kt : Nat) (st : Int), kt ≤ 100000 ∧ ((x = 0 ∧ t = v ∧ kt = k3 ∧ st = s3) ∨ (x = 1 ∧ t = (l.durable ++ l.pending).take i ∧ kt = k4 ∧ st = s4) ∨ (x = 2 ∧ t = (l.durable ++ l.pending) ++ (enc w e ++ [10]) ∧ kt = k6 ∧ st = s6) ∨ ((x ≠ 0 ∧ x ≠ 1 ∧ x ≠ 2) ∧ t = l.durable ++ l.pending ∧ kt = k2 ∧ st = s2)) := by
    by_cases c0 : x = 0
    · exact ⟨_, _, _, by omega, .inl ⟨c0, rfl, rfl, rfl⟩⟩
    by_cases c1 : x = 1
    · exact ⟨_, _, _, by omega, .inr (.inl ⟨c1, rfl, rfl, rfl⟩)⟩
    by_cases c2 : x = 2
    · exact ⟨_, _, _, by omega, .inr (.inr (.inl ⟨c2, rfl, rfl, rfl⟩))⟩
    · exact ⟨_, _, _, by omega, .inr (.inr (.inr ⟨⟨c0, c1, c2⟩, rfl, rfl, rfl⟩))⟩
  obtain ⟨b, k7, s7, hk7, hM7⟩ := s_l1Cur_one code kt st 40 (by omega) (by omega)
  obtain ⟨z, k8, s8, ⟨hz, hk8⟩, hM8⟩ := s_l1Cur_pick code k7 s7 2 (by omega) (by omega)
  obtain ⟨n, hn⟩ : ∃ n : Nat, 30000 + z = n := ⟨(30000 + z).toNat, by omega⟩
  refine ⟨if b then List.replicate n 0 else t, ?_⟩
  refine PCall.of fn_s_DrawRecoverLog (by simp) ?_
  simp [c_s_DrawRecoverLog, r_s_DrawRecoverLog_0, r_s_DrawRecoverLog_1, r_s_DrawRecoverLog_2]
  refine callQ_Mz [8] [] (MCall.arg hM1 (by simp)) (by simp) (by simp) (by simp) (by simp) (by simp) (by first | rfl | simp) (by simp) ?_
  simp [r_s_DrawRecoverLog_3]
  refine ⟨by omega, ?_⟩
  simp [r_s_DrawRecoverLog_4]
  refine callQ_Mz [8] [] (MCall.arg hM2 (by simp)) (by simp) (by simp) (by simp) (by simp) (by simp) (by first | rfl | simp) (by simp) ?_
  rcases hst with ⟨rfl, rfl, rfl, rfl⟩ | ⟨rfl, rfl, rfl, rfl⟩ | ⟨rfl, rfl, rfl, rfl⟩ | ⟨⟨n0, n1, n2⟩, rfl, rfl, rfl⟩
  case' inl =>
    simp [r_s_DrawRecoverLog_5, r_s_DrawRecoverLog_6]
    refine callQ_Mz [8] [] (MCall.arg hM3 (by simp)) (by simp) (by simp) (by simp) (by simp) (by simp) (by first | rfl | simp) (by simp) ?_
    simp
    refine wk_of ⟨[(3, .ref 8 0 0), (5, S t)], [(8, curB code kt st)], []⟩ (Wk.list rfl (by simp) (by simp)) ?_
  case' inr.inl =>
    simp [r_s_DrawRecoverLog_5, r_s_DrawRecoverLog_7, r_s_DrawRecoverLog_8]
    rw [wrap64 (by omega) (by omega)]
    refine callQ_Mz [8] [] (MCall.arg hM4 (by simp)) (by simp) (by simp) (by simp) (by simp) (by simp) (by first | rfl | simp) (by simp) ?_
    simp
    refine ⟨by omega, ?_⟩
    refine wk_of ⟨[(3, .ref 8 0 0), (5, S ((l.durable ++ l.pending).take i))], [(8, curB code kt st)], []⟩ (Wk.list rfl (by simp) (by simp)) ?_
  case' inr.inr.inl =>
    simp [r_s_DrawRecoverLog_5, r_s_DrawRecoverLog_7, r_s_DrawRecoverLog_9, r_s_DrawRecoverLog_10]
    refine callQ_Mz [8] [] (MCall.arg hM5 (by simp)) (by simp) (by simp) (by simp) (by simp) (by simp) (by first | rfl | simp) (by simp) ?_
    simp
    refine callQ_Mz [8] [] (MCall.arg hM6 (by simp)) (by simp) (by simp) (by simp) (by simp) (by simp) (by first | rfl | simp) (by simp) ?_
    simp
    refine callQ_v (PCall.arg hPL (by simp)) ?_
    simp
    refine ⟨by omega, ?_⟩
    refine wk_of ⟨[(3, .ref 8 0 0), (5, S ((l.durable ++ l.pending) ++ (enc w e ++ [10])))], [(8, curB code kt st)], []⟩ (Wk.list rfl (by simp) (by simp)) ?_
  case' inr.inr.inr =>
    simp [r_s_DrawRecoverLog_5, r_s_DrawRecoverLog_7, r_s_DrawRecoverLog_9, n0, n1, n2]
    refine wk_of ⟨[(3, .ref 8 0 0), (5, S (l.durable ++ l.pending))], [(8, curB code kt st)], []⟩ (Wk.list rfl (by simp) (by simp)) ?_
  all_goals
    simp [r_s_DrawRecoverLog_11]
    refine callQ_Mz [8] [] (MCall.arg hM7 (by simp)) (by simp) (by simp) (by simp) (by simp) (by simp) (by first | rfl | simp) (by simp) ?_
    cases b with
    | false => simp [r_s_DrawRecoverLog_13]
    | true =>
      simp [r_s_DrawRecoverLog_12]
      refine callQ_Mz [8] [] (MCall.arg hM8 (by simp)) (by simp) (by simp) (by simp) (by simp) (by simp) (by first | rfl | simp) (by simp) ?_
      simp
      rw [wrap64 (by omega) (by omega), hn]
      rw [show ((n : Int)).toNat = n from rfl, bytes_zeros]
      refine ⟨by unfold lenBound; omega, ?_⟩
      simp [r_s_DrawRecoverLog_13]
      omega
end Go.Proofs.YtgefdcllialhkaaDoor
