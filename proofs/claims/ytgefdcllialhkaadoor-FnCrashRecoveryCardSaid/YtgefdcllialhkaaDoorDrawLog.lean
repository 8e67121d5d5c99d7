/- Draws of records and logs. -/
import Derived.Test.YtgefdcllialhkaaDoorCodeDrawLog
import Derived.Test.YtgefdcllialhkaaDoorCursor
import Derived.Test.YtgefdcllialhkaaDoorLogLaws
set_option linter.unusedVariables false
set_option linter.unusedSimpArgs false
namespace Go.Proofs.YtgefdcllialhkaaDoor
open Go.Abs

theorem s_l1Cur_of (code : List UInt8) (k : Nat) (s : Int) (l : List (List UInt8)) (hk : k ≤ 100000000000) (h0 : 0 < l.length) (hl : l.length ≤ 100000) :
    ∃ (v : List UInt8) (k' : Nat) (s' : Int), (v ∈ l ∧ (k ≤ k' ∧ k' ≤ k + 2)) ∧ MCall Tryd.prog n_s_l1Cur_of [curB code k s] [cR, .ro 1 (l.map S)] (S v) [some (curB code k' s')] := by
  obtain ⟨v, k', s', ⟨hv, hk'⟩, hM⟩ := s_l1Cur_pick code k s l.length hk (by omega)
  obtain ⟨i, rfl⟩ : ∃ i : Nat, v = i := ⟨v.toNat, by omega⟩
  have hi : i < l.length := by omega
  refine ⟨l[i], k', s', ⟨List.getElem_mem _, hk'⟩, ?_⟩
  refine MCall.of fn_s_l1Cur_of (by simp) rfl (by simp) ?_
  simp [c_s_l1Cur_of, r_s_l1Cur_of_0, r_s_l1Cur_of_1]
  refine callQ_Mz [1000000] [] (MCall.arg hM (by simp)) (by simp) (by simp) (by simp) (by simp) (by simp) (by first | rfl | simp) (by simp) ?_
  simp [hi]
theorem s_l1Cur_spoilt (code : List UInt8) (k : Nat) (s : Int) (t with_ : List UInt8) (hk : k ≤ 10000000000) (h0 : 0 < with_.length) (hl : with_.length ≤ 1000) (ht : t.length ≤ 100000) :
    ∃ (v : List UInt8) (k' : Nat) (s' : Int), (v.length ≤ t.length + 1 ∧ (k ≤ k' ∧ k' ≤ k + 6)) ∧ MCall Tryd.prog n_s_l1Cur_spoilt [curB code k s] [cR, S t, S with_] (S v) [some (curB code k' s')] := by
  by_cases he : t = []
  · refine ⟨with_.take 1, k, s, by simp; omega, ?_⟩
    refine MCall.of fn_s_l1Cur_spoilt (by simp) rfl (by simp) ?_
    simp [c_s_l1Cur_spoilt, r_s_l1Cur_spoilt_0, r_s_l1Cur_spoilt_1, r_s_l1Cur_spoilt_2, he]
    omega
  · have htl : 0 < t.length := by
      cases t with
      | nil => exact absurd rfl he
      | cons a t => simp
    obtain ⟨v1, k1, s1, ⟨hv1, hk1⟩, hM1⟩ := s_l1Cur_pick code k s t.length (by omega) (by omega)
    obtain ⟨v2, k2, s2, ⟨hv2, hk2⟩, hM2⟩ := s_l1Cur_pick code k1 s1 with_.length (by omega) (by omega)
    obtain ⟨v3, k3, s3, ⟨hv3, hk3⟩, hM3⟩ := s_l1Cur_pick code k2 s2 3 (by omega) (by omega)
    obtain ⟨i, rfl⟩ : ∃ i : Nat, v1 = i := ⟨v1.toNat, by omega⟩
    obtain ⟨j, rfl⟩ : ∃ i : Nat, v2 = i := ⟨v2.toNat, by omega⟩
    have main : ∀ v : List UInt8, ((v3 = 0 ∧ v = t.take i ++ (with_.drop j).take 1 ++ t.drop i) ∨ (v3 = 1 ∧ v = t.take i ++ (with_.drop j).take 1 ++ t.drop (i + 1)) ∨ ((v3 ≠ 0 ∧ v3 ≠ 1) ∧ v = t.take i ++ t.drop (i + 1))) →
        MCall Tryd.prog n_s_l1Cur_spoilt [curB code k s] [cR, S t, S with_] (S v) [some (curB code k3 s3)] := by
      intro v hv
      refine MCall.of fn_s_l1Cur_spoilt (by simp) rfl (by simp) ?_
      simp [c_s_l1Cur_spoilt, r_s_l1Cur_spoilt_0, r_s_l1Cur_spoilt_1, he]
      simp [r_s_l1Cur_spoilt_3]
      refine callQ_Mz [1000000] [] (MCall.arg hM1 (by simp)) (by simp) (by simp) (by simp) (by simp) (by simp) (by first | rfl | simp) (by simp) ?_
      simp [r_s_l1Cur_spoilt_4]
      refine callQ_Mz [1000000] [] (MCall.arg hM2 (by simp)) (by simp) (by simp) (by simp) (by simp) (by simp) (by first | rfl | simp) (by simp) ?_
      simp
      refine ⟨by omega, by omega, ?_⟩
      simp [r_s_l1Cur_spoilt_5]
      refine callQ_Mz [1000000] [] (MCall.arg hM3 (by simp)) (by simp) (by simp) (by simp) (by simp) (by simp) (by first | rfl | simp) (by simp) ?_
      rcases hv with ⟨rfl, rfl⟩ | ⟨rfl, rfl⟩ | ⟨⟨n0, n1⟩, rfl⟩
      · simp [r_s_l1Cur_spoilt_6, r_s_l1Cur_spoilt_7, p_s_l1Cur_spoilt_7]
        refine ⟨by omega, by omega, by omega, by omega, oEnd_of (by simp [p_s_l1Cur_spoilt_7]) (by simp), ?_⟩
        rw [List.take_of_length_le (l := t.drop i) (by simp), List.take_of_length_le (l := with_.drop j) (by simp)]
      · simp [r_s_l1Cur_spoilt_6, r_s_l1Cur_spoilt_8, r_s_l1Cur_spoilt_9, p_s_l1Cur_spoilt_9]
        rw [wrap64 (n := (i : Int) + 1) (by omega) (by omega), show ((i : Int) + 1).toNat = i + 1 by omega]
        refine ⟨by omega, by omega, by omega, by omega, oEnd_of (by simp [p_s_l1Cur_spoilt_9]) (by simp), ?_⟩
        rw [List.take_of_length_le (l := t.drop (i + 1)) (by simp), List.take_of_length_le (l := with_.drop j) (by simp)]
      · simp [r_s_l1Cur_spoilt_6, r_s_l1Cur_spoilt_8, r_s_l1Cur_spoilt_10, p_s_l1Cur_spoilt_10, n0, n1]
        rw [wrap64 (n := (i : Int) + 1) (by omega) (by omega), show ((i : Int) + 1).toNat = i + 1 by omega]
        refine ⟨by omega, by omega, by omega, oEnd_of (by simp [p_s_l1Cur_spoilt_10]) (by simp), ?_⟩
        rw [List.take_of_length_le (l := t.drop (i + 1)) (by simp)]
    by_cases c0 : v3 = 0
    · exact ⟨_, _, _, ⟨by simp; omega, by omega⟩, main _ (.inl ⟨c0, rfl⟩)⟩
    by_cases c1 : v3 = 1
    · exact ⟨_, _, _, ⟨by simp; omega, by omega⟩, main _ (.inr (.inl ⟨c1, rfl⟩))⟩
    · exact ⟨_, _, _, ⟨by simp; omega, by omega⟩, main _ (.inr (.inr ⟨⟨c0, c1⟩, rfl⟩))⟩
set_option maxHeartbeats 1000000 in
theorem s_l1Cur_logRecord (code : List UInt8) (k : Nat) (s : Int) (hk : k ≤ 1000000000) : ∃ (e : LogRecord) (k' : Nat) (s' : Int), ((e.command.length ≤ 20 ∧ e.reply.length ≤ 20) ∧ (k ≤ k' ∧ k' ≤ k + 10)) ∧
    MCall Tryd.prog n_s_l1Cur_logRecord [curB code k s] [cR] (eLogRecord e) [some (curB code k' s')] := by
  obtain ⟨v1, k1, s1, ⟨hv1, hk1⟩, hM1⟩ := s_l1Cur_of code k s [[99, 111, 117, 110, 116], [115, 111, 114, 116, 32, 109, 101, 114, 103, 101], [120], [115, 101, 108, 101, 99, 116, 32, 50], [48, 32, 49]] (by omega) (by simp) (by simp)
  obtain ⟨v2, k2, s2, ⟨hv2, hk2⟩, hM2⟩ := s_l1Cur_of code k1 s1 [[], [51], [63], [97, 64, 98], [51, 32, 49, 32, 50]] (by omega) (by simp) (by simp)
  obtain ⟨x, k3, s3, ⟨hx, hk3⟩, hM3⟩ := s_l1Cur_pick code k2 s2 24 (by omega) (by omega)
  obtain ⟨v4, k4, s4, ⟨hv4, hk4⟩, hM4⟩ := s_l1Cur_of code k3 s3 [[], [97, 64, 98], [97, 35], [10], [0, 0, 0]] (by omega) (by simp) (by simp)
  obtain ⟨v5, k5, s5, ⟨hv5, hk5⟩, hM5⟩ := s_l1Cur_of code k3 s3 [[35], [10], [127]] (by omega) (by simp) (by simp)
  have l1 : v1.length ≤ 20 := by simp at hv1; rcases hv1 with rfl | rfl | rfl | rfl | rfl <;> simp
  have l2 : v2.length ≤ 20 := by simp at hv2; rcases hv2 with rfl | rfl | rfl | rfl | rfl <;> simp
  have l4 : v4.length ≤ 20 := by simp at hv4; rcases hv4 with rfl | rfl | rfl | rfl | rfl <;> simp
  have l5 : v5.length ≤ 20 := by simp at hv5; rcases hv5 with rfl | rfl | rfl <;> simp
  have main : ∀ (e : LogRecord) (k' : Nat) (s' : Int), ((x = 0 ∧ e = ⟨v4, v2⟩ ∧ k' = k4 ∧ s' = s4) ∨ (x = 1 ∧ e = ⟨v1, v5⟩ ∧ k' = k5 ∧ s' = s5) ∨ ((x ≠ 0 ∧ x ≠ 1) ∧ e = ⟨v1, v2⟩ ∧ k' = k3 ∧ s' = s3)) → MCall Tryd.prog n_s_l1Cur_logRecord [curB code k s] [cR] (eLogRecord e) [some (curB code k' s')] := by
    intro e k' s' hfin
    refine MCall.of fn_s_l1Cur_logRecord (by simp) rfl (by simp) ?_
    simp [c_s_l1Cur_logRecord, r_s_l1Cur_logRecord_0, r_s_l1Cur_logRecord_1]
    refine callQ_Mz [1000000] [5] (MCall.arg hM1 (by simp)) (by simp) (by simp) (by simp) (by simp) (by simp) (by first | rfl | simp) (by simp) ?_
    simp
    refine callQ_Mz [1000000] [8] (MCall.arg hM2 (by simp)) (by simp) (by simp) (by simp) (by simp) (by simp) (by first | rfl | simp) (by simp) ?_
    simp [r_s_l1Cur_logRecord_2]
    refine callQ_Mz [1000000] [] (MCall.arg hM3 (by simp)) (by simp) (by simp) (by simp) (by simp) (by simp) (by first | rfl | simp) (by simp) ?_
    rcases hfin with ⟨rfl, rfl, rfl, rfl⟩ | ⟨rfl, rfl, rfl, rfl⟩ | ⟨⟨n0, n1⟩, rfl, rfl, rfl⟩
    · simp [r_s_l1Cur_logRecord_3, r_s_l1Cur_logRecord_4]
      refine ⟨by unfold lenBound; omega, ?_⟩
      refine callQ_Mz [1000000] [18] (MCall.arg hM4 (by simp)) (by simp) (by simp) (by simp) (by simp) (by simp) (by first | rfl | simp) (by simp) ?_
      simp [r_s_l1Cur_logRecord_7]
    · simp [r_s_l1Cur_logRecord_3, r_s_l1Cur_logRecord_5, r_s_l1Cur_logRecord_6]
      refine callQ_Mz [1000000] [24] (MCall.arg hM5 (by simp)) (by simp) (by simp) (by simp) (by simp) (by simp) (by first | rfl | simp) (by simp) ?_
      simp [r_s_l1Cur_logRecord_7]
    · simp [r_s_l1Cur_logRecord_3, r_s_l1Cur_logRecord_5, r_s_l1Cur_logRecord_7, n0, n1]
  by_cases c0 : x = 0
  · exact ⟨_, _, _, ⟨⟨l4, l2⟩, by omega⟩, main _ _ _ (.inl ⟨c0, rfl, rfl, rfl⟩)⟩
  by_cases c1 : x = 1
  · exact ⟨_, _, _, ⟨⟨l1, l5⟩, by omega⟩, main _ _ _ (.inr (.inl ⟨c1, rfl, rfl, rfl⟩))⟩
  · exact ⟨_, _, _, ⟨⟨l1, l2⟩, by omega⟩, main _ _ _ (.inr (.inr ⟨⟨c0, c1⟩, rfl, rfl, rfl⟩))⟩
theorem logRecord_fn (code : List UInt8) : ∃ g : Nat → Int → LogRecord × Nat × Int, ∀ (k : Nat) (s : Int), k ≤ 1000000000 →
    ((((g k s).1.command.length ≤ 20 ∧ (g k s).1.reply.length ≤ 20) ∧ (k ≤ (g k s).2.1 ∧ (g k s).2.1 ≤ k + 10)) ∧ MCall Tryd.prog n_s_l1Cur_logRecord [curB code k s] [cR] (eLogRecord (g k s).1) [some (curB code (g k s).2.1 (g k s).2.2)]) := by
  have key : ∀ (k : Nat) (s : Int), ∃ z : LogRecord × Nat × Int, k ≤ 1000000000 → (((z.1.command.length ≤ 20 ∧ z.1.reply.length ≤ 20) ∧ (k ≤ z.2.1 ∧ z.2.1 ≤ k + 10)) ∧ MCall Tryd.prog n_s_l1Cur_logRecord [curB code k s] [cR] (eLogRecord z.1) [some (curB code z.2.1 z.2.2)]) := fun k s => by
    by_cases hk : k ≤ 1000000000
    · obtain ⟨v, k', s', h1, h2⟩ := s_l1Cur_logRecord code k s hk
      exact ⟨(v, k', s'), fun _ => ⟨h1, h2⟩⟩
    · exact ⟨(noRec, 0, 0), fun h => absurd h hk⟩
  exact ⟨fun k s => (key k s).choose, fun k s hk => (key k s).choose_spec hk⟩
theorem one_fn (code : List UInt8) (n : Int) (hn : n ≤ 1000000) : ∃ g : Nat → Int → Bool × Nat × Int, ∀ (k : Nat) (s : Int), k ≤ 100000000000 →
    ((k ≤ (g k s).2.1 ∧ (g k s).2.1 ≤ k + 2) ∧ MCall Tryd.prog n_s_l1Cur_one [curB code k s] [cR, I n] (B (g k s).1) [some (curB code (g k s).2.1 (g k s).2.2)]) := by
  have key : ∀ (k : Nat) (s : Int), ∃ z : Bool × Nat × Int, k ≤ 100000000000 → ((k ≤ z.2.1 ∧ z.2.1 ≤ k + 2) ∧ MCall Tryd.prog n_s_l1Cur_one [curB code k s] [cR, I n] (B z.1) [some (curB code z.2.1 z.2.2)]) := fun k s => by
    by_cases hk : k ≤ 100000000000
    · obtain ⟨v, k', s', h1, h2⟩ := s_l1Cur_one code k s n hk hn
      exact ⟨(v, k', s'), fun _ => ⟨h1, h2⟩⟩
    · exact ⟨(true, 0, 0), fun h => absurd h hk⟩
  exact ⟨fun k s => (key k s).choose, fun k s hk => (key k s).choose_spec hk⟩
def Small (l : Log) : Prop := l.durable.length + l.pending.length ≤ 23000 ∧ 0 ≤ l.count ∧ l.count ≤ 61
theorem Small.fits {l : Log} (h : Small l) : fits l := by unfold Small at h; unfold Go.Proofs.YtgefdcllialhkaaDoor.fits; omega
theorem Small.append {l : Log} (h : Small l) (e : LogRecord) : Small (appendL l e) := by
  by_cases hn : appendN l e = 0
  · obtain ⟨h1, h2, h3, h4, h5, h6⟩ := append_law hn
    have := recordsL_len l
    unfold Small; omega
  · rw [append_not hn]; exact h
theorem Small.sync {l : Log} (h : Small l) : Small (syncL l) := by
  rw [syncL]
  split
  · unfold Small at h ⊢; simp; omega
  · unfold Small; simp
theorem Small.zero : Small ⟨[], [], 0⟩ := by unfold Small; simp
structure TrailL where
  l : Log
  k : Nat
  s : Int
def trailL (gr : Nat → Int → LogRecord × Nat × Int) (go : Nat → Int → Bool × Nat × Int) (a : TrailL) : TrailL :=
  let z := gr a.k a.s
  let o := go z.2.1 z.2.2
  ⟨if o.1 then syncL (appendL a.l z.1) else appendL a.l z.1, o.2.1, o.2.2⟩
def iterL (gr : Nat → Int → LogRecord × Nat × Int) (go : Nat → Int → Bool × Nat × Int) (a : TrailL) : Nat → TrailL
  | 0 => a
  | n + 1 => trailL gr go (iterL gr go a n)
set_option maxHeartbeats 2000000 in
theorem s_l1Cur_log (code : List UInt8) (k : Nat) (s : Int) (hk : k ≤ 1000000) : ∃ (l : Log) (k' : Nat) (s' : Int), (Small l ∧ (k ≤ k' ∧ k' ≤ k + 200)) ∧
    MCall Tryd.prog n_s_l1Cur_log [curB code k s] [cR] (eLog l) [some (curB code k' s')] := by
  obtain ⟨v, k2, s2, ⟨hv, hk2⟩, hM2⟩ := s_l1Cur_pick code k s 7 (by omega) (by omega)
  obtain ⟨gr, hgr⟩ := logRecord_fn code
  obtain ⟨go, hgo⟩ := one_fn code 4 (by omega)
  obtain ⟨n, hn⟩ : ∃ n : Nat, v = n := ⟨v.toNat, by omega⟩
  have hn6 : n ≤ 6 := by omega
  obtain ⟨u, hu⟩ : ∃ u : Nat → TrailL, u = iterL gr go ⟨⟨[], [], 0⟩, k2, s2⟩ := ⟨_, rfl⟩
  have hu0 : u 0 = ⟨⟨[], [], 0⟩, k2, s2⟩ := by rw [hu]; rfl
  have hus : ∀ j, u (j + 1) = trailL gr go (u j) := fun j => by rw [hu]; rfl
  have hinv : ∀ j, j ≤ 6 → Small (u j).l ∧ k2 ≤ (u j).k ∧ (u j).k ≤ k2 + 12 * j := by
    intro j
    induction j with
    | zero => intro _; rw [hu0]; exact ⟨Small.zero, by dsimp only; omega⟩
    | succ j ih =>
      intro hj
      have ⟨i1, i2⟩ := ih (by omega)
      have a1 := (hgr (u j).k (u j).s (by omega)).1.2
      have a2 := (hgo (gr (u j).k (u j).s).2.1 (gr (u j).k (u j).s).2.2 (by omega)).1
      rw [hus]
      simp only [trailL]
      refine ⟨?_, by omega⟩
      split
      · exact (i1.append _).sync
      · exact i1.append _
  refine ⟨(u n).l, (u n).k, (u n).s, ⟨(hinv n hn6).1, by have := hinv n hn6; omega⟩, ?_⟩
  refine MCall.of fn_s_l1Cur_log (by simp) rfl (by simp) ?_
  simp [c_s_l1Cur_log, r_s_l1Cur_log_0, r_s_l1Cur_log_1, r_s_l1Cur_log_2, l_s_l1Cur_log_8]
  refine callQ_Mz [1000000] [] (MCall.arg hM2 (by simp)) (by simp) (by simp) (by simp) (by simp) (by simp) (by first | rfl | simp) (by simp) ?_
  rw [hn]
  simp
  refine loopK (fun j : Nat => ⟨[(0, cR), (2, .ref 2 0 0), (3, .ref 3 0 0), (4, I ((n : Int) - j))], [(1000000, curB code (u j).k (u j).s), (3, ⟨3, [eLog (u j).l]⟩), (2, ⟨3, [eLog ⟨[], [], 0⟩]⟩)], [1000000]⟩) (fun j => n - j) (fun j => j ≤ n) 0 (Wk.list rfl (by simp) (by simp [hu0])) (by simp) ?_
  intro j hj K hN hR hE
  have hju := hinv j (by omega)
  have hjs := hus j
  obtain ⟨a, ha⟩ : ∃ a, u j = a := ⟨_, rfl⟩
  rw [ha] at hju hjs ⊢
  obtain ⟨l, ka, sa⟩ := a
  obtain ⟨hl, hka⟩ := hju
  dsimp only at hl hka ⊢
  obtain ⟨hz, hMz⟩ := hgr ka sa (by omega)
  simp only [trailL] at hjs
  obtain ⟨z, hzz⟩ : ∃ z, gr ka sa = z := ⟨_, rfl⟩
  rw [hzz] at hz hMz hjs
  obtain ⟨e, kz, sz⟩ := z
  dsimp only at hz hMz hjs
  obtain ⟨ho, hMo⟩ := hgo kz sz (by omega)
  obtain ⟨o, hoo⟩ : ∃ o, go kz sz = o := ⟨_, rfl⟩
  rw [hoo] at ho hMo hjs
  obtain ⟨o, ko, so⟩ := o
  dsimp only at ho hMo hjs
  simp [r_s_l1Cur_log_3, r_s_l1Cur_log_7]
  refine ⟨fun hlt => ?_, fun hge => ?_⟩
  · simp [r_s_l1Cur_log_4, p_s_l1Cur_log_4]
    refine callD_M [1000000] [] (l := [_]) (MCall.arg hMz (by simp)) (by simp) (by simp) (by simp) (by simp) (by simp) (by first | rfl | simp) (by simp) (by simp) ?_
    simp
    refine callD_of (PCall.arg (s_AppendRecord l e hl.fits) (by simp)) rfl (.inl (by simp)) ?_ ?_ ?_
    · simp
    · simp
    simp
    refine ⟨oEnd_of (by simp [p_s_l1Cur_log_4]) (by simp), ?_⟩
    simp [r_s_l1Cur_log_5]
    refine callQ_Mz [1000000] [] (MCall.arg hMo (by simp)) (by simp) (by simp) (by simp) (by simp) (by simp) (by first | rfl | simp) (by simp) ?_
    cases o with
    | true =>
      simp [r_s_l1Cur_log_6]
      refine callQ_of (PCall.arg (s_SyncLog (appendL l e) (hl.append e).fits) (by simp)) rfl (.inl (by simp)) (by simp) ?_
      simp
      rw [wrap64 (by omega) (by omega)]
      refine hN (j + 1) _ (by omega) (by omega) (Wk.list rfl ?_ ?_)
      · simp; omega
      · simp [hjs]
    | false =>
      simp
      rw [wrap64 (by omega) (by omega)]
      refine hN (j + 1) _ (by omega) (by omega) (Wk.list rfl ?_ ?_)
      · simp; omega
      · simp [hjs]
  · obtain rfl : j = n := by omega
    refine hE _ _ ?_
    simp only [blockK_exit]
    simp [r_s_l1Cur_log_9, ha]
end Go.Proofs.YtgefdcllialhkaaDoor
