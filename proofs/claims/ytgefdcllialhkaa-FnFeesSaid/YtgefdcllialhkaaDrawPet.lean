/- The draw of a list of petitions, and of a number in it. -/
import Derived.Test.YtgefdcllialhkaaCodeDrawPet
import Derived.Test.YtgefdcllialhkaaCursor
import Derived.Test.YtgefdcllialhkaaPetitions
set_option linter.unusedVariables false
set_option linter.unusedSimpArgs false
namespace Go.Proofs.Ytgefdcllialhkaa
open Go.Abs

/-- A chain of steps, by choice. -/
theorem iter_of {A : Type} {R : A → A → Prop} {ok : Nat → A → Prop} (a0 : A) (N : Nat) (h0 : ok 0 a0) (h : ∀ n a, n < N → ok n a → ∃ a', R a a' ∧ ok (n + 1) a') :
    ∃ t : Nat → A, t 0 = a0 ∧ (∀ n, n ≤ N → ok n (t n)) ∧ ∀ n, n < N → R (t n) (t (n + 1)) := by
  classical
  let nxt : Nat → A → A := fun n a => if hh : n < N ∧ ok n a then (h n a hh.1 hh.2).choose else a
  let t : Nat → A := fun n => Nat.rec a0 (fun n a => nxt n a) n
  have key : ∀ n, n ≤ N → ok n (t n) := by
    intro n
    induction n with
    | zero => intro _; exact h0
    | succ n ih =>
      intro hn
      have hk := ih (by omega)
      have e : t (n + 1) = (h n (t n) (by omega) hk).choose := by
        show nxt n (t n) = _
        exact dif_pos ⟨by omega, hk⟩
      rw [e]
      exact (h n (t n) (by omega) hk).choose_spec.2
  refine ⟨t, rfl, key, fun n hn => ?_⟩
  have hk := key n (by omega)
  have e : t (n + 1) = (h n (t n) hn hk).choose := by
    show nxt n (t n) = _
    exact dif_pos ⟨hn, hk⟩
  rw [e]
  exact (h n (t n) hn hk).choose_spec.1
theorem least_of {p : Nat → Prop} : ∀ {n : Nat}, p n → ∃ m, m ≤ n ∧ p m ∧ ∀ j, j < m → ¬ p j := by
  intro n
  induction n using Nat.strongRecOn with
  | ind n ih =>
    intro h
    by_cases hx : ∃ j, j < n ∧ p j
    · obtain ⟨j, hj, hp⟩ := hx
      obtain ⟨m, h1, h2, h3⟩ := ih j hj hp
      exact ⟨m, by omega, h2, h3⟩
    · exact ⟨n, by omega, h, fun j hj hp => hx ⟨j, hj, hp⟩⟩

structure PetSt where
  l : List Petition
  n : Int
  k : Nat
  s : Int
/-- One petition more. -/
def PetStep (code : List UInt8) (a b : PetSt) : Prop := ∃ (v : Int) (k1 : Nat) (s1 : Int) (r : Int) (k2 : Nat) (s2 : Int) (d : Int) (k3 : Nat) (s3 : Int) (q : Int) (k4 : Nat) (s4 : Int) (z : Int),
  ((0 ≤ v ∧ v < 3) ∧ (0 ≤ r ∧ r < 5)) ∧
  MCall Try.prog n_s_l1Cur_pick [curB code a.k a.s] [cR, I 3] (I v) [some (curB code k1 s1)] ∧
  MCall Try.prog n_s_l1Cur_pick [curB code k1 s1] [cR, I 5] (I r) [some (curB code k2 s2)] ∧
  MCall Try.prog n_s_l1Cur_pick [curB code k2 s2] [cR, I 60] (I d) [some (curB code k3 s3)] ∧
  MCall Try.prog n_s_l1Cur_among [curB code k3 s3] [cR, .ro 1 ([1, 1, 2, 2, 3, 4].map I)] (I q) [some (curB code k4 s4)] ∧
  MCall Try.prog n_s_l1Cur_among [curB code k4 s4] [cR, .ro 1 ([0, 50, 100, 333, 1000].map I)] (I z) [some (curB code b.k b.s)] ∧
  b.n = a.n + 1 + v ∧ b.l = a.l ++ [⟨a.n + 1 + v, 1 + r, d, q, z⟩]
theorem petStep_ex (code : List UInt8) (a : PetSt) (ha : a.k ≤ 10000000) : ∃ b, PetStep code a b ∧ (b.l.length = a.l.length + 1 ∧ (a.n < b.n ∧ b.n ≤ a.n + 3) ∧ (a.k ≤ b.k ∧ b.k ≤ a.k + 10)) := by
  obtain ⟨v, k1, s1, ⟨hv, hk1⟩, hM1⟩ := s_l1Cur_pick code a.k a.s 3 (by omega) (by omega)
  obtain ⟨r, k2, s2, ⟨hr, hk2⟩, hM2⟩ := s_l1Cur_pick code k1 s1 5 (by omega) (by omega)
  obtain ⟨d, k3, s3, ⟨hd, hk3⟩, hM3⟩ := s_l1Cur_pick code k2 s2 60 (by omega) (by omega)
  obtain ⟨q, k4, s4, ⟨hq, hk4⟩, hM4⟩ := s_l1Cur_among code k3 s3 [1, 1, 2, 2, 3, 4] (by omega) (by simp) (by simp)
  obtain ⟨z, k5, s5, ⟨hz, hk5⟩, hM5⟩ := s_l1Cur_among code k4 s4 [0, 50, 100, 333, 1000] (by omega) (by simp) (by simp)
  exact ⟨⟨a.l ++ [⟨a.n + 1 + v, 1 + r, d, q, z⟩], a.n + 1 + v, k5, s5⟩, ⟨v, k1, s1, r, k2, s2, d, k3, s3, q, k4, s4, z, by omega, hM1, hM2, hM3, hM4, hM5, rfl, rfl⟩, by simp, by dsimp only; omega, by dsimp only; omega⟩
/-- One empty petition more, if the list is short: what is drawn stands in the state behind. -/
def FillStep (code : List UInt8) (a b : PetSt × Int) : Prop :=
  (0 ≤ b.2 ∧ b.2 ≤ 1) ∧ MCall Try.prog n_s_l1Cur_pick [curB code a.1.k a.1.s] [cR, I 2] (I b.2) [some (curB code b.1.k b.1.s)] ∧ b.1.n = a.1.n + 1 ∧ b.1.l = a.1.l ++ [⟨a.1.n + 1, 1, 0, 1, 0⟩]
theorem fillStep_ex (code : List UInt8) (a : PetSt × Int) (ha : a.1.k ≤ 10000000) : ∃ b, FillStep code a b ∧ (b.1.l.length = a.1.l.length + 1 ∧ b.1.n = a.1.n + 1 ∧ (a.1.k ≤ b.1.k ∧ b.1.k ≤ a.1.k + 2)) := by
  obtain ⟨v, k1, s1, ⟨hv, hk1⟩, hM1⟩ := s_l1Cur_pick code a.1.k a.1.s 2 (by omega) (by omega)
  exact ⟨(⟨a.1.l ++ [⟨a.1.n + 1, 1, 0, 1, 0⟩], a.1.n + 1, k1, s1⟩, v), ⟨by dsimp only; omega, hM1, rfl, rfl⟩, by simp, rfl, by dsimp only; omega⟩
theorem s_l1Cur_petitionOf (code : List UInt8) (k : Nat) (s : Int) (l : List Petition) (hk : k ≤ 1000000000) (hl : l.length ≤ 1000) : ∃ (v : Int) (k' : Nat) (s' : Int), (k ≤ k' ∧ k' ≤ k + 4) ∧
    MCall Try.prog n_s_l1Cur_petitionOf [curB code k s] [cR, .ro 5 (l.map ePetition)] (I v) [some (curB code k' s')] := by
  cases l with
  | nil =>
    obtain ⟨v, k2, s2, ⟨hv, hk2⟩, hM2⟩ := s_l1Cur_among code k s [0, 1, 999] (by omega) (by simp) (by simp)
    refine ⟨v, k2, s2, by omega, ?_⟩
    refine MCall.of fn_s_l1Cur_petitionOf (by simp) rfl (by simp) ?_
    simp [c_s_l1Cur_petitionOf, r_s_l1Cur_petitionOf_0, r_s_l1Cur_petitionOf_1, r_s_l1Cur_petitionOf_2]
    refine callQ_Mz [1000000] [13] (MCall.arg hM2 (by simp)) (by simp) (by simp) (by simp) (by simp) (by simp) (by first | rfl | simp) (by simp) ?_
    simp
  | cons p l =>
    obtain ⟨b, k1, s1, hk1, hM1⟩ := s_l1Cur_one code k s 12 (by omega) (by omega)
    simp at hl
    have hnz : ¬ ((l.length : Int) + 1 = 0) := by omega
    cases b with
    | true =>
      obtain ⟨v, k2, s2, ⟨hv, hk2⟩, hM2⟩ := s_l1Cur_among code k1 s1 [0, 1, 999] (by omega) (by simp) (by simp)
      refine ⟨v, k2, s2, by omega, ?_⟩
      refine MCall.of fn_s_l1Cur_petitionOf (by simp) rfl (by simp) ?_
      simp [c_s_l1Cur_petitionOf, r_s_l1Cur_petitionOf_0, r_s_l1Cur_petitionOf_1, r_s_l1Cur_petitionOf_2, hnz]
      refine callQ_Mz [1000000] [] (MCall.arg hM1 (by simp)) (by simp) (by simp) (by simp) (by simp) (by simp) (by first | rfl | simp) (by simp) ?_
      simp
      refine callQ_Mz [1000000] [13] (MCall.arg hM2 (by simp)) (by simp) (by simp) (by simp) (by simp) (by simp) (by first | rfl | simp) (by simp) ?_
      simp
    | false =>
      obtain ⟨v, k2, s2, ⟨hv, hk2⟩, hM2⟩ := s_l1Cur_pick code k1 s1 (l.length + 1) (by omega) (by omega)
      obtain ⟨i, rfl⟩ : ∃ i : Nat, v = i := ⟨v.toNat, by omega⟩
      have hi : i < (p :: l).length := by simp; omega
      refine ⟨(p :: l)[i].number, k2, s2, by omega, ?_⟩
      refine MCall.of fn_s_l1Cur_petitionOf (by simp) rfl (by simp) ?_
      simp [c_s_l1Cur_petitionOf, r_s_l1Cur_petitionOf_0, r_s_l1Cur_petitionOf_1, r_s_l1Cur_petitionOf_2, r_s_l1Cur_petitionOf_3, hnz]
      refine callQ_Mz [1000000] [] (MCall.arg hM1 (by simp)) (by simp) (by simp) (by simp) (by simp) (by simp) (by first | rfl | simp) (by simp) ?_
      simp
      refine callQ_Mz [1000000] [] (MCall.arg hM2 (by simp)) (by simp) (by simp) (by simp) (by simp) (by simp) (by first | rfl | simp) (by simp) ?_
      simp
      refine ⟨by simp at hi; omega, ?_⟩
      have hg : (ePetition p :: l.map ePetition)[i]? = some (ePetition (p :: l)[i]) := by
        rw [show ePetition p :: l.map ePetition = (p :: l).map ePetition from rfl, List.getElem?_map, List.getElem?_eq_getElem hi]; rfl
      rw [hg]
      simp
set_option maxHeartbeats 4000000 in
theorem s_l1Cur_petitions (code : List UInt8) (k : Nat) (s : Int) (hk : k ≤ 1000000) : ∃ (l : List Petition) (k' : Nat) (s' : Int), (l.length ≤ 100 ∧ (k ≤ k' ∧ k' ≤ k + 200)) ∧
    MCall Try.prog n_s_l1Cur_petitions [curB code k s] [cR] (.own 5 (l.map ePetition)) [some (curB code k' s')] := by
  obtain ⟨c, k1, s1, ⟨hc, hk1⟩, hM1⟩ := s_l1Cur_pick code k s 6 (by omega) (by omega)
  obtain ⟨N, rfl⟩ : ∃ N : Nat, c = N := ⟨c.toNat, by omega⟩
  obtain ⟨t, ht0, htok, htR⟩ := iter_of (R := PetStep code) (ok := fun n a => a.l.length = n ∧ (0 ≤ a.n ∧ a.n ≤ 3 * (n : Int)) ∧ (k1 ≤ a.k ∧ a.k ≤ k1 + 10 * n)) ⟨[], 0, k1, s1⟩ N ⟨rfl, by dsimp only; omega, by dsimp only; omega⟩
    (fun n a hn ha => by
      obtain ⟨b, h1, h2, h3, h4⟩ := petStep_ex code a (by omega)
      exact ⟨b, h1, by omega, by omega, by omega⟩)
  obtain ⟨L, hL⟩ : ∃ L, (t N).l = L := ⟨_, rfl⟩
  obtain ⟨num, hnum⟩ : ∃ num, (t N).n = num := ⟨_, rfl⟩
  obtain ⟨k2, hk2⟩ : ∃ k2, (t N).k = k2 := ⟨_, rfl⟩
  obtain ⟨s2, hs2⟩ : ∃ s2, (t N).s = s2 := ⟨_, rfl⟩
  have htN := htok N (by omega)
  rw [hL, hnum, hk2] at htN
  obtain ⟨hLl, hnb, hkb⟩ := htN
  obtain ⟨w0, k3, s3, ⟨hw, hk3⟩, hM3⟩ := s_l1Cur_pick code k2 s2 N (by omega) (by omega)
  obtain ⟨w, rfl⟩ : ∃ w : Nat, w0 = w := ⟨w0.toNat, by omega⟩
  obtain ⟨x, k4, s4, ⟨hx, hk4⟩, hM4⟩ := s_l1Cur_pick code k3 s3 40 (by omega) (by omega)
  obtain ⟨z0, k5, s5, ⟨hz0, hk5⟩, hM5⟩ := s_l1Cur_among code k4 s4 [0, 999, 1000] (by omega) (by simp) (by simp)
  obtain ⟨z1, k6, s6, ⟨hz1, hk6⟩, hM6⟩ := s_l1Cur_among code k4 s4 [0, 5] (by omega) (by simp) (by simp)
  obtain ⟨z2, k7, s7, ⟨hz2, hk7⟩, hM7⟩ := s_l1Cur_among code k4 s4 [-1, 1000000, 1000001] (by omega) (by simp) (by simp)
  obtain ⟨z3, k8, s8, ⟨hz3, hk8⟩, hM8⟩ := s_l1Cur_among code k4 s4 [-1, 9999, 10000] (by omega) (by simp) (by simp)
  obtain ⟨u, hu0, huok, huR⟩ := iter_of (R := FillStep code) (ok := fun n a => a.1.l.length = N + n ∧ (0 ≤ a.1.n ∧ a.1.n ≤ 100 + n) ∧ (k4 ≤ a.1.k ∧ a.1.k ≤ k4 + 2 * n) ∧ ∀ i, i < N → a.1.l[i]? = L[i]?) (⟨L, num, k4, s4⟩, 0) 20 ⟨hLl, by dsimp only; omega, by dsimp only; omega, fun _ _ => rfl⟩
    (fun n a hn ha => by
      obtain ⟨b, h1, h2, h3, h4⟩ := fillStep_ex code a (by omega)
      refine ⟨b, h1, by omega, by omega, by omega, fun i hi => ?_⟩
      rw [h1.2.2.2, List.getElem?_append_left (by omega)]
      exact ha.2.2.2 i hi)
  obtain ⟨m, hm20, hmstop, hmgo⟩ := least_of (p := fun j => 12 + (u (j + 1)).2 ≤ (N : Int) + j) (n := 19) (by have := (huR 19 (by omega)).1; omega)
  have hm13 : m ≤ 13 := Classical.byContradiction fun hc => by
    have h1 := hmgo 13 (by omega)
    have h2 := (huR 13 (by omega)).1
    omega
  have hcell : 0 < N → ∃ p, L[w]? = some p := fun hpos => ⟨_, List.getElem?_eq_getElem (by omega)⟩
  have hloop : ∀ (l : List Petition) (k' : Nat) (s' : Int), ((N = 0 ∧ l = [] ∧ k' = k2 ∧ s' = s2) ∨ (0 < N ∧ ∃ p, L[w]? = some p ∧
      ((x = 0 ∧ l = L.set w { p with number := z0 } ∧ k' = k5 ∧ s' = s5) ∨ (x = 1 ∧ l = L.set w { p with state := z1 } ∧ k' = k6 ∧ s' = s6) ∨ (x = 2 ∧ l = L.set w { p with paid := z2 } ∧ k' = k7 ∧ s' = s7) ∨
       (x = 3 ∧ l = L.set w { p with day := z3 } ∧ k' = k8 ∧ s' = s8) ∨ (x = 4 ∧ l = (u m).1.l.set w p ∧ k' = (u (m + 1)).1.k ∧ s' = (u (m + 1)).1.s) ∨ ((x ≠ 0 ∧ x ≠ 1 ∧ x ≠ 2 ∧ x ≠ 3 ∧ x ≠ 4) ∧ l = L.set w p ∧ k' = k4 ∧ s' = s4)))) → MCall Try.prog n_s_l1Cur_petitions [curB code k s] [cR] (.own 5 (l.map ePetition)) [some (curB code k' s')] := by
    intro l k' s' hfin
    refine MCall.of fn_s_l1Cur_petitions (by simp) rfl (by simp) ?_
    simp [c_s_l1Cur_petitions, r_s_l1Cur_petitions_0, r_s_l1Cur_petitions_1, r_s_l1Cur_petitions_2, r_s_l1Cur_petitions_3]
    refine callQ_Mz [1000000] [] (MCall.arg hM1 (by simp)) (by simp) (by simp) (by simp) (by simp) (by simp) (by first | rfl | simp) (by simp) ?_
    simp
    refine loopK (fun i : Nat => ⟨[(0, cR), (3, .sl 9 0 i), (4, I (t i).n), (5, I ((N : Int) - i))], [(1000000, curB code (t i).k (t i).s), (9, ⟨5, (t i).l.map ePetition⟩)], [1000000]⟩) (fun i => N - i) (fun i => i ≤ N) 0 (Wk.list rfl (by simp [ht0]) (by simp [ht0])) (by simp) ?_
    intro i hi K hN hR hE
    obtain ⟨hl, hn, hkk⟩ := htok i hi
    simp [r_s_l1Cur_petitions_4, l_s_l1Cur_petitions_10]
    refine ⟨fun hlt => ?_, fun hge => ?_⟩
    · obtain ⟨v, k11, s11, r, k12, s12, d, k13, s13, q, k14, s14, z, hb, hA, hB, hC, hD, hE', hne, hle⟩ := htR i (by omega)
      simp [r_s_l1Cur_petitions_5]
      refine callQ_Mz [1000000] [] (MCall.arg hA (by simp)) (by simp) (by simp) (by simp) (by simp) (by simp) (by first | rfl | simp) (by simp) ?_
      simp
      rw [wrap64 (n := (t i).n + 1) (by omega) (by omega), wrap64 (n := (t i).n + 1 + v) (by omega) (by omega)]
      simp [r_s_l1Cur_petitions_6]
      refine callQ_Mz [1000000] [] (MCall.arg hB (by simp)) (by simp) (by simp) (by simp) (by simp) (by simp) (by first | rfl | simp) (by simp) ?_
      simp
      refine callQ_Mz [1000000] [] (MCall.arg hC (by simp)) (by simp) (by simp) (by simp) (by simp) (by simp) (by first | rfl | simp) (by simp) ?_
      simp
      refine callQ_Mz [1000000] [28] (MCall.arg hD (by simp)) (by simp) (by simp) (by simp) (by simp) (by simp) (by first | rfl | simp) (by simp) ?_
      simp [r_s_l1Cur_petitions_7]
      refine callQ_Mz [1000000] [32] (MCall.arg hE' (by simp)) (by simp) (by simp) (by simp) (by simp) (by simp) (by first | rfl | simp) (by simp) ?_
      simp [r_s_l1Cur_petitions_8, r_s_l1Cur_petitions_9, hl]
      refine ⟨by unfold lenBound; omega, ?_⟩
      rw [wrap64 (n := 1 + r) (by omega) (by omega), wrap64 (n := (N : Int) - i - 1) (by omega) (by omega)]
      refine hN (i + 1) _ (by omega) (by omega) (Wk.trans (Wk.ren 38 9 (by decide) ?_) (Wk.list rfl ?_ ?_))
      · simp
      · simp [hne]; omega
      · simp [hle, List.take_of_length_le, hl]
    · obtain rfl : i = N := by omega
      refine hE _ _ ?_
      simp only [blockK_exit]
      rw [hL, hnum, hk2, hs2]
      simp [r_s_l1Cur_petitions_11]
      refine ⟨fun h0 => ?_, fun h0 => ?_⟩
      · rcases hfin with ⟨hz, rfl, rfl, rfl⟩ | ⟨hpos, _⟩
        · have : L = [] := List.eq_nil_of_length_eq_zero (by omega)
          subst this
          simp [r_s_l1Cur_petitions_12]
          exact hz
        · omega
      · rcases hfin with ⟨hz, rfl, rfl, rfl⟩ | ⟨hpos, p, hp, hfin⟩
        · omega
        simp [r_s_l1Cur_petitions_13]
        refine callQ_Mz [1000000] [] (MCall.arg hM3 (by simp)) (by simp) (by simp) (by simp) (by simp) (by simp) (by first | rfl | simp) (by simp) ?_
        simp [r_s_l1Cur_petitions_14]
        refine ⟨by omega, ?_⟩
        rw [hp]
        simp [r_s_l1Cur_petitions_15]
        refine callQ_Mz [1000000] [] (MCall.arg hM4 (by simp)) (by simp) (by simp) (by simp) (by simp) (by simp) (by first | rfl | simp) (by simp) ?_
        simp [r_s_l1Cur_petitions_16]
        have hwl : w < i := by omega
        have hsp : ∀ q : Petition, (L.map ePetition).set w (ePetition q) = (L.set w q).map ePetition := fun q => by rw [List.map_set]
        rcases hfin with ⟨rfl, rfl, rfl, rfl⟩ | ⟨rfl, rfl, rfl, rfl⟩ | ⟨rfl, rfl, rfl, rfl⟩ | ⟨rfl, rfl, rfl, rfl⟩ | ⟨rfl, rfl, rfl, rfl⟩ | ⟨⟨n0, n1, n2, n3, n4⟩, rfl, rfl, rfl⟩
        · simp [r_s_l1Cur_petitions_17]
          refine callQ_Mz [1000000] [56] (MCall.arg hM5 (by simp)) (by simp) (by simp) (by simp) (by simp) (by simp) (by first | rfl | simp) (by simp) ?_
          simp [r_s_l1Cur_petitions_29, r_s_l1Cur_petitions_30, hp]
          omega
        · simp [r_s_l1Cur_petitions_18, r_s_l1Cur_petitions_19]
          refine callQ_Mz [1000000] [62] (MCall.arg hM6 (by simp)) (by simp) (by simp) (by simp) (by simp) (by simp) (by first | rfl | simp) (by simp) ?_
          simp [r_s_l1Cur_petitions_29, r_s_l1Cur_petitions_30, hp]
          omega
        · simp [r_s_l1Cur_petitions_18, r_s_l1Cur_petitions_20, r_s_l1Cur_petitions_21]
          refine callQ_Mz [1000000] [68] (MCall.arg hM7 (by simp)) (by simp) (by simp) (by simp) (by simp) (by simp) (by first | rfl | simp) (by simp) ?_
          simp [r_s_l1Cur_petitions_29, r_s_l1Cur_petitions_30, hp]
          omega
        · simp [r_s_l1Cur_petitions_18, r_s_l1Cur_petitions_20, r_s_l1Cur_petitions_22, r_s_l1Cur_petitions_23]
          refine callQ_Mz [1000000] [74] (MCall.arg hM8 (by simp)) (by simp) (by simp) (by simp) (by simp) (by simp) (by first | rfl | simp) (by simp) ?_
          simp [r_s_l1Cur_petitions_29, r_s_l1Cur_petitions_30, hp]
          omega
        · simp [r_s_l1Cur_petitions_18, r_s_l1Cur_petitions_20, r_s_l1Cur_petitions_22, r_s_l1Cur_petitions_24]
          clear hN hR hE
          refine loopK (fun j : Nat => ⟨[(0, cR), (3, .sl 9 0 (i + j)), (4, I (u j).1.n), (7, I w), (8, .ref 8 0 0)], [(1000000, curB code (u j).1.k (u j).1.s), (8, ⟨5, [ePetition p]⟩), (9, ⟨5, (u j).1.l.map ePetition⟩)], [1000000]⟩) (fun j => m - j) (fun j => j ≤ m) 0 (Wk.list rfl (by simp [hu0]) (by simp [hu0])) (by simp) ?_
          intro j hj K hN hR hE
          obtain ⟨hul, hun, huk, hug⟩ := huok j (by omega)
          obtain ⟨hv, hMv, hun', hul'⟩ := huR j (by omega)
          simp [r_s_l1Cur_petitions_25, l_s_l1Cur_petitions_28]
          refine callQ_Mz [1000000] [] (MCall.arg hMv (by simp)) (by simp) (by simp) (by simp) (by simp) (by simp) (by first | rfl | simp) (by simp) ?_
          simp
          rw [wrap64 (by omega) (by omega)]
          refine ⟨fun hlt => ?_, fun hge => ?_⟩
          · have hjm : j < m := Classical.byContradiction fun hc => by
              obtain rfl : j = m := by omega
              omega
            simp [r_s_l1Cur_petitions_26, r_s_l1Cur_petitions_27]
            rw [wrap64 (by omega) (by omega)]
            refine ⟨by unfold lenBound; omega, ?_⟩
            refine hN (j + 1) _ (by omega) (by omega) (Wk.trans (Wk.ren 91 9 (by decide) ?_) (Wk.list rfl ?_ ?_))
            · simp
            · simp [hun']; omega
            · simp [hul', List.take_of_length_le, hul]
          · have hjm : j = m := Classical.byContradiction fun hc => by
              have := hmgo j (by omega)
              omega
            subst hjm
            refine hE _ _ ?_
            simp only [blockK_exit]
            simp
            have hpu := hug w (by omega)
            rw [hp] at hpu
            simp [r_s_l1Cur_petitions_29, r_s_l1Cur_petitions_30, hpu]
            omega
        · simp [r_s_l1Cur_petitions_18, r_s_l1Cur_petitions_20, r_s_l1Cur_petitions_22, r_s_l1Cur_petitions_24, n0, n1, n2, n3, n4]
          simp [r_s_l1Cur_petitions_29, r_s_l1Cur_petitions_30, hp]
          omega
  by_cases hN0 : N = 0
  · exact ⟨_, _, _, ⟨by simp, by omega⟩, hloop _ _ _ (.inl ⟨hN0, rfl, rfl, rfl⟩)⟩
  obtain ⟨p, hp⟩ := hcell (by omega)
  by_cases c0 : x = 0
  · exact ⟨_, _, _, ⟨by simp; omega, by omega⟩, hloop _ _ _ (.inr ⟨by omega, p, hp, .inl ⟨c0, rfl, rfl, rfl⟩⟩)⟩
  by_cases c1 : x = 1
  · exact ⟨_, _, _, ⟨by simp; omega, by omega⟩, hloop _ _ _ (.inr ⟨by omega, p, hp, .inr (.inl ⟨c1, rfl, rfl, rfl⟩)⟩)⟩
  by_cases c2 : x = 2
  · exact ⟨_, _, _, ⟨by simp; omega, by omega⟩, hloop _ _ _ (.inr ⟨by omega, p, hp, .inr (.inr (.inl ⟨c2, rfl, rfl, rfl⟩))⟩)⟩
  by_cases c3 : x = 3
  · exact ⟨_, _, _, ⟨by simp; omega, by omega⟩, hloop _ _ _ (.inr ⟨by omega, p, hp, .inr (.inr (.inr (.inl ⟨c3, rfl, rfl, rfl⟩)))⟩)⟩
  by_cases c4 : x = 4
  · have h1 := huok m (by omega)
    have h2 := huok (m + 1) (by omega)
    exact ⟨_, _, _, ⟨by simp; omega, by omega⟩, hloop _ _ _ (.inr ⟨by omega, p, hp, .inr (.inr (.inr (.inr (.inl ⟨c4, rfl, rfl, rfl⟩))))⟩)⟩
  · exact ⟨_, _, _, ⟨by simp; omega, by omega⟩, hloop _ _ _ (.inr ⟨by omega, p, hp, .inr (.inr (.inr (.inr (.inr ⟨⟨c0, c1, c2, c3, c4⟩, rfl, rfl, rfl⟩))))⟩)⟩
end Go.Proofs.Ytgefdcllialhkaa
