/- ReadScroll: program, reference, law. -/
import Derived.Test.YtopcfaffljjnbaaGreatDoorReadLaw
import Derived.Test.YtopcfaffljjnbaaGreatDoorJoins
set_option linter.unusedVariables false
set_option linter.unusedSimpArgs false
namespace Go.Proofs.YtopcfaffljjnbaaGreatDoor
open Go.Abs

theorem rowsS (s : List UInt8) (hs : s.length ≤ 4000) : (parts 10 s).length ≤ 4001 ∧ ∀ r ∈ parts 10 s, r.length ≤ 4000 := by
  have h1 := parts_count 10 s
  have h2 := count_le 10 s
  exact ⟨by omega, fun r hr => by have := parts_short hr; omega⟩
theorem innerI_len {r x : List UInt8} (h : innerI r = some x) : x.length ≤ r.length := by
  unfold innerI at h
  split at h
  · simp only [Option.some.injEq] at h
    subst h
    have h1 := trimB_len (Lib.trimSuffix (Lib.trimPrefix r [40, 32]) [32, 41]) 32
    have h2 : (Lib.trimSuffix (Lib.trimPrefix r [40, 32]) [32, 41]).length ≤ (Lib.trimPrefix r [40, 32]).length := by
      unfold Lib.trimSuffix
      split
      · rw [List.length_take]; omega
      · exact Nat.le_refl _
    have h3 := trimPrefix_len r [40, 32]
    omega
  · cases h
theorem tot_inner : ∀ l : List (List UInt8), tot (l.filterMap innerI) ≤ tot l ∧ (l.filterMap innerI).length ≤ l.length
  | [] => by simp
  | r :: l => by
    have ih := tot_inner l
    rw [List.filterMap_cons]
    cases h : innerI r with
    | none => simp only [tot, List.map_cons, List.sum_cons, List.length_cons] at ih ⊢; omega
    | some x =>
      have := innerI_len h
      simp only [tot, List.map_cons, List.sum_cons, List.length_cons] at ih ⊢; omega
theorem inner_take {l : List (List UInt8)} {i : Nat} (h : i < l.length) : (l.take (i + 1)).filterMap innerI = (l.take i).filterMap innerI ++ (match innerI l[i] with | some x => [x] | none => []) := by
  rw [take_succ' h, List.filterMap_append]
  congr 1
  rw [List.filterMap_cons]
  cases innerI l[i] <;> rfl
theorem i_ReadScroll (s : List UInt8) : PCall Tryz.prog n_i_ReadScroll [S s] (.tup [S (readM s), I (readW s), B (readOk s)]) := by
  refine PCall.ofL fn_i_ReadScroll (by simp) fun hl0 => ?_
  simp at hl0
  obtain ⟨hsame, hm⟩ := read_same s
  simp [c_i_ReadScroll, r_i_ReadScroll_0, r_i_ReadScroll_1]
  refine ⟨fun hbig => ?_, fun hs => ?_⟩
  · have : readOkI s = false := by
      have : ¬ s.length ≤ 4000 := by omega
      simp [readOkI, this]
    rw [hsame] at this
    simp [r_i_ReadScroll_2, readM, readW, this]
  obtain ⟨hn, hr⟩ := rowsS s (by omega)
  simp [r_i_ReadScroll_3]
  refine callQ_of (strings_Split s 10 (by omega)) rfl (.inl (by simp)) (by simp) ?_
  simp [r_i_ReadScroll_4, p_i_ReadScroll_4]
  have hw0 : widthS s = (((parts 10 s).headD []).length : Int) - 4 := rfl
  have hI : implM s = joinW (((parts 10 s).drop 1).filterMap innerI) := rfl
  cases hp : parts 10 s with
  | nil => exact absurd hp (parts_ne s)
  | cons r0 R =>
  rw [hp] at hn hr hw0 hI
  simp at hw0 hI hn
  have hr0 := hr r0 (by simp)
  simp
  refine ⟨oEnd_of (by simp [p_i_ReadScroll_4]) (by simp), ?_⟩
  rw [wrap64 (by omega) (by omega), ← hw0]
  have htot : tot R ≤ 4001 := by
    have := tot_parts 10 s
    rw [hp] at this
    simp only [tot, List.map_cons, List.sum_cons] at this ⊢
    omega
  simp [r_i_ReadScroll_5, l_i_ReadScroll_12]
  refine ⟨by omega, ?_⟩
  refine loopK (fun k : Nat => ⟨[(0, S s), (6, .sl 20 0 ((R.take k).filterMap innerI).length), (7, I (widthS s)), (27, .sl 19 1 R.length), (28, I R.length), (29, I k)], [(20, ⟨1, ((R.take k).filterMap innerI).map S⟩), (19, ⟨1, S r0 :: R.map S⟩)], []⟩) (fun k => R.length - k) (fun k => k ≤ R.length) 0 (Wk.list rfl (by simp) (by simp)) (by simp) ?_
  intro k hk K hN hR hE
  simp [r_i_ReadScroll_6, r_i_ReadScroll_11]
  refine ⟨fun hlt => ?_, fun hge => ?_⟩
  · have hrk := hr R[k] (by simp)
    have hik := inner_take hlt
    have htk := tot_inner (R.take k)
    rw [List.length_take] at htk
    simp [r_i_ReadScroll_7, r_i_ReadScroll_8, hlt, Nat.add_comm 1 k]
    refine callQ_of (strings_CutPrefix R[k] [40, 32] (by omega)) rfl (.inl (by simp)) (by simp) ?_
    cases hpf : Lib.hasPrefix R[k] [40, 32] with
    | false =>
      have h0 : innerI R[k] = none := by unfold innerI; rw [hpf]; rfl
      rw [h0] at hik
      simp [r_i_ReadScroll_9, r_i_ReadScroll_11]
      rw [wrap64 (by omega) (by omega)]
      refine hN (k + 1) _ (by omega) (by omega) (Wk.list rfl ?_ ?_)
      · simp [hik]
      · simp [hik]
    | true =>
      have h0 : innerI R[k] = some (Lib.trimB (Lib.trimSuffix (Lib.trimPrefix R[k] [40, 32]) [32, 41]) 32) := by unfold innerI; rw [hpf]; rfl
      have hl1 := trimPrefix_len R[k] [40, 32]
      have hl2 : (Lib.trimSuffix (Lib.trimPrefix R[k] [40, 32]) [32, 41]).length ≤ (Lib.trimPrefix R[k] [40, 32]).length := by
        unfold Lib.trimSuffix
        split
        · rw [List.length_take]; omega
        · exact Nat.le_refl _
      rw [h0] at hik
      simp [r_i_ReadScroll_9, r_i_ReadScroll_10]
      refine callQ_v (strings_TrimSuffix (Lib.trimPrefix R[k] [40, 32]) [32, 41] (by omega)) ?_
      simp
      refine callQ_v (strings_Trim_one (Lib.trimSuffix (Lib.trimPrefix R[k] [40, 32]) [32, 41]) (by omega)) ?_
      generalize Lib.trimB (Lib.trimSuffix (Lib.trimPrefix R[k] [40, 32]) [32, 41]) 32 = x at hik
      simp
      refine ⟨by unfold lenBound; omega, ?_⟩
      rw [wrap64 (by omega) (by omega)]
      refine hN (k + 1) _ (by omega) (by omega) (Wk.trans (Wk.ren 44 20 (by decide) (by simp)) (Wk.list rfl ?_ ?_))
      · simp [hik]
      · simp [hik]
  · obtain rfl : k = R.length := by omega
    refine hE _ _ ?_
    simp only [blockK_exit]
    rw [List.take_length]
    have ht := tot_inner R
    have hj := joinW_tot (R.filterMap innerI)
    have hL : (joinW (R.filterMap innerI)).length ≤ 4001 := by omega
    simp [r_i_ReadScroll_13]
    refine callQ_v (PCall.arg (strings_Join_sp (R.filterMap innerI) (by omega) (by omega)) (by simp [List.take_of_length_le])) ?_
    rw [← hI] at hL ⊢
    simp [r_i_ReadScroll_14]
    refine callQ_of (i_ScrollPicture (implM s) (widthS s) (by omega)) rfl (.inl (by simp)) (by simp) ?_
    simp [r_i_ReadScroll_15]
    have hsI : readOkI s = (onScroll (implM s) (widthS s) && decide (scrollT (implM s) (widthS s) = s)) := by
      have : s.length ≤ 4000 := by omega
      simp [readOkI, this]
    rw [hsame] at hsI
    cases h1 : onScroll (implM s) (widthS s) with
    | false =>
      rw [h1] at hsI
      simp [r_i_ReadScroll_16, readM, readW, hsI]
    | true =>
      rw [h1] at hsI
      by_cases h2 : scrollT (implM s) (widthS s) = s
      · have hok : readOk s = true := by rw [hsI]; simp [h2]
        rw [hm hok] at h2 ⊢
        simp [r_i_ReadScroll_17, h2, readM, readW, hok]
      · have hok : readOk s = false := by rw [hsI]; simp [h2]
        simp [r_i_ReadScroll_16, h2, readM, readW, hok]
theorem byte32 {x : UInt8} : ((x.toNat : Nat) : Int) = 32 ↔ x = 32 := by
  constructor
  · intro h
    apply UInt8.toNat_inj.1
    have : (32 : UInt8).toNat = 32 := rfl
    omega
  · rintro rfl; rfl
theorem sjoin_step (acc x : List UInt8) (xs : List (List UInt8)) : sjoin acc (x :: xs) = sjoin ((if acc = [] then [] else acc ++ [32]) ++ x) xs := rfl
theorem trimSp_at {M : List UInt8} {a c : Nat} (ha : a ≤ M.length) (h1 : ∀ q b, q < a → M[q]? = some b → b = 32) (h2 : ∀ b, M[a]? = some b → b ≠ 32)
    (hc : c ≤ (M.drop a).length) (h3 : ∀ q b, c ≤ q → (M.drop a)[q]? = some b → b = 32) (h4 : ∀ b, 0 < c → (M.drop a)[c - 1]? = some b → b ≠ 32) : trimSp M = (M.drop a).take c := by
  unfold trimSp
  rw [Lib.trimLeftB_drop M 32 a ha h1 h2, Lib.trimRightB_take (M.drop a) 32 c hc h3 h4]
theorem s_ReadScroll (s : List UInt8) (hs0 : s.length ≤ 1048576) : PCall Tryz.prog n_s_ReadScroll [S s] (.tup [S (readM s), I (readW s), B (readOk s)]) := by
  have hpc := parts_count 10 s
  have hcl := count_le 10 s
  refine PCall.of fn_s_ReadScroll (by simp) ?_
  simp [c_s_ReadScroll, r_s_ReadScroll_0, r_s_ReadScroll_1]
  refine callQ_of (s_l1Split s 10 (by omega)) rfl (.inl (by simp)) (by simp) ?_
  simp [r_s_ReadScroll_2]
  have no1 : specOk s = false → readOk s = false := fun h => by rw [readOk, h]; rfl
  have bad : readOk s = false → readM s = [] ∧ readW s = 0 := fun h => by simp [readM, readW, h]
  refine ⟨fun hs => ⟨fun h4 => ?_, fun h4 => ?_⟩, fun hs => ?_⟩
  · have hr := no1 (by
      have : ¬ 4 ≤ (parts 10 s).length := by omega
      simp [specOk, this])
    simp [r_s_ReadScroll_3, bad hr, hr]
  rotate_left
  · have hr := no1 (by
      have : ¬ s.length ≤ 4000 := by omega
      simp [specOk, this])
    simp [r_s_ReadScroll_3, bad hr, hr]
  obtain ⟨hn, hr⟩ := rowsS s (by omega)
  have hw0 : widthS s = (((parts 10 s).head?.getD []).length : Int) - 4 := by rw [← List.headD_eq_head?_getD]; rfl
  have hmid : midRows s = ((parts 10 s).drop 1).take ((parts 10 s).length - 3) := rfl
  have hM : specM s = sjoin [] ((midRows s).map sinner) := rfl
  have htot := tot_parts 10 s
  have hOk : specOk s = (inR (widthS s) 1 40 && (midRows s).all fun r => decide ((r.length : Int) = widthS s + 4)) := by
    have h1 : s.length ≤ 4000 := by omega
    have h2 : 4 ≤ (parts 10 s).length := by omega
    simp [specOk, h1, h2]
  have hPO : ∃ P, parts 10 s = P := ⟨_, rfl⟩
  obtain ⟨P, hP⟩ := hPO
  rw [hP] at hn hr hw0 hmid htot h4 ⊢
  obtain ⟨L, hL⟩ : ∃ L, midRows s = L := ⟨_, rfl⟩
  rw [hL] at hmid hM hOk
  have hLl : L.length = P.length - 3 := by rw [hmid, List.length_take, List.length_drop]; omega
  have hLg : ∀ i (h : i < L.length), P[i + 1]? = some L[i] := fun i h => by
    have h1 : L[i]? = some L[i] := List.getElem?_eq_getElem h
    rw [← h1, hmid, List.getElem?_take, if_pos (by omega), List.getElem?_drop]
    congr 1; omega
  have hLm : ∀ r ∈ L, r.length ≤ 4000 := fun r h => hr r (List.mem_of_mem_drop (List.mem_of_mem_take (by rw [← hmid]; exact h)))
  have hhead : ∃ r0 R, P = r0 :: R := by
    cases P with
    | nil => simp at h4
    | cons r0 R => exact ⟨r0, R, rfl⟩
  have hP0 : P[0]? = some (P.head?.getD []) := by
    obtain ⟨r0, R, e⟩ := hhead
    rw [e]; rfl
  have hh0 := hr (P.head?.getD []) (List.mem_of_getElem? hP0)
  have hg0 : 0 < P.length := by omega
  have e0 : P[0] = P.head?.getD [] := by
    have := List.getElem?_eq_getElem hg0
    rw [hP0] at this
    exact (Option.some.inj this).symm
  simp [r_s_ReadScroll_4, hg0, e0]
  rw [wrap64 (by omega) (by omega), ← hw0]
  simp [r_s_ReadScroll_5, r_s_ReadScroll_6]
  refine callQ_v (s_l1In ..) ?_
  cases hin : inR (widthS s) 1 40 with
  | false =>
    have hr := no1 (by rw [hOk, hin]; rfl)
    simp [r_s_ReadScroll_7, bad hr, hr]
  | true =>
  have hin' := inR_iff.1 hin
  rw [hin, Bool.true_and] at hOk
  simp [r_s_ReadScroll_8, l_s_ReadScroll_23]
  refine loopK (fun p : Nat × List UInt8 => ⟨[(0, S s), (5, .sl 14 0 P.length), (6, I (widthS s)), (7, S p.2), (8, I ((p.1 : Int) + 1))], [(14, ⟨1, P.map S⟩)], []⟩) (fun p => L.length - p.1)
    (fun p => p.1 ≤ L.length ∧ ((L.take p.1).all fun r => decide ((r.length : Int) = widthS s + 4)) = true ∧ p.2.length ≤ 45 * p.1 ∧ sjoin [] (L.map sinner) = sjoin p.2 ((L.drop p.1).map sinner)) (0, []) (Wk.list rfl (by simp) (by simp)) ⟨by simp, by simp, by simp, by simp⟩ ?_
  rintro ⟨i, m⟩ ⟨hi, hj, hml, hmj⟩ K hN hR hE
  dsimp only at hi hj hml hmj ⊢
  simp [r_s_ReadScroll_9, r_s_ReadScroll_22]
  rw [wrap64 (by omega) (by omega)]
  refine ⟨fun hlt => ?_, fun hge => ?_⟩
  · have hiL : i < L.length := by omega
    have hPi := hLg i hiL
    have hiP : i + 1 < P.length := by omega
    have ePi : P[i + 1] = L[i] := by
      have := List.getElem?_eq_getElem hiP
      rw [hPi] at this
      exact (Option.some.inj this).symm
    have hLi := hLm L[i] (List.getElem_mem _)
    have e1 : ((i : Int) + 1).toNat = i + 1 := by omega
    have e2 : (i : Int) + 1 = ((i + 1 : Nat) : Int) := by omega
    rw [e2]
    have hwr : IntKind.i64.wrap (widthS s + 4) = widthS s + 4 := wrap64 (by omega) (by omega)
    simp [r_s_ReadScroll_10, hiP, ePi, hwr]
    refine ⟨by omega, fun hne => ?_, fun heq => ?_⟩
    · have hr := no1 (by rw [hOk]; exact all_false hiL (by simpa using hne))
      simp [r_s_ReadScroll_11]
      refine hR _ ?_
      simp [bad hr, hr]
    obtain ⟨r, hrr⟩ : ∃ r, L[i] = r := ⟨_, rfl⟩
    obtain ⟨M, hMM⟩ : ∃ M, (r.drop 2).take (r.length - 4) = M := ⟨_, rfl⟩
    have hMl : M.length = r.length - 4 := by rw [← hMM, List.length_take, List.length_drop]; omega
    have hMr : ∀ q, q < M.length → M[q]? = r[q + 2]? := fun q hq => by
      rw [← hMM, List.getElem?_take, if_pos (by omega), List.getElem?_drop]; congr 1; omega
    rw [hrr] at heq hLi ePi ⊢
    simp [r_s_ReadScroll_12, p_s_ReadScroll_12, hiP, ePi]
    refine ⟨by omega, oEnd_of (by simp [p_s_ReadScroll_12]) (by simp), ?_⟩
    rw [wrap64 (by omega) (by omega)]
    simp [l_s_ReadScroll_15]
    have hrl : (r.length : Int) = M.length + 4 := by omega
    refine loopK (fun a : Nat => ⟨[(0, S s), (5, .sl 14 0 P.length), (6, I (widthS s)), (7, S m), (8, I ((i : Int) + 1)), (9, I ((a : Int) + 2)), (10, I ((r.length : Int) - 2))], [(14, ⟨1, P.map S⟩)], []⟩) (fun a => M.length - a)
      (fun a => a ≤ M.length ∧ ∀ q b, q < a → M[q]? = some b → b = 32) 0 (Wk.list rfl (by simp) (by simp)) ⟨by omega, fun q b h => by omega⟩ ?_
    rintro a ⟨ha, haM⟩ K1 hN1 hR1 hE1
    have hMg : ∀ q (h : q < M.length), r[q + 2]? = some M[q] := fun q h => by rw [← hMr q h]; exact List.getElem?_eq_getElem h
    have hget : ∀ q (h : q < M.length) (h' : q + 2 < r.length), r[q + 2] = M[q] := fun q h h' => by
      have := List.getElem?_eq_getElem h'
      rw [hMg q h] at this
      exact (Option.some.inj this).symm
    simp [r_s_ReadScroll_13, hiP, ePi]
    refine ⟨fun hlt2 => ⟨by omega, ?_⟩, fun hge2 => ?_⟩
    · have haM' : a < M.length := by omega
      have ha2 : a + 2 < r.length := by omega
      rw [show ((a : Int) + 2).toNat = a + 2 by omega, hMg a haM', Option.getD_some]
      refine ⟨⟨by omega, by omega⟩, fun hsp => ?_, fun hns => ?_⟩
      · have hsp := byte32.1 hsp
        simp [r_s_ReadScroll_14]
        rw [wrap64 (by omega) (by omega)]
        refine hN1 (a + 1) _ (by omega) ⟨by omega, fun q b hq hb => ?_⟩ (Wk.list rfl (by simp; omega) (by simp))
        by_cases e : q = a
        · subst e
          rw [List.getElem?_eq_getElem haM'] at hb
          rw [← Option.some.inj hb]; exact hsp
        · exact haM q b (by omega) hb
      · have hns : M[a] ≠ 32 := fun e => hns (byte32.2 e)
        refine hE1 _ _ ?_
        simp only [blockK_exit]
        have hstop : ∀ b, M[a]? = some b → b ≠ 32 := fun b hb => by
          rw [List.getElem?_eq_getElem haM'] at hb
          rw [← Option.some.inj hb]; exact hns
        obtain ⟨M', hM'⟩ : ∃ M', M.drop a = M' := ⟨_, rfl⟩
        have hMl' : M'.length = M.length - a := by rw [← hM', List.length_drop]
        have hMg' : ∀ q (h : q < M'.length), r[q + a + 2]? = some M'[q] := fun q h => by
          have h1 : M'[q]? = some M'[q] := List.getElem?_eq_getElem h
          rw [← h1, ← hM', List.getElem?_drop, Nat.add_comm a q]
          exact (hMr (q + a) (by omega)).symm
        simp [l_s_ReadScroll_18]
        refine loopK (fun c : Nat => ⟨[(0, S s), (5, .sl 14 0 P.length), (6, I (widthS s)), (7, S m), (8, I ((i : Int) + 1)), (9, I ((a : Int) + 2)), (10, I ((a : Int) + 2 + c))], [(14, ⟨1, P.map S⟩)], []⟩) (fun c => c)
          (fun c => c ≤ M'.length ∧ ∀ q b, c ≤ q → M'[q]? = some b → b = 32) M'.length (Wk.list rfl (by simp; omega) (by simp)) ⟨by omega, fun q b h hb => by rw [List.getElem?_eq_none (by omega)] at hb; cases hb⟩ ?_
        rintro c ⟨hc, hcM⟩ K2 hN2 hR2 hE2
        simp [r_s_ReadScroll_16, hiP, ePi]
        refine ⟨fun hpos => ⟨by omega, ?_⟩, fun hzero => ?_⟩
        · obtain ⟨c, rfl⟩ : ∃ c', c = c' + 1 := ⟨c - 1, by omega⟩
          have hcM' : c < M'.length := by omega
          have hw1 : IntKind.i64.wrap ((a : Int) + 2 + ((c + 1 : Nat) : Int) - 1) = ((c + a + 2 : Nat) : Int) := by rw [wrap64 (by omega) (by omega)]; omega
          rw [hw1, Int.toNat_natCast, hMg' c hcM', Option.getD_some]
          refine ⟨⟨by omega, by omega⟩, fun hsp => ?_, fun hns => ?_⟩
          · have hsp := byte32.1 hsp
            simp [r_s_ReadScroll_17]
            rw [wrap64 (by omega) (by omega)]
            refine hN2 c _ (by omega) ⟨by omega, fun q b hq hb => ?_⟩ (Wk.list rfl (by simp; omega) (by simp))
            by_cases e : q = c
            · subst e
              rw [List.getElem?_eq_getElem hcM'] at hb
              rw [← Option.some.inj hb]; exact hsp
            · exact hcM q b (by omega) hb
          · have hns : M'[c] ≠ 32 := fun e => hns (byte32.2 e)
            have hstop2 : ∀ b, 0 < c + 1 → M'[c + 1 - 1]? = some b → b ≠ 32 := fun b _ hb => by
              rw [Nat.add_sub_cancel, List.getElem?_eq_getElem hcM'] at hb
              rw [← Option.some.inj hb]; exact hns
            refine hE2 _ _ ?_
            simp only [blockK_exit]
            generalize c + 1 = c at *
            have hin2 : sinner r = M'.take c := by
              unfold sinner
              rw [hMM, trimSp_at ha haM hstop (by rw [hM']; exact hc) (by rw [hM']; exact hcM) (by rw [hM']; exact hstop2), hM']
            have hcut : (r.take (a + 2 + c)).drop (a + 2) = M'.take c := by
              rw [List.drop_take, show a + 2 + c - (a + 2) = c by omega, ← hM', ← hMM, List.drop_take, List.take_take, List.drop_drop, show min c (r.length - 4 - a) = c by omega, Nat.add_comm 2 a]
            have hcut2 : (r.drop (a + 2)).take c = M'.take c := by
              rw [← hcut, List.drop_take, show a + 2 + c - (a + 2) = c by omega]
            have hcl2 : (M'.take c).length ≤ 40 := by rw [List.length_take]; omega
            have hstep : sjoin m ((L.drop i).map sinner) = sjoin ((if m = [] then [] else m ++ [32]) ++ M'.take c) ((L.drop (i + 1)).map sinner) := by
              rw [drop_cons hiL, List.map_cons, sjoin_step, hrr, hin2]
            have hnum : ((a : Int) + 2).toNat = a + 2 ∧ ((a : Int) + 2 + c).toNat = a + 2 + c := ⟨by omega, by omega⟩
            have hallN : ((L.take (i + 1)).all fun r => decide ((r.length : Int) = widthS s + 4)) = true := by
              rw [all_take_succ hiL, hj, hrr]
              simpa using heq
            by_cases hm0 : m = []
            · subst hm0
              simp [r_s_ReadScroll_19]
              simp [r_s_ReadScroll_21, hiP, ePi, hnum, hcut2]
              refine ⟨⟨by omega, by omega⟩, ⟨by omega, by omega, by omega⟩, by omega, ?_⟩
              rw [wrap64 (by omega) (by omega)]
              refine hN (i + 1, M'.take c) _ (by dsimp only; omega) ⟨by dsimp only; omega, hallN, by dsimp only; omega, ?_⟩ (Wk.list rfl (by simp) (by simp))
              rw [hmj, hstep]; rfl
            · simp [r_s_ReadScroll_19, r_s_ReadScroll_20, hm0]
              refine ⟨by omega, ?_⟩
              simp [r_s_ReadScroll_21, hiP, ePi, hnum, hcut2]
              refine ⟨⟨by omega, by omega⟩, ⟨by omega, by omega, by omega⟩, by omega, ?_⟩
              rw [wrap64 (by omega) (by omega)]
              refine hN (i + 1, m ++ [32] ++ M'.take c) _ (by dsimp only; omega) ⟨by dsimp only; omega, hallN, ?_, ?_⟩ (Wk.list rfl (by simp) (by simp))
              · dsimp only
                simp only [List.length_append, List.length_cons, List.length_nil]
                omega
              · rw [hmj, hstep, if_neg hm0]
        · have hstop2 : ∀ b, 0 < c → M'[c - 1]? = some b → b ≠ 32 := fun b h _ => by omega
          refine hE2 _ _ ?_
          simp only [blockK_exit]
          have hin2 : sinner r = M'.take c := by
            unfold sinner
            rw [hMM, trimSp_at ha haM hstop (by rw [hM']; exact hc) (by rw [hM']; exact hcM) (by rw [hM']; exact hstop2), hM']
          have hcut : (r.take (a + 2 + c)).drop (a + 2) = M'.take c := by
            rw [List.drop_take, show a + 2 + c - (a + 2) = c by omega, ← hM', ← hMM, List.drop_take, List.take_take, List.drop_drop, show min c (r.length - 4 - a) = c by omega, Nat.add_comm 2 a]
          have hcut2 : (r.drop (a + 2)).take c = M'.take c := by
            rw [← hcut, List.drop_take, show a + 2 + c - (a + 2) = c by omega]
          have hcl2 : (M'.take c).length ≤ 40 := by rw [List.length_take]; omega
          have hstep : sjoin m ((L.drop i).map sinner) = sjoin ((if m = [] then [] else m ++ [32]) ++ M'.take c) ((L.drop (i + 1)).map sinner) := by
            rw [drop_cons hiL, List.map_cons, sjoin_step, hrr, hin2]
          have hnum : ((a : Int) + 2).toNat = a + 2 ∧ ((a : Int) + 2 + c).toNat = a + 2 + c := ⟨by omega, by omega⟩
          have hallN : ((L.take (i + 1)).all fun r => decide ((r.length : Int) = widthS s + 4)) = true := by
            rw [all_take_succ hiL, hj, hrr]
            simpa using heq
          by_cases hm0 : m = []
          · subst hm0
            simp [r_s_ReadScroll_19]
            simp [r_s_ReadScroll_21, hiP, ePi, hnum, hcut2]
            refine ⟨⟨by omega, by omega⟩, ⟨by omega, by omega, by omega⟩, by omega, ?_⟩
            rw [wrap64 (by omega) (by omega)]
            refine hN (i + 1, M'.take c) _ (by dsimp only; omega) ⟨by dsimp only; omega, hallN, by dsimp only; omega, ?_⟩ (Wk.list rfl (by simp) (by simp))
            rw [hmj, hstep]; rfl
          · simp [r_s_ReadScroll_19, r_s_ReadScroll_20, hm0]
            refine ⟨by omega, ?_⟩
            simp [r_s_ReadScroll_21, hiP, ePi, hnum, hcut2]
            refine ⟨⟨by omega, by omega⟩, ⟨by omega, by omega, by omega⟩, by omega, ?_⟩
            rw [wrap64 (by omega) (by omega)]
            refine hN (i + 1, m ++ [32] ++ M'.take c) _ (by dsimp only; omega) ⟨by dsimp only; omega, hallN, ?_, ?_⟩ (Wk.list rfl (by simp) (by simp))
            · dsimp only
              simp only [List.length_append, List.length_cons, List.length_nil]
              omega
            · rw [hmj, hstep, if_neg hm0]
    · have hstop : ∀ b, M[a]? = some b → b ≠ 32 := fun b hb => by
        rw [List.getElem?_eq_none (by omega)] at hb; cases hb
      refine hE1 _ _ ?_
      simp only [blockK_exit]
      obtain ⟨M', hM'⟩ : ∃ M', M.drop a = M' := ⟨_, rfl⟩
      have hMl' : M'.length = M.length - a := by rw [← hM', List.length_drop]
      have hMg' : ∀ q (h : q < M'.length), r[q + a + 2]? = some M'[q] := fun q h => by
        have h1 : M'[q]? = some M'[q] := List.getElem?_eq_getElem h
        rw [← h1, ← hM', List.getElem?_drop, Nat.add_comm a q]
        exact (hMr (q + a) (by omega)).symm
      simp [l_s_ReadScroll_18]
      refine loopK (fun c : Nat => ⟨[(0, S s), (5, .sl 14 0 P.length), (6, I (widthS s)), (7, S m), (8, I ((i : Int) + 1)), (9, I ((a : Int) + 2)), (10, I ((a : Int) + 2 + c))], [(14, ⟨1, P.map S⟩)], []⟩) (fun c => c)
        (fun c => c ≤ M'.length ∧ ∀ q b, c ≤ q → M'[q]? = some b → b = 32) M'.length (Wk.list rfl (by simp; omega) (by simp)) ⟨by omega, fun q b h hb => by rw [List.getElem?_eq_none (by omega)] at hb; cases hb⟩ ?_
      rintro c ⟨hc, hcM⟩ K2 hN2 hR2 hE2
      simp [r_s_ReadScroll_16, hiP, ePi]
      refine ⟨fun hpos => ⟨by omega, ?_⟩, fun hzero => ?_⟩
      · obtain ⟨c, rfl⟩ : ∃ c', c = c' + 1 := ⟨c - 1, by omega⟩
        have hcM' : c < M'.length := by omega
        have hw1 : IntKind.i64.wrap ((a : Int) + 2 + ((c + 1 : Nat) : Int) - 1) = ((c + a + 2 : Nat) : Int) := by rw [wrap64 (by omega) (by omega)]; omega
        rw [hw1, Int.toNat_natCast, hMg' c hcM', Option.getD_some]
        refine ⟨⟨by omega, by omega⟩, fun hsp => ?_, fun hns => ?_⟩
        · have hsp := byte32.1 hsp
          simp [r_s_ReadScroll_17]
          rw [wrap64 (by omega) (by omega)]
          refine hN2 c _ (by omega) ⟨by omega, fun q b hq hb => ?_⟩ (Wk.list rfl (by simp; omega) (by simp))
          by_cases e : q = c
          · subst e
            rw [List.getElem?_eq_getElem hcM'] at hb
            rw [← Option.some.inj hb]; exact hsp
          · exact hcM q b (by omega) hb
        · have hns : M'[c] ≠ 32 := fun e => hns (byte32.2 e)
          have hstop2 : ∀ b, 0 < c + 1 → M'[c + 1 - 1]? = some b → b ≠ 32 := fun b _ hb => by
            rw [Nat.add_sub_cancel, List.getElem?_eq_getElem hcM'] at hb
            rw [← Option.some.inj hb]; exact hns
          refine hE2 _ _ ?_
          simp only [blockK_exit]
          generalize c + 1 = c at *
          have hin2 : sinner r = M'.take c := by
            unfold sinner
            rw [hMM, trimSp_at ha haM hstop (by rw [hM']; exact hc) (by rw [hM']; exact hcM) (by rw [hM']; exact hstop2), hM']
          have hcut : (r.take (a + 2 + c)).drop (a + 2) = M'.take c := by
            rw [List.drop_take, show a + 2 + c - (a + 2) = c by omega, ← hM', ← hMM, List.drop_take, List.take_take, List.drop_drop, show min c (r.length - 4 - a) = c by omega, Nat.add_comm 2 a]
          have hcut2 : (r.drop (a + 2)).take c = M'.take c := by
            rw [← hcut, List.drop_take, show a + 2 + c - (a + 2) = c by omega]
          have hcl2 : (M'.take c).length ≤ 40 := by rw [List.length_take]; omega
          have hstep : sjoin m ((L.drop i).map sinner) = sjoin ((if m = [] then [] else m ++ [32]) ++ M'.take c) ((L.drop (i + 1)).map sinner) := by
            rw [drop_cons hiL, List.map_cons, sjoin_step, hrr, hin2]
          have hnum : ((a : Int) + 2).toNat = a + 2 ∧ ((a : Int) + 2 + c).toNat = a + 2 + c := ⟨by omega, by omega⟩
          have hallN : ((L.take (i + 1)).all fun r => decide ((r.length : Int) = widthS s + 4)) = true := by
            rw [all_take_succ hiL, hj, hrr]
            simpa using heq
          by_cases hm0 : m = []
          · subst hm0
            simp [r_s_ReadScroll_19]
            simp [r_s_ReadScroll_21, hiP, ePi, hnum, hcut2]
            refine ⟨⟨by omega, by omega⟩, ⟨by omega, by omega, by omega⟩, by omega, ?_⟩
            rw [wrap64 (by omega) (by omega)]
            refine hN (i + 1, M'.take c) _ (by dsimp only; omega) ⟨by dsimp only; omega, hallN, by dsimp only; omega, ?_⟩ (Wk.list rfl (by simp) (by simp))
            rw [hmj, hstep]; rfl
          · simp [r_s_ReadScroll_19, r_s_ReadScroll_20, hm0]
            refine ⟨by omega, ?_⟩
            simp [r_s_ReadScroll_21, hiP, ePi, hnum, hcut2]
            refine ⟨⟨by omega, by omega⟩, ⟨by omega, by omega, by omega⟩, by omega, ?_⟩
            rw [wrap64 (by omega) (by omega)]
            refine hN (i + 1, m ++ [32] ++ M'.take c) _ (by dsimp only; omega) ⟨by dsimp only; omega, hallN, ?_, ?_⟩ (Wk.list rfl (by simp) (by simp))
            · dsimp only
              simp only [List.length_append, List.length_cons, List.length_nil]
              omega
            · rw [hmj, hstep, if_neg hm0]
      · have hstop2 : ∀ b, 0 < c → M'[c - 1]? = some b → b ≠ 32 := fun b h _ => by omega
        refine hE2 _ _ ?_
        simp only [blockK_exit]
        have hin2 : sinner r = M'.take c := by
          unfold sinner
          rw [hMM, trimSp_at ha haM hstop (by rw [hM']; exact hc) (by rw [hM']; exact hcM) (by rw [hM']; exact hstop2), hM']
        have hcut : (r.take (a + 2 + c)).drop (a + 2) = M'.take c := by
          rw [List.drop_take, show a + 2 + c - (a + 2) = c by omega, ← hM', ← hMM, List.drop_take, List.take_take, List.drop_drop, show min c (r.length - 4 - a) = c by omega, Nat.add_comm 2 a]
        have hcut2 : (r.drop (a + 2)).take c = M'.take c := by
          rw [← hcut, List.drop_take, show a + 2 + c - (a + 2) = c by omega]
        have hcl2 : (M'.take c).length ≤ 40 := by rw [List.length_take]; omega
        have hstep : sjoin m ((L.drop i).map sinner) = sjoin ((if m = [] then [] else m ++ [32]) ++ M'.take c) ((L.drop (i + 1)).map sinner) := by
          rw [drop_cons hiL, List.map_cons, sjoin_step, hrr, hin2]
        have hnum : ((a : Int) + 2).toNat = a + 2 ∧ ((a : Int) + 2 + c).toNat = a + 2 + c := ⟨by omega, by omega⟩
        have hallN : ((L.take (i + 1)).all fun r => decide ((r.length : Int) = widthS s + 4)) = true := by
          rw [all_take_succ hiL, hj, hrr]
          simpa using heq
        by_cases hm0 : m = []
        · subst hm0
          simp [r_s_ReadScroll_19]
          simp [r_s_ReadScroll_21, hiP, ePi, hnum, hcut2]
          refine ⟨⟨by omega, by omega⟩, ⟨by omega, by omega, by omega⟩, by omega, ?_⟩
          rw [wrap64 (by omega) (by omega)]
          refine hN (i + 1, M'.take c) _ (by dsimp only; omega) ⟨by dsimp only; omega, hallN, by dsimp only; omega, ?_⟩ (Wk.list rfl (by simp) (by simp))
          rw [hmj, hstep]; rfl
        · simp [r_s_ReadScroll_19, r_s_ReadScroll_20, hm0]
          refine ⟨by omega, ?_⟩
          simp [r_s_ReadScroll_21, hiP, ePi, hnum, hcut2]
          refine ⟨⟨by omega, by omega⟩, ⟨by omega, by omega, by omega⟩, by omega, ?_⟩
          rw [wrap64 (by omega) (by omega)]
          refine hN (i + 1, m ++ [32] ++ M'.take c) _ (by dsimp only; omega) ⟨by dsimp only; omega, hallN, ?_, ?_⟩ (Wk.list rfl (by simp) (by simp))
          · dsimp only
            simp only [List.length_append, List.length_cons, List.length_nil]
            omega
          · rw [hmj, hstep, if_neg hm0]
  · have hiL : i = L.length := by omega
    subst hiL
    rw [List.take_length] at hj
    rw [List.drop_length] at hmj
    have hM' : specM s = m := by rw [hM, hmj]; rfl
    refine hE _ _ ?_
    simp only [blockK_exit]
    simp [r_s_ReadScroll_24]
    refine callQ_of (s_ScrollPicture m (widthS s) (by omega)) rfl (.inl (by simp)) (by simp) ?_
    simp [r_s_ReadScroll_25]
    have hok : readOk s = (onScroll m (widthS s) && decide (scrollT m (widthS s) = s)) := by
      rw [readOk, hOk, hj, hM', Bool.true_and]
    cases h1 : onScroll m (widthS s) with
    | false =>
      rw [h1] at hok
      have hok : readOk s = false := by rw [hok]; rfl
      simp [r_s_ReadScroll_26, bad hok, hok]
    | true =>
      rw [h1] at hok
      by_cases h2 : scrollT m (widthS s) = s
      · have hok : readOk s = true := by rw [hok]; simp [h2]
        simp [r_s_ReadScroll_27, h2, readM, readW, hok, hM']
      · have hok : readOk s = false := by rw [hok]; simp [h2]
        simp [r_s_ReadScroll_26, h2, bad hok, hok]
end Go.Proofs.YtopcfaffljjnbaaGreatDoor
