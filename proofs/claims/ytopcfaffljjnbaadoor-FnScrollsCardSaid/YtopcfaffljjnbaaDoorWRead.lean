/- ReadScroll: program, reference, law. -/
import Derived.Test.YtopcfaffljjnbaaDoorCodeWRead
import Derived.Test.YtopcfaffljjnbaaDoorReadLaw
import Derived.Test.YtopcfaffljjnbaaDoorJoins
set_option linter.unusedVariables false
set_option linter.unusedSimpArgs false
namespace Go.Proofs.YtopcfaffljjnbaaDoor
open Go.Abs

theorem rowsS (s : List UInt8) (hs : s.length ≤ 4000) : (parts 10 s).length ≤ 4001 ∧ ∀ r ∈ parts 10 s, r.length ≤ 4000 := by
  have h1 := parts_count 10 s
  have h2 := count_le 10 s
  exact ⟨by omega, fun r hr => by have := parts_short hr; omega⟩
theorem innerI_len {r x : List UInt8} (h : innerI r = some x) : x.length ≤ r.length := by
  unfold innerI at h
  split at h
  · simp only [Option.some.injEq] at h
    subst h
    have h1 := trimB_len (Lib.trimSuffix (Lib.trimPrefix r [40, 32]) [32, 41]) 32
    have h2 : (Lib.trimSuffix (Lib.trimPrefix r [40, 32]) [32, 41]).length ≤ (Lib.trimPrefix r [40, 32]).length := by
      unfold Lib.trimSuffix
      split
      · rw [List.length_take]; omega
      · exact Nat.le_refl _
    have h3 := trimPrefix_len r [40, 32]
    omega
  · cases h
theorem tot_inner : ∀ l : List (List UInt8), tot (l.filterMap innerI) ≤ tot l ∧ (l.filterMap innerI).length ≤ l.length
  | [] => by simp
  | r :: l => by
    have ih := tot_inner l
    rw [List.filterMap_cons]
    cases h : innerI r with
    | none => simp only [tot, List.map_cons, List.sum_cons, List.length_cons] at ih ⊢; omega
    | some x =>
      have := innerI_len h
      simp only [tot, List.map_cons, List.sum_cons, List.length_cons] at ih ⊢; omega
theorem inner_take {l : List (List UInt8)} {i : Nat} (h : i < l.length) : (l.take (i + 1)).filterMap innerI = (l.take i).filterMap innerI ++ (match innerI l[i] with | some x => [x] | none => []) := by
  rw [take_succ' h, List.filterMap_append]
  congr 1
  rw [List.filterMap_cons]
  cases innerI l[i] <;> rfl
theorem i_ReadScroll (s : List UInt8) : PCall Tryd.prog n_i_ReadScroll [S s] (.tup [S (readM s), I (readW s), B (readOk s)]) := by
  refine PCall.ofL fn_i_ReadScroll (by simp) fun hl0 => ?_
  simp at hl0
  obtain ⟨hsame, hm⟩ := read_same s
  simp [c_i_ReadScroll, r_i_ReadScroll_0, r_i_ReadScroll_1]
  refine ⟨fun hbig => ?_, fun hs => ?_⟩
  · have : readOkI s = false := by
      have : ¬ s.length ≤ 4000 := by omega
      simp [readOkI, this]
    rw [hsame] at this
    simp [r_i_ReadScroll_2, readM, readW, this]
  obtain ⟨hn, hr⟩ := rowsS s (by omega)
  simp [r_i_ReadScroll_3]
  refine callQ_of (strings_Split s 10 (by omega)) rfl (.inl (by simp)) (by simp) ?_
  simp [r_i_ReadScroll_4, p_i_ReadScroll_4]
  have hw0 : widthS s = (((parts 10 s).headD []).length : Int) - 4 := rfl
  have hI : implM s = joinW (((parts 10 s).drop 1).filterMap innerI) := rfl
  cases hp : parts 10 s with
  | nil => exact absurd hp (parts_ne s)
  | cons r0 R =>
  rw [hp] at hn hr hw0 hI
  simp at hw0 hI hn
  have hr0 := hr r0 (by simp)
  simp
  refine ⟨oEnd_of (by simp [p_i_ReadScroll_4]) (by simp), ?_⟩
  rw [wrap64 (by omega) (by omega), ← hw0]
  have htot : tot R ≤ 4001 := by
    have := tot_parts 10 s
    rw [hp] at this
    simp only [tot, List.map_cons, List.sum_cons] at this ⊢
    omega
  simp [r_i_ReadScroll_5, l_i_ReadScroll_12]
  refine ⟨by omega, ?_⟩
  refine loopK (fun k : Nat => ⟨[(0, S s), (6, .sl 20 0 ((R.take k).filterMap innerI).length), (7, I (widthS s)), (27, .sl 19 1 R.length), (28, I R.length), (29, I k)], [(20, ⟨1, ((R.take k).filterMap innerI).map S⟩), (19, ⟨1, S r0 :: R.map S⟩)], []⟩) (fun k => R.length - k) (fun k => k ≤ R.length) 0 (Wk.list rfl (by simp) (by simp)) (by simp) ?_
  intro k hk K hN hR hE
  simp [r_i_ReadScroll_6, r_i_ReadScroll_11]
  refine ⟨fun hlt => ?_, fun hge => ?_⟩
  · have hrk := hr R[k] (by simp)
    have hik := inner_take hlt
    have htk := tot_inner (R.take k)
    rw [List.length_take] at htk
    simp [r_i_ReadScroll_7, r_i_ReadScroll_8, hlt, Nat.add_comm 1 k]
    refine callQ_of (strings_CutPrefix R[k] [40, 32] (by omega)) rfl (.inl (by simp)) (by simp) ?_
    cases hpf : Lib.hasPrefix R[k] [40, 32] with
    | false =>
      have h0 : innerI R[k] = none := by unfold innerI; rw [hpf]; rfl
      rw [h0] at hik
      simp [r_i_ReadScroll_9, r_i_ReadScroll_11]
      rw [wrap64 (by omega) (by omega)]
      refine hN (k + 1) _ (by omega) (by omega) (Wk.list rfl ?_ ?_)
      · simp [hik]
      · simp [hik]
    | true =>
      have h0 : innerI R[k] = some (Lib.trimB (Lib.trimSuffix (Lib.trimPrefix R[k] [40, 32]) [32, 41]) 32) := by unfold innerI; rw [hpf]; rfl
      have hl1 := trimPrefix_len R[k] [40, 32]
      have hl2 : (Lib.trimSuffix (Lib.trimPrefix R[k] [40, 32]) [32, 41]).length ≤ (Lib.trimPrefix R[k] [40, 32]).length := by
        unfold Lib.trimSuffix
        split
        · rw [List.length_take]; omega
        · exact Nat.le_refl _
      rw [h0] at hik
      simp [r_i_ReadScroll_9, r_i_ReadScroll_10]
      refine callQ_v (strings_TrimSuffix (Lib.trimPrefix R[k] [40, 32]) [32, 41] (by omega)) ?_
      simp
      refine callQ_v (strings_Trim_one (Lib.trimSuffix (Lib.trimPrefix R[k] [40, 32]) [32, 41]) (by omega)) ?_
      generalize Lib.trimB (Lib.trimSuffix (Lib.trimPrefix R[k] [40, 32]) [32, 41]) 32 = x at hik
      simp
      refine ⟨by unfold lenBound; omega, ?_⟩
      rw [wrap64 (by omega) (by omega)]
      refine hN (k + 1) _ (by omega) (by omega) (Wk.trans (Wk.ren 44 20 (by decide) (by simp)) (Wk.list rfl ?_ ?_))
      · simp [hik]
      · simp [hik]
  · obtain rfl : k = R.length := by omega
    refine hE _ _ ?_
    simp only [blockK_exit]
    rw [List.take_length]
    have ht := tot_inner R
    have hj := joinW_tot (R.filterMap innerI)
    have hL : (joinW (R.filterMap innerI)).length ≤ 4001 := by omega
    simp [r_i_ReadScroll_13]
    refine callQ_v (PCall.arg (strings_Join_sp (R.filterMap innerI) (by omega) (by omega)) (by simp [List.take_of_length_le])) ?_
    rw [← hI] at hL ⊢
    simp [r_i_ReadScroll_14]
    refine callQ_of (i_ScrollPicture (implM s) (widthS s) (by omega)) rfl (.inl (by simp)) (by simp) ?_
    simp [r_i_ReadScroll_15]
    have hsI : readOkI s = (onScroll (implM s) (widthS s) && decide (scrollT (implM s) (widthS s) = s)) := by
      have : s.length ≤ 4000 := by omega
      simp [readOkI, this]
    rw [hsame] at hsI
    cases h1 : onScroll (implM s) (widthS s) with
    | false =>
      rw [h1] at hsI
      simp [r_i_ReadScroll_16, readM, readW, hsI]
    | true =>
      rw [h1] at hsI
      by_cases h2 : scrollT (implM s) (widthS s) = s
      · have hok : readOk s = true := by rw [hsI]; simp [h2]
        rw [hm hok] at h2 ⊢
        simp [r_i_ReadScroll_17, h2, readM, readW, hok]
      · have hok : readOk s = false := by rw [hsI]; simp [h2]
        simp [r_i_ReadScroll_16, h2, readM, readW, hok]
theorem byte32 {x : UInt8} : ((x.toNat : Nat) : Int) = 32 ↔ x = 32 := by
  constructor
  · intro h
    apply UInt8.toNat_inj.1
    have : (32 : UInt8).toNat = 32 := rfl
    omega
  · rintro rfl; rfl
theorem sjoin_step (acc x : List UInt8) (xs : List (List UInt8)) : sjoin acc (x :: xs) = sjoin ((if acc = [] then [] else acc ++ [32]) ++ x) xs := rfl
theorem trimSp_at {M : List UInt8} {a c : Nat} (ha : a ≤ M.length) (h1 : ∀ q b, q < a → M[q]? = some b → b = 32) (h2 : ∀ b, M[a]? = some b → b ≠ 32)
    (hc : c ≤ (M.drop a).length) (h3 : ∀ q b, c ≤ q → (M.drop a)[q]? = some b → b = 32) (h4 : ∀ b, 0 < c → (M.drop a)[c - 1]? = some b → b ≠ 32) : trimSp M = (M.drop a).take c := by
  unfold trimSp
  rw [Lib.trimLeftB_drop M 32 a ha h1 h2, Lib.trimRightB_take (M.drop a) 32 c hc h3 h4]
end Go.Proofs.YtopcfaffljjnbaaDoor
