/- SharedWords: program, reference, law. -/
import Derived.Test.YtopcfaffljjnbaaGreatDoorSharedLaw
import Derived.Test.YtopcfaffljjnbaaGreatDoorWFill
set_option linter.unusedVariables false
set_option linter.unusedSimpArgs false
namespace Go.Proofs.YtopcfaffljjnbaaGreatDoor
open Go.Abs

def sharedW (a b : List UInt8) : List (List UInt8) := (parts 32 a).filter fun x => decide (x ∈ parts 32 b)
def sharedOk (a b : List UInt8) : Bool := motto a && motto b
def sharedL (a b : List UInt8) : List (List UInt8) := if sharedOk a b then Lib.compact (sortS (sharedW a b)) else []
theorem motto_short {s : List UInt8} (h : motto s = true) : s.length ≤ 60 := by
  simp only [motto, Bool.and_eq_true, inR_iff] at h
  omega
theorem i_SharedWords (a b : List UInt8) : PCall Tryz.prog n_i_SharedWords [S a, S b] (.tup [.own 1 ((sharedL a b).map S), B (sharedOk a b)]) := by
  refine PCall.ofN fn_i_SharedWords (by simp) ?_
  simp [c_i_SharedWords, r_i_SharedWords_0, r_i_SharedWords_1]
  refine callQ_v (i_IsValidMotto a) ?_
  cases h1 : motto a with
  | false => simp [r_i_SharedWords_2, sharedL, sharedOk, h1]
  | true =>
  simp
  refine callQ_v (i_IsValidMotto b) ?_
  cases h2 : motto b with
  | false => simp [r_i_SharedWords_2, sharedL, sharedOk, h1, h2]
  | true =>
  have ha := motto_short h1
  have hb := motto_short h2
  have hpa := parts_count 32 a
  have hca := count_le 32 a
  have hpb := parts_count 32 b
  have hcb := count_le 32 b
  have hok : sharedL a b = Lib.compact (sortS (sharedW a b)) := by simp [sharedL, sharedOk, h1, h2]
  have hok2 : sharedOk a b = true := by simp [sharedOk, h1, h2]
  simp [r_i_SharedWords_3, hok, hok2]
  refine callQ_of (strings_Split b 32 (by omega)) rfl (.inl (by simp)) (by simp) ?_
  simp [r_i_SharedWords_4]
  refine callQ_of (strings_Split a 32 (by omega)) rfl (.inl (by simp)) (by simp) ?_
  simp [l_i_SharedWords_10]
  rw [hok, hok2]
  obtain ⟨A, hA⟩ : ∃ A, parts 32 a = A := ⟨_, rfl⟩
  obtain ⟨C, hC⟩ : ∃ C, parts 32 b = C := ⟨_, rfl⟩
  have hW : sharedW a b = A.filter fun x => decide (x ∈ C) := by rw [sharedW, hA, hC]
  rw [hA] at hpa ⊢
  rw [hC] at hpb ⊢
  rw [hW]
  refine loopK (fun k : Nat => ⟨[(6, .sl 18 0 ((A.take k).filter fun x => decide (x ∈ C)).length), (7, .sl 20 0 C.length), (22, .sl 22 0 A.length), (23, I A.length), (24, I k)], [(18, ⟨1, ((A.take k).filter fun x => decide (x ∈ C)).map S⟩), (22, ⟨1, A.map S⟩), (20, ⟨1, C.map S⟩)], []⟩)
    (fun k => A.length - k) (fun k => k ≤ A.length) 0 (Wk.list rfl (by simp) (by simp)) (by simp) ?_
  intro k hk K hN hR hE
  have hlf := List.length_filter_le (fun x => decide (x ∈ C)) (A.take k)
  rw [List.length_take] at hlf
  simp [r_i_SharedWords_5, r_i_SharedWords_9]
  refine ⟨fun hlt => ?_, fun hge => ?_⟩
  · have hf : (A.take (k + 1)).filter (fun x => decide (x ∈ C)) = (A.take k).filter (fun x => decide (x ∈ C)) ++ (if decide (A[k] ∈ C) then [A[k]] else []) := by
      rw [take_succ' hlt, List.filter_append]
      congr 1
      rw [List.filter_cons]
      split <;> rfl
    simp [r_i_SharedWords_6, r_i_SharedWords_7, hlt]
    refine callQ_v (PCall.arg (slices_Contains_string_string C A[k] (by omega)) (by simp [List.take_of_length_le])) ?_
    rw [List.contains_eq_mem]
    cases hc : decide (A[k] ∈ C) with
    | false =>
      rw [hc] at hf
      simp
      rw [wrap64 (by omega) (by omega)]
      refine hN (k + 1) _ (by omega) (by omega) (Wk.list rfl ?_ ?_)
      · rw [hf]; simp
      · rw [hf]; simp
    | true =>
      rw [hc] at hf
      simp [r_i_SharedWords_8]
      refine ⟨by unfold lenBound; omega, ?_⟩
      rw [wrap64 (by omega) (by omega)]
      refine hN (k + 1) _ (by omega) (by omega) (Wk.trans (Wk.ren 34 18 (by decide) (by simp)) (Wk.list rfl ?_ ?_))
      · rw [hf]; simp
      · rw [hf]; simp
  · obtain rfl : k = A.length := by omega
    refine hE _ _ ?_
    simp only [blockK_exit]
    rw [List.take_length] at hlf ⊢
    obtain ⟨F, hF⟩ : ∃ F, (A.filter fun x => decide (x ∈ C)) = F := ⟨_, rfl⟩
    rw [hF] at hlf ⊢
    have hsl := sortS_len F
    have hcl := compact_len (sortS F)
    simp [r_i_SharedWords_11]
    refine callQ_M [18] (MCall.arg (slices_Sort_string_string F (by omega)) (by simp [hF])) (by simp) (by simp [hF]) (by simp) (by simp) rfl rfl (by simp) ?_
    simp [r_i_SharedWords_12]
    refine callQ_M [18] (MCall.arg (slices_Compact_string_string (sortS F) (by omega)) (by simp [hsl])) (by simp) (by simp) (by simp) (by simp) rfl (by simp) (by simp) ?_
    simp
theorem bytesLess_iff : ∀ {x y : List UInt8}, Op.bytesLess x y = true ↔ x < y
  | [], [] => by simp [Op.bytesLess]
  | [], y :: ys => by simp [Op.bytesLess]
  | x :: xs, [] => by simp [Op.bytesLess]
  | x :: xs, y :: ys => by
    have ih := @bytesLess_iff xs ys
    rw [Op.bytesLess]
    rw [List.cons_lt_cons_iff]
    simp [ih]
set_option maxHeartbeats 8000000 in
theorem s_SharedWords (a b : List UInt8) : PCall Tryz.prog n_s_SharedWords [S a, S b] (.tup [.own 1 ((sharedL a b).map S), B (sharedOk a b)]) := by
  refine PCall.ofN fn_s_SharedWords (by simp) ?_
  simp [c_s_SharedWords, r_s_SharedWords_0, r_s_SharedWords_1]
  simp [r_s_SharedWords_2]
  refine callQ_v (s_l23Good a) ?_
  cases h1 : motto a with
  | false => simp [r_s_SharedWords_3, sharedL, sharedOk, h1]
  | true =>
  simp
  refine callQ_v (s_l23Good b) ?_
  cases h2 : motto b with
  | false => simp [r_s_SharedWords_3, sharedL, sharedOk, h1, h2]
  | true =>
  have ha := motto_short h1
  have hb := motto_short h2
  have hpa := parts_count 32 a
  have hca := count_le 32 a
  have hpb := parts_count 32 b
  have hcb := count_le 32 b
  have hok : sharedL a b = insAll (sharedW a b) := by simp [sharedL, sharedOk, h1, h2, compact_sort]
  have hok2 : sharedOk a b = true := by simp [sharedOk, h1, h2]
  simp [r_s_SharedWords_4]
  refine callQ_of (s_l1Split a 32 (by omega)) rfl (.inl (by simp)) (by simp) ?_
  simp
  refine callQ_of (s_l1Split b 32 (by omega)) rfl (.inl (by simp)) (by simp) ?_
  simp [r_s_SharedWords_5, l_s_SharedWords_21]
  rw [hok, hok2]
  obtain ⟨A, hA⟩ : ∃ A, parts 32 a = A := ⟨_, rfl⟩
  obtain ⟨C, hC⟩ : ∃ C, parts 32 b = C := ⟨_, rfl⟩
  have hW : sharedW a b = A.filter fun x => decide (x ∈ C) := by rw [sharedW, hA, hC]
  rw [hA] at hpa ⊢
  rw [hC] at hpb ⊢
  rw [hW]
  refine loopK (fun i : Nat => ⟨[(6, .sl 13 0 (insAll ((A.take i).filter fun x => decide (x ∈ C))).length), (7, .sl 24 0 A.length), (8, .sl 26 0 C.length), (9, I i)], [(13, ⟨1, (insAll ((A.take i).filter fun x => decide (x ∈ C))).map S⟩), (26, ⟨1, C.map S⟩), (24, ⟨1, A.map S⟩)], []⟩)
    (fun i => A.length - i) (fun i => i ≤ A.length ∧ (insAll ((A.take i).filter fun x => decide (x ∈ C))).length ≤ i) 0 (Wk.list rfl (by simp [insAll]) (by simp [insAll])) ⟨by omega, by simp [insAll]⟩ ?_
  rintro i ⟨hi, hol⟩ K hN hR hE
  simp [r_s_SharedWords_6, r_s_SharedWords_20]
  refine ⟨fun hlt => ?_, fun hge => ?_⟩
  · have hf : (A.take (i + 1)).filter (fun x => decide (x ∈ C)) = (A.take i).filter (fun x => decide (x ∈ C)) ++ (if decide (A[i] ∈ C) then [A[i]] else []) := by
      rw [take_succ' hlt, List.filter_append]
      congr 1
      rw [List.filter_cons]
      split <;> rfl
    have hN0 := hN (i + 1)
    obtain ⟨F, hF⟩ : ∃ F, (A.take i).filter (fun x => decide (x ∈ C)) = F := ⟨_, rfl⟩
    rw [hf, hF] at hN0
    rw [hF] at hol ⊢
    clear hN
    obtain ⟨out, hout⟩ : ∃ out, insAll F = out := ⟨_, rfl⟩
    rw [hout] at hol ⊢
    simp [r_s_SharedWords_7, r_s_SharedWords_8, l_s_SharedWords_12]
    refine loopK (fun k : Nat => ⟨[(6, .sl 13 0 out.length), (7, .sl 24 0 A.length), (8, .sl 26 0 C.length), (9, I i), (10, B (decide (A[i] ∈ C.take k))), (11, I k)], [(13, ⟨1, out.map S⟩), (26, ⟨1, C.map S⟩), (24, ⟨1, A.map S⟩)], []⟩)
      (fun k => C.length - k) (fun k => k ≤ C.length) 0 (Wk.list rfl (by simp) (by simp)) (by simp) ?_
    intro k hk K1 hN1 hR1 hE1
    simp [r_s_SharedWords_9, r_s_SharedWords_11]
    refine ⟨fun hlk => ?_, fun hgk => ?_⟩
    · have hmk : (A[i] ∈ C.take (k + 1)) ↔ (A[i] ∈ C.take k ∨ A[i] = C[k]) := by
        rw [take_succ' hlk, List.mem_append, List.mem_singleton]
      simp [r_s_SharedWords_10, p_s_SharedWords_10, hlt, hlk]
      refine ⟨fun hno => ⟨oEnd_of (by simp [p_s_SharedWords_10]) (by simp), ?_⟩, fun hyes => ⟨oEnd_of (by simp [p_s_SharedWords_10]) (by simp), ?_⟩⟩
      · rw [wrap64 (by omega) (by omega)]
        refine hN1 (k + 1) _ (by omega) (by omega) (Wk.list rfl ?_ (by simp))
        have : decide (A[i] ∈ C.take (k + 1)) = (A[i] == C[k]) := by rw [Bool.eq_iff_iff, decide_eq_true_iff, hmk, beq_iff_eq]; simp [hno]
        rw [this]
        simp
      · rw [wrap64 (by omega) (by omega)]
        refine hN1 (k + 1) _ (by omega) (by omega) (Wk.list rfl ?_ (by simp))
        have : decide (A[i] ∈ C.take (k + 1)) = true := by rw [decide_eq_true_iff, hmk]; exact .inl hyes
        rw [this]
        simp
    · obtain rfl : k = C.length := by omega
      refine hE1 _ _ ?_
      simp only [blockK_exit]
      rw [List.take_length]
      cases hb : decide (A[i] ∈ C) with
      | false =>
        rw [hb] at hN0
        simp [r_s_SharedWords_13]
        rw [wrap64 (by omega) (by omega)]
        refine hN0 _ (by omega) ⟨by omega, by simp [hout]; omega⟩ (Wk.list rfl ?_ ?_)
        · simp [hout]
        · simp [hout]
      | true =>
        rw [hb] at hN0
        simp [r_s_SharedWords_13, r_s_SharedWords_14, l_s_SharedWords_17]
        refine loopK (fun j : Nat => ⟨[(6, .sl 13 0 out.length), (7, .sl 24 0 A.length), (8, .sl 26 0 C.length), (9, I i), (12, I j)], [(13, ⟨1, out.map S⟩), (26, ⟨1, C.map S⟩), (24, ⟨1, A.map S⟩)], []⟩)
          (fun j => out.length - j) (fun j => j ≤ out.length ∧ ∀ q (h : q < j) (h' : q < out.length), out[q] < A[i]) 0 (Wk.list rfl (by simp) (by simp)) ⟨by omega, fun q h => by omega⟩ ?_
        rintro j ⟨hj, hjs⟩ K2 hN2 hR2 hE2
        simp [r_s_SharedWords_15, p_s_SharedWords_15, hlt]
        refine ⟨fun hjl => ⟨by omega, ?_⟩, fun hjl => ⟨oEnd_of (by simp [p_s_SharedWords_15]) (by simp), ?_⟩⟩
        · simp [hjl, hlt]
          refine ⟨oEnd_of (by simp [p_s_SharedWords_15]) (by simp), fun hsm => ?_, fun hns => ?_⟩
          · simp [r_s_SharedWords_16]
            rw [wrap64 (by omega) (by omega)]
            refine hN2 (j + 1) _ (by omega) ⟨by omega, fun q h h' => ?_⟩ (Wk.list rfl (by simp) (by simp))
            by_cases e : q = j
            · subst e; exact bytesLess_iff.1 hsm
            · exact hjs q (by omega) h'
          · have hstop : ∀ h : j < out.length, ¬ out[j] < A[i] := fun _ h => by rw [bytesLess_iff.2 h] at hns; cases hns
            refine hE2 _ _ ?_
            simp only [blockK_exit]
            have hins := insW_at (x := A[i]) hj hjs hstop
            have hjj : ¬ (j : Int) = out.length := by omega
            have hgj : out[j]? = some out[j] := List.getElem?_eq_getElem hjl
            rw [hgj] at hins
            simp [r_s_SharedWords_18, p_s_SharedWords_18, hlt, hjl, hjj]
            by_cases heq : out[j] = A[i]
            · rw [if_pos (by rw [heq])] at hins
              simp [heq]
              refine ⟨oEnd_of (by simp [p_s_SharedWords_18]) (by simp), ?_⟩
              rw [wrap64 (by omega) (by omega)]
              refine hN0 _ (by omega) ⟨by omega, by simp [insAll_snoc, hout, hins]; omega⟩ (Wk.list rfl ?_ ?_)
              · simp [insAll_snoc, hout, hins]
              · simp [insAll_snoc, hout, hins]
            · rw [if_neg (fun h => heq (Option.some.inj h))] at hins
              simp [heq]
              refine ⟨oEnd_of (by simp [p_s_SharedWords_18]) (by simp), ?_⟩
              have hL : (out.take j ++ A[i] :: out.drop j).length = j + 1 + (out.length - j) := by simp; omega
              have hV : (out.take j ++ A[i] :: out.drop j).map S = (((out.map S).take j).take j ++ [S A[i]]).take (j + 1) ++ ((out.map S).drop j).take (out.length - j) := by
                have h1 : ((out.map S).take j).length = j := by rw [List.length_take, List.length_map]; omega
                have h2 : (((out.map S).take j).take j ++ [S A[i]]).take (j + 1) = (out.map S).take j ++ [S A[i]] := by
                  rw [List.take_take, Nat.min_self]
                  exact List.take_of_length_le (by rw [List.length_append, h1]; simp)
                have h3 : ((out.map S).drop j).take (out.length - j) = (out.map S).drop j := List.take_of_length_le (by rw [List.length_drop, List.length_map]; exact Nat.le_refl _)
                rw [h2, h3]
                simp [List.map_take, List.map_drop]
              simp [r_s_SharedWords_19, p_s_SharedWords_19, hlt, hj]
              refine ⟨by unfold lenBound; omega, by unfold lenBound; omega, by unfold lenBound; omega, oEnd_of (by simp [p_s_SharedWords_19]) (by simp), ?_⟩
              rw [wrap64 (by omega) (by omega)]
              refine hN0 _ (by omega) ⟨by omega, by rw [if_pos rfl, insAll_snoc, hout, hins, hL]; omega⟩ (Wk.trans (t := ⟨[(6, .sl 99 0 (j + 1 + (out.length - j))), (7, .sl 24 0 A.length), (8, .sl 26 0 C.length), (9, I ((i : Int) + 1))], [(99, ⟨1, (out.take j ++ A[i] :: out.drop j).map S⟩), (26, ⟨1, C.map S⟩), (24, ⟨1, A.map S⟩)], []⟩) (Wk.list rfl (by simp) ?_) (Wk.trans (Wk.ren 99 13 (by decide) (by simp)) (Wk.list rfl ?_ ?_)))
              · rw [hV]
                simp
              · rw [if_pos rfl, insAll_snoc, hout, hins, hL]
                simp
              · rw [if_pos rfl, insAll_snoc, hout, hins]
                have r1 : rens 99 13 (List.take j (out.map S)) = List.take j (out.map S) := by rw [← List.map_take]; exact rens_map (fun _ => rfl)
                have r2 : rens 99 13 (List.drop j (out.map S)) = List.drop j (out.map S) := by rw [← List.map_drop]; exact rens_map (fun _ => rfl)
                simp [r1, r2]
        · have hstop : ∀ h : j < out.length, ¬ out[j] < A[i] := fun h => by omega
          refine hE2 _ _ ?_
          simp only [blockK_exit]
          have hins := insW_at (x := A[i]) hj hjs hstop
          have hjj : (j : Int) = out.length := by omega
          rw [List.getElem?_eq_none (by omega), if_neg (by simp)] at hins
          simp [r_s_SharedWords_18, p_s_SharedWords_18, hlt, hjj]
          refine ⟨oEnd_of (by simp [p_s_SharedWords_18]) (by simp), ?_⟩
          obtain rfl : j = out.length := by omega
          rw [List.take_length, List.drop_length] at hins
          simp [r_s_SharedWords_19, p_s_SharedWords_19, hlt]
          refine ⟨by unfold lenBound; omega, by unfold lenBound; omega, oEnd_of (by simp [p_s_SharedWords_19]) (by simp), ?_⟩
          rw [wrap64 (by omega) (by omega)]
          refine hN0 _ (by omega) ⟨by omega, by rw [if_pos rfl, insAll_snoc, hout, hins]; simp; omega⟩ (Wk.trans (t := ⟨[(6, .sl 99 0 (out.length + 1)), (7, .sl 24 0 A.length), (8, .sl 26 0 C.length), (9, I ((i : Int) + 1))], [(99, ⟨1, (out ++ [A[i]]).map S⟩), (26, ⟨1, C.map S⟩), (24, ⟨1, A.map S⟩)], []⟩) (Wk.list rfl (by simp) (by simp [List.take_of_length_le])) (Wk.trans (Wk.ren 99 13 (by decide) (by simp)) (Wk.list rfl ?_ ?_)))
          · rw [if_pos rfl, insAll_snoc, hout, hins]
            simp
          · rw [if_pos rfl, insAll_snoc, hout, hins]
            simp
  · obtain rfl : i = A.length := by omega
    refine hE _ _ ?_
    simp only [blockK_exit]
    rw [List.take_length]
    simp [r_s_SharedWords_22]
theorem sharedL_len (a b : List UInt8) : (sharedL a b).length ≤ 61 := by
  unfold sharedL
  split
  · rename_i h
    simp only [sharedOk, Bool.and_eq_true] at h
    have ha := motto_short h.1
    have h1 := compact_len (sortS (sharedW a b))
    have h2 := sortS_len (sharedW a b)
    have h3 := List.length_filter_le (fun x => decide (x ∈ parts 32 b)) (parts 32 a)
    have h4 := parts_count 32 a
    have h5 := count_le 32 a
    unfold sharedW at h1 h2 ⊢
    omega
  · simp
end Go.Proofs.YtopcfaffljjnbaaGreatDoor
