/- Parts of the proof, merged: CodeWCount, WCount. -/
import Derived.Test.YtbeoijlggphklaaGreatDoorQ3
/- The compact code of the functions, and that it is theirs: written by a program of this claim. -/
namespace Go.Proofs.YtbeoijlggphklaaGreatDoor
open Go.Abs
set_option maxRecDepth 100000
def r_i_CountLines_0 : List CO := [⟨none, (some 2), (.box 1 (.t 0))⟩, ⟨none, (some 3), (.box 3 (.t 1))⟩, ⟨none, (some 4), (.mv (.k (.v (.int .i64 (0)))))⟩, ⟨none, (some 5), (.mv (.k (.v (.int .i64 (0)))))⟩, ⟨none, (some 6), (.mv (.k (.v (.bool false))))⟩]
def r_i_CountLines_1 : List CO := [⟨none, (some 14), (.ld true 1 (.t 2))⟩, ⟨none, (some 15), (.ld true 3 (.t 3))⟩, ⟨none, (some 16), (.call n_i_paged [(.t 14), (.t 15)])⟩, ⟨none, (some 13), (.mv (.t 16))⟩, ⟨none, (some 17), (.ext (.t 13) 0)⟩, ⟨none, (some 18), (.ext (.t 13) 1)⟩, ⟨none, (some 19), (.ext (.t 13) 2)⟩, ⟨none, (some 7), (.mv (.t 17))⟩, ⟨none, (some 8), (.mv (.t 18))⟩, ⟨none, (some 9), (.mv (.t 19))⟩]
def r_i_CountLines_2 : List CO := [⟨none, (some 10), (.mv (.k (.v (.int .i64 (0)))))⟩]
def r_i_CountLines_3 : List CO := [⟨none, (some 20), (.mv (.t 7))⟩, ⟨none, (some 21), (.len false (.t 20))⟩, ⟨none, (some 22), (.mv (.k (.v (.int .i64 (0)))))⟩]
def r_i_CountLines_4 : List CO := [⟨none, (some 23), (.bin .lss .none (.t 22) (.t 21))⟩]
def r_i_CountLines_5 : List CO := [⟨none, (some 24), (.iaddr 1 (.t 20) (.t 22))⟩, ⟨none, (some 25), (.ld false 1 (.t 24))⟩, ⟨none, (some 12), (.mv (.t 25))⟩]
def r_i_CountLines_6 : List CO := [⟨none, (some 26), (.mv (.t 10))⟩, ⟨none, (some 27), (.mv (.t 12))⟩, ⟨none, (some 28), (.len false (.t 27))⟩, ⟨none, (some 29), (.bin .add .none (.t 26) (.t 28))⟩, ⟨none, (some 10), (.mv (.t 29))⟩]
def r_i_CountLines_7 : List CO := [⟨none, (some 30), (.bin .add .none (.t 22) (.k (.v (.int .i64 (1)))))⟩, ⟨none, (some 22), (.mv (.t 30))⟩]
def l_i_CountLines_8 : C := (.seq (.reg r_i_CountLines_4 [7, 9, 10, 20, 21, 22, 23]) (.seq (.cond (.t 23) .skip (.exit 0)) (.seq (.block 1 (.seq (.reg r_i_CountLines_5 [7, 9, 10, 12, 20, 21, 22]) (.reg r_i_CountLines_6 [7, 9, 10, 20, 21, 22]))) (.reg r_i_CountLines_7 [7, 9, 10, 20, 21, 22]))))
def r_i_CountLines_9 : List CO := [⟨none, (some 31), (.mv (.t 7))⟩, ⟨none, (some 32), (.len false (.t 31))⟩, ⟨none, (some 33), (.mv (.t 10))⟩, ⟨none, (some 34), (.mv (.t 9))⟩, ⟨none, (some 4), (.mv (.t 32))⟩, ⟨none, (some 5), (.mv (.t 33))⟩, ⟨none, (some 6), (.mv (.t 34))⟩]
/-- loop.example/g00884/impl.CountLines -/
def c_i_CountLines : C := (.seq (.reg r_i_CountLines_0 [2, 3]) (.seq (.reg r_i_CountLines_1 [7, 9]) (.seq (.reg r_i_CountLines_2 [7, 9, 10]) (.seq (.seq (.reg r_i_CountLines_3 [7, 9, 10, 20, 21, 22]) (.block 0 (.loop l_i_CountLines_8))) (.seq (.reg r_i_CountLines_9 [4, 5, 6]) .ret)))))
def k_i_CountLines : Nat → List Nat
  | 0 => [2, 3]
  | 1 => [7, 9]
  | 2 => [7, 9, 10]
  | 3 => [7, 9, 10, 20, 21, 22]
  | 4 => [7, 9, 10, 20, 21, 22, 23]
  | 5 => [7, 9, 10, 12, 20, 21, 22]
  | 6 => [7, 9, 10, 20, 21, 22]
  | 7 => [7, 9, 10, 20, 21, 22]
  | 8 => [4, 5, 6]
  | _ => []
theorem fn_i_CountLines : FnC Tryz.prog n_i_CountLines c_i_CountLines [(.tmp 4), (.tmp 5), (.tmp 6)] 35 :=
  ⟨Tryz.f31, _, k_i_CountLines, Tryz.func31, rfl, by kernel_rfl, by kernel_rfl, by kernel_rfl, rfl⟩
def r_s_CountLines_0 : List CO := [⟨none, (some 2), (.box 1 (.t 0))⟩, ⟨none, (some 3), (.box 3 (.t 1))⟩, ⟨none, (some 4), (.mv (.k (.v (.int .i64 (0)))))⟩, ⟨none, (some 5), (.mv (.k (.v (.int .i64 (0)))))⟩, ⟨none, (some 6), (.mv (.k (.v (.bool false))))⟩]
def r_s_CountLines_1 : List CO := [⟨none, (some 12), (.ld true 1 (.t 2))⟩, ⟨none, (some 13), (.ld true 3 (.t 3))⟩, ⟨none, (some 14), (.call n_s_RollPages [(.t 12), (.t 13)])⟩, ⟨none, (some 11), (.mv (.t 14))⟩, ⟨none, (some 15), (.ext (.t 11) 0)⟩, ⟨none, (some 16), (.ext (.t 11) 1)⟩, ⟨none, (some 7), (.mv (.t 15))⟩, ⟨none, (some 8), (.mv (.t 16))⟩]
def r_s_CountLines_2 : List CO := [⟨none, (some 17), (.mv (.t 8))⟩, ⟨none, (some 18), (.un .not (.t 17))⟩]
def r_s_CountLines_3 : List CO := [⟨none, (some 4), (.mv (.k (.v (.int .i64 (0)))))⟩, ⟨none, (some 5), (.mv (.k (.v (.int .i64 (0)))))⟩, ⟨none, (some 6), (.mv (.k (.v (.bool false))))⟩]
def r_s_CountLines_4 : List CO := [⟨none, (some 9), (.mv (.k (.v (.int .i64 (0)))))⟩]
def r_s_CountLines_5 : List CO := [⟨none, (some 10), (.mv (.k (.v (.int .i64 (0)))))⟩]
def r_s_CountLines_6 : List CO := [⟨none, (some 19), (.mv (.t 10))⟩, ⟨none, (some 20), (.mv (.t 7))⟩, ⟨none, (some 21), (.len false (.t 20))⟩, ⟨none, (some 22), (.bin .lss .none (.t 19) (.t 21))⟩]
def r_s_CountLines_7 : List CO := [⟨none, (some 25), (.mv (.t 9))⟩, ⟨none, (some 26), (.mv (.t 7))⟩, ⟨none, (some 27), (.mv (.t 10))⟩, ⟨none, (some 28), (.iaddr 1 (.t 26) (.t 27))⟩, ⟨none, (some 29), (.ld false 1 (.t 28))⟩, ⟨none, (some 30), (.len false (.t 29))⟩, ⟨none, (some 31), (.bin .add .none (.t 25) (.t 30))⟩, ⟨none, (some 9), (.mv (.t 31))⟩]
def r_s_CountLines_8 : List CO := [⟨none, (some 23), (.mv (.t 10))⟩, ⟨none, (some 24), (.bin .add .none (.t 23) (.k (.v (.int .i64 (1)))))⟩, ⟨none, (some 10), (.mv (.t 24))⟩]
def l_s_CountLines_9 : C := (.seq (.seq (.reg r_s_CountLines_6 [7, 9, 10, 22]) (.cond (.t 22) .skip (.exit 0))) (.seq (.block 1 (.reg r_s_CountLines_7 [7, 9, 10])) (.reg r_s_CountLines_8 [7, 9, 10])))
def r_s_CountLines_10 : List CO := [⟨none, (some 32), (.mv (.t 7))⟩, ⟨none, (some 33), (.len false (.t 32))⟩, ⟨none, (some 34), (.mv (.t 9))⟩, ⟨none, (some 4), (.mv (.t 33))⟩, ⟨none, (some 5), (.mv (.t 34))⟩, ⟨none, (some 6), (.mv (.k (.v (.bool true))))⟩]
/-- loop.example/g00884/spec.CountLines -/
def c_s_CountLines : C := (.seq (.reg r_s_CountLines_0 [2, 3]) (.seq (.reg r_s_CountLines_1 [7, 8]) (.seq (.seq (.reg r_s_CountLines_2 [7, 18]) (.cond (.t 18) (.seq (.reg r_s_CountLines_3 [4, 5, 6]) .ret) .skip)) (.seq (.reg r_s_CountLines_4 [7, 9]) (.seq (.seq (.reg r_s_CountLines_5 [7, 9, 10]) (.block 0 (.loop l_s_CountLines_9))) (.seq (.reg r_s_CountLines_10 [4, 5, 6]) .ret))))))
def k_s_CountLines : Nat → List Nat
  | 0 => [2, 3]
  | 1 => [7, 8]
  | 2 => [7, 18]
  | 3 => [4, 5, 6]
  | 4 => [7, 9]
  | 5 => [7, 9, 10]
  | 6 => [7, 9, 10, 22]
  | 8 => [7, 9, 10]
  | 7 => [7, 9, 10]
  | 9 => [4, 5, 6]
  | _ => []
theorem fn_s_CountLines : FnC Tryz.prog n_s_CountLines c_s_CountLines [(.tmp 4), (.tmp 5), (.tmp 6)] 35 :=
  ⟨Tryz.f30, _, k_s_CountLines, Tryz.func30, rfl, by kernel_rfl, by kernel_rfl, by kernel_rfl, rfl⟩
def r_w_FnExactCountLines_0 : List CO := [⟨none, (some 2), (.box 1 (.t 0))⟩, ⟨none, (some 3), (.box 3 (.t 1))⟩, ⟨none, (some 4), (.mv (.k (.v (.bool false))))⟩]
def r_w_FnExactCountLines_1 : List CO := [⟨none, (some 5), (.mv (.k (.v (.int .i64 (1048576)))))⟩]
def r_w_FnExactCountLines_2 : List CO := [⟨none, (some 13), (.ld true 1 (.t 2))⟩, ⟨none, (some 14), (.mv (.t 5))⟩, ⟨none, (some 15), (.call n_w_szRegister [(.t 13), (.t 14)])⟩, ⟨none, (some 5), (.mv (.t 15))⟩]
def r_w_FnExactCountLines_3 : List CO := [⟨none, (some 16), (.mv (.t 5))⟩, ⟨none, (some 17), (.bin .lss .none (.t 16) (.k (.v (.int .i64 (0)))))⟩]
def r_w_FnExactCountLines_4 : List CO := [⟨none, (some 4), (.mv (.k (.v (.bool true))))⟩]
def r_w_FnExactCountLines_5 : List CO := [⟨none, (some 19), (.ld true 1 (.t 2))⟩, ⟨none, (some 20), (.call n_w_toRegister [(.t 19)])⟩, ⟨none, (some 21), (.ld true 3 (.t 3))⟩, ⟨none, (some 22), (.call n_w_toRoll [(.t 21)])⟩, ⟨none, (some 23), (.call n_s_CountLines [(.t 20), (.t 22)])⟩, ⟨none, (some 18), (.mv (.t 23))⟩, ⟨none, (some 24), (.ext (.t 18) 0)⟩, ⟨none, (some 25), (.ext (.t 18) 1)⟩, ⟨none, (some 26), (.ext (.t 18) 2)⟩, ⟨none, (some 6), (.mv (.t 24))⟩, ⟨none, (some 7), (.mv (.t 25))⟩, ⟨none, (some 8), (.mv (.t 26))⟩]
def p_w_FnExactCountLines_5 : List (List Nat) := [[], [0], [], [0, 1, 2], [0, 1, 2, 3], [0, 1, 2, 3, 4], [0, 1, 2, 3, 4, 5], [0, 1, 2, 3, 4, 5], [0, 1, 2, 3, 4, 5], [0, 1, 2, 3, 4, 5, 6], [0, 1, 2, 3, 4, 5, 6, 7, 9], [0, 1, 2, 3, 4, 5, 6, 7, 8, 9, 10]]
def r_w_FnExactCountLines_6 : List CO := [⟨none, (some 27), (.ld true 1 (.t 2))⟩, ⟨none, (some 28), (.call n_w_toRegister [(.t 27)])⟩, ⟨none, (some 9), (.box 1 (.k (.agg [(.v (.slice none 0 0))])))⟩, ⟨none, none, (.st 1 (.t 9) (.t 28))⟩]
def r_w_FnExactCountLines_7 : List CO := [⟨none, (some 30), (.ld true 1 (.t 9))⟩, ⟨none, (some 31), (.ld true 3 (.t 3))⟩, ⟨none, (some 32), (.call n_w_toRoll [(.t 31)])⟩, ⟨none, (some 33), (.call n_i_CountLines [(.t 30), (.t 32)])⟩, ⟨none, (some 29), (.mv (.t 33))⟩, ⟨none, (some 34), (.ext (.t 29) 0)⟩, ⟨none, (some 35), (.ext (.t 29) 1)⟩, ⟨none, (some 36), (.ext (.t 29) 2)⟩, ⟨none, (some 10), (.mv (.t 34))⟩, ⟨none, (some 11), (.mv (.t 35))⟩, ⟨none, (some 12), (.mv (.t 36))⟩]
def p_w_FnExactCountLines_7 : List (List Nat) := [[], [], [1], [0, 1, 2], [0, 1, 2, 3], [0, 1, 2, 3, 4], [0, 1, 2, 3, 4], [0, 1, 2, 3, 4], [0, 1, 2, 3, 4, 5], [0, 1, 2, 3, 4, 5, 6, 8], [0, 1, 2, 3, 4, 5, 6, 7, 8, 9]]
def r_w_FnExactCountLines_8 : List CO := [⟨none, (some 37), (.mv (.t 10))⟩, ⟨none, (some 38), (.mv (.t 6))⟩, ⟨none, (some 39), (.bin .neq .none (.t 37) (.t 38))⟩, ⟨none, (some 40), (.mv (.t 39))⟩, ⟨(some (40, false)), (some 41), (.mv (.t 11))⟩, ⟨(some (40, false)), (some 42), (.mv (.t 7))⟩, ⟨(some (40, false)), (some 43), (.bin .neq .none (.t 41) (.t 42))⟩, ⟨none, (some 44), (.pick (.t 40) (.k (.v (.bool true))) (.t 43))⟩, ⟨none, (some 45), (.mv (.t 44))⟩, ⟨(some (45, false)), (some 46), (.mv (.t 12))⟩, ⟨(some (45, false)), (some 47), (.mv (.t 8))⟩, ⟨(some (45, false)), (some 48), (.bin .neq .bool (.t 46) (.t 47))⟩, ⟨none, (some 49), (.pick (.t 45) (.k (.v (.bool true))) (.t 48))⟩]
def r_w_FnExactCountLines_9 : List CO := [⟨none, (some 4), (.mv (.k (.v (.bool false))))⟩]
def r_w_FnExactCountLines_10 : List CO := [⟨none, (some 50), (.ld true 1 (.t 9))⟩, ⟨none, (some 51), (.ld true 1 (.t 2))⟩, ⟨none, (some 52), (.call n_w_toRegister [(.t 51)])⟩, ⟨none, (some 53), (.call n_w_eqRegister [(.t 50), (.t 52)])⟩, ⟨none, (some 54), (.un .not (.t 53))⟩]
def p_w_FnExactCountLines_10 : List (List Nat) := [[], [], [1], [0, 1, 2], [0, 1, 2, 3]]
def r_w_FnExactCountLines_11 : List CO := [⟨none, (some 4), (.mv (.k (.v (.bool false))))⟩]
def r_w_FnExactCountLines_12 : List CO := [⟨none, (some 4), (.mv (.k (.v (.bool true))))⟩]
/-- loop.example/g00884/laws.FnExactCountLines -/
def c_w_FnExactCountLines : C := (.seq (.reg r_w_FnExactCountLines_0 [2, 3]) (.seq (.reg r_w_FnExactCountLines_1 [2, 3, 5]) (.seq (.reg r_w_FnExactCountLines_2 [2, 3, 5]) (.seq (.seq (.reg r_w_FnExactCountLines_3 [2, 3, 17]) (.cond (.t 17) (.seq (.reg r_w_FnExactCountLines_4 [4]) .ret) .skip)) (.seq (.regD r_w_FnExactCountLines_5 p_w_FnExactCountLines_5 [2, 3, 6, 7, 8]) (.seq (.reg r_w_FnExactCountLines_6 [2, 3, 6, 7, 8, 9]) (.seq (.regD r_w_FnExactCountLines_7 p_w_FnExactCountLines_7 [2, 6, 7, 8, 9, 10, 11, 12]) (.seq (.seq (.reg r_w_FnExactCountLines_8 [2, 9, 49]) (.cond (.t 49) (.seq (.reg r_w_FnExactCountLines_9 [4]) .ret) .skip)) (.seq (.seq (.regD r_w_FnExactCountLines_10 p_w_FnExactCountLines_10 [54]) (.cond (.t 54) (.seq (.reg r_w_FnExactCountLines_11 [4]) .ret) .skip)) (.seq (.reg r_w_FnExactCountLines_12 [4]) .ret))))))))))
def k_w_FnExactCountLines : Nat → List Nat
  | 0 => [2, 3]
  | 1 => [2, 3, 5]
  | 2 => [2, 3, 5]
  | 3 => [2, 3, 17]
  | 4 => [4]
  | 5 => [2, 3, 6, 7, 8]
  | 6 => [2, 3, 6, 7, 8, 9]
  | 7 => [2, 6, 7, 8, 9, 10, 11, 12]
  | 8 => [2, 9, 49]
  | 9 => [4]
  | 10 => [54]
  | 11 => [4]
  | 12 => [4]
  | _ => []
theorem fn_w_FnExactCountLines : FnC Tryz.prog n_w_FnExactCountLines c_w_FnExactCountLines [(.tmp 4)] 55 :=
  ⟨Tryz.f6, _, k_w_FnExactCountLines, Tryz.func6, rfl, by kernel_rfl, by kernel_rfl, by kernel_rfl, rfl⟩
end Go.Proofs.YtbeoijlggphklaaGreatDoor

/- CountLines: program, reference, law. -/
set_option linter.unusedVariables false
set_option linter.unusedSimpArgs false
namespace Go.Proofs.YtbeoijlggphklaaGreatDoor
open Go.Abs

def cntP (l : List Grant) (x : Roll) : Int := (pagesL l x).length
def cntL (l : List Grant) (x : Roll) : Int := total (pagesL l x)
theorem total_20 : ∀ L : List (List (List UInt8)), (∀ p ∈ L, p.length ≤ 20) → total L ≤ 20 * L.length
  | [], _ => by simp
  | p :: L, h => by
    have h1 := h p (by simp)
    have h2 := total_20 L fun q hq => h q (by simp [hq])
    rw [total_cons, List.length_cons]; omega
theorem pagesL_total (l : List Grant) (x : Roll) : (pagesL l x).length ≤ 12 ∧ total (pagesL l x) ≤ 240 := by
  obtain ⟨hn, hp⟩ := pagesL_ok (l := l) (x := x)
  have := total_20 _ fun p h => (hp p h).2.1
  omega
theorem total_step {L : List (List (List UInt8))} {i : Nat} (h : i < L.length) : total (L.take (i + 1)) = total (L.take i) + L[i].length := by
  rw [take_succ' h, total_append, total_cons, total_nil]; omega
theorem i_CountLines (l : Register) (x : Roll) : PCall Tryz.prog n_i_CountLines [eRegister l, eRoll x] (.tup [I (cntP l x), I (cntL l x), B (textOk l x)]) := by
  obtain ⟨hn, ht⟩ := pagesL_total l x
  have hP := i_paged l x
  unfold cntP cntL
  generalize pagesL l x = L at hn ht hP
  refine PCall.of fn_i_CountLines (by simp) ?_
  simp [c_i_CountLines, r_i_CountLines_0, r_i_CountLines_1]
  refine callQ_of (PCall.arg hP (by simp)) rfl (.inl (by simp)) (by simp) ?_
  simp [r_i_CountLines_2, r_i_CountLines_3]
  refine loopK (fun i : Nat => ⟨[(7, .sl 16 0 L.length), (9, B (textOk l x)), (10, I (total (L.take i))), (20, .sl 16 0 L.length), (21, I L.length), (22, I i)], [(16, ⟨1, L.map roS⟩)], []⟩) (fun i => L.length - i) (fun i => i ≤ L.length) 0
    (Wk.trans (Wk.roes 16 3 (by rfl) (by simp)) (Wk.list rfl (by simp) (by simp))) (by simp) ?_
  intro i hi K hN hR hE
  simp [l_i_CountLines_8, r_i_CountLines_4]
  refine ⟨fun hlt => ?_, fun hge => ?_⟩
  · have hs := total_step hlt
    have hle := total_take_le L (i + 1)
    simp [r_i_CountLines_5, hlt]
    simp [r_i_CountLines_6, r_i_CountLines_7]
    rw [wrap64 (by omega) (by omega), wrap64 (by omega) (by omega)]
    refine hN (i + 1) _ (by omega) (by omega) (Wk.list rfl (by simp [hs]) (by simp))
  · obtain rfl : i = L.length := by omega
    refine hE _ _ ?_
    simp only [blockK_exit]
    simp [r_i_CountLines_9]
theorem s_CountLines (l : Register) (x : Roll) : PCall Tryz.prog n_s_CountLines [eRegister l, eRoll x] (.tup [I (cntP l x), I (cntL l x), B (textOk l x)]) := by
  obtain ⟨hn, ht⟩ := pagesL_total l x
  have hP := s_RollPages l x
  have h0 : textOk l x = false → pagesL l x = [] := fun h => by
    unfold textOk at h
    unfold pagesL
    cases e : asked l x with
    | none => rfl
    | some p => rw [e] at h; cases h
  unfold cntP cntL
  generalize pagesL l x = L at hn ht hP h0
  refine PCall.of fn_s_CountLines (by simp) ?_
  simp [c_s_CountLines, r_s_CountLines_0, r_s_CountLines_1]
  refine callQ_of (PCall.arg hP (by simp)) rfl (.inl (by simp)) (by simp) ?_
  cases hb : textOk l x with
  | false =>
    obtain rfl := h0 hb
    simp [r_s_CountLines_2, r_s_CountLines_3]
  | true =>
  simp [r_s_CountLines_2, r_s_CountLines_4, r_s_CountLines_5]
  refine loopK (fun i : Nat => ⟨[(7, .sl 14 0 L.length), (9, I (total (L.take i))), (10, I i)], [(14, ⟨1, L.map roS⟩)], []⟩) (fun i => L.length - i) (fun i => i ≤ L.length) 0
    (Wk.trans (Wk.roes 14 3 (by rfl) (by simp)) (Wk.list rfl (by simp) (by simp))) (by simp) ?_
  intro i hi K hN hR hE
  simp [l_s_CountLines_9, r_s_CountLines_6]
  refine ⟨fun hlt => ?_, fun hge => ?_⟩
  · have hs := total_step hlt
    have hle := total_take_le L (i + 1)
    simp [r_s_CountLines_7, r_s_CountLines_8, hlt]
    rw [wrap64 (by omega) (by omega), wrap64 (by omega) (by omega)]
    refine hN (i + 1) _ (by omega) (by omega) (Wk.list rfl (by simp [hs]) (by simp))
  · obtain rfl : i = L.length := by omega
    refine hE _ _ ?_
    simp only [blockK_exit]
    simp [r_s_CountLines_10]
theorem w_FnExactCountLines (l : Register) (x : Roll) : PCall Tryz.prog n_w_FnExactCountLines [eRegister l, eRoll x] (B true) := by
  have hS := s_CountLines l x
  have hI := i_CountLines l x
  generalize cntP l x = m at hS hI
  generalize cntL l x = n at hS hI
  generalize textOk l x = b at hS hI
  refine PCall.of fn_w_FnExactCountLines (by simp) ?_
  simp [c_w_FnExactCountLines, r_w_FnExactCountLines_0, r_w_FnExactCountLines_1, r_w_FnExactCountLines_2]
  refine callQ_v (PCall.arg (w_szRegister l 1048576 (by omega) (by omega)) (by simp)) ?_
  simp [r_w_FnExactCountLines_3]
  refine ⟨fun _ => by simp [r_w_FnExactCountLines_4], fun hge => ?_⟩
  have hs := rest_nonneg (left := 1048576) (n := szG l) (by omega)
  have hl : List.length l ≤ 1048576 := by unfold szG at hs; omega
  have hto := w_toRegister l hl
  have htr := w_toRoll x
  simp [r_w_FnExactCountLines_5, p_w_FnExactCountLines_5]
  refine callD_of (PCall.arg hto (by simp)) rfl (.inl (by simp)) ?_ ?_ ?_
  · simp
  · simp
  simp
  refine callD_of (PCall.arg htr (by simp)) rfl (.inl (by simp)) ?_ ?_ ?_
  · simp
  · simp
  simp
  refine callD_of (PCall.arg hS (by simp)) rfl (.inl (by simp)) ?_ ?_ ?_
  · simp
  · simp
  simp
  refine ⟨oEnd_of (by simp [p_w_FnExactCountLines_5]) (by simp), ?_⟩
  simp [r_w_FnExactCountLines_6]
  refine callQ_of (PCall.arg hto (by simp)) rfl (.inl (by simp)) (by simp) ?_
  simp [r_w_FnExactCountLines_7, p_w_FnExactCountLines_7]
  refine callD_of (PCall.arg htr (by simp)) rfl (.inl (by simp)) ?_ ?_ ?_
  · simp
  · simp
  simp
  refine callD_of (PCall.arg hI (by simp)) rfl (.inl (by simp)) ?_ ?_ ?_
  · simp
  · simp
  simp
  refine ⟨oEnd_of (by simp [p_w_FnExactCountLines_7]) (by simp), ?_⟩
  simp [r_w_FnExactCountLines_8]
  simp [r_w_FnExactCountLines_10, p_w_FnExactCountLines_10]
  refine callD_of (PCall.arg hto (by simp)) rfl (.inl (by simp)) ?_ ?_ ?_
  · simp
  · simp
  simp
  refine callD_v (PCall.arg (w_eqRegister l l) (by simp [List.take_of_length_le])) ?_ ?_ ?_
  · simp
  · simp
  simp
  refine ⟨oEnd_of (by simp [p_w_FnExactCountLines_10]) (by simp), ?_⟩
  simp [r_w_FnExactCountLines_12]
end Go.Proofs.YtbeoijlggphklaaGreatDoor
