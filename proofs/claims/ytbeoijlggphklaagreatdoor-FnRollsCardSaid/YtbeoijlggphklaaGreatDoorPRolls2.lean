/- Parts of the proof, merged: Wrap, CodeRegister, CodeDiff, Diff, CodeGrant, Grant, Register, EntryLaw, RollDef, RollDef2, CodePieces2, CodePieces, Pieces, Pieces2, CodeNum0, Num0, Entry, Entry2, CodePaged, CodeRollOrd, CodeSortGrant, SortGrant, RollOrd, CodeTexts2, CodeMarkText, MarkText, Texts2, Paged. -/
import Derived.Test.YtbeoijlggphklaaGreatDoorAbs4
import Derived.Test.YtbeoijlggphklaaGreatDoorPRolls1
/- Texts that are divided into lines: in the program. -/
set_option linter.unusedVariables false
set_option linter.unusedSimpArgs false
namespace Go.Proofs.YtbeoijlggphklaaGreatDoor
open Go.Abs

theorem parts_less {c : UInt8} : ∀ {s w : List UInt8}, w ∈ parts c s → w.length ≤ s.length
  | [], w, h => by
    rw [parts] at h
    simp at h; subst h; simp
  | x :: s, w, h => by
    obtain ⟨p, ps, h1, h2⟩ := parts_cons c x s
    rw [h2] at h
    have ih : ∀ v ∈ p :: ps, v.length ≤ s.length := fun v hv => parts_less (by rw [h1]; exact hv)
    have hp := ih p (by simp)
    split at h
    · rcases List.mem_cons.1 h with rfl | h
      · simp
      · have := ih w h; simp; omega
    · rcases List.mem_cons.1 h with rfl | h
      · simp; omega
      · have := ih w (by simp [h]); simp; omega
theorem fillGo_long (w : Int) (m : Nat) (hw : w ≤ m) : ∀ (r : List (List UInt8)) (cur : List UInt8), cur.length ≤ m → (∀ x ∈ r, x.length ≤ m) → ∀ x ∈ fillGo w cur r, x.length ≤ m
  | [], cur, hc, _ => by simpa [fillGo] using hc
  | y :: r, cur, hc, hr => by
    rw [fillGo]
    split
    · exact fillGo_long w m hw r _ (by simp; omega) fun x hx => hr x (by simp [hx])
    · intro x hx
      rcases List.mem_cons.1 hx with rfl | hx
      · exact hc
      · exact fillGo_long w m hw r _ (hr y (by simp)) (fun x hx => hr x (by simp [hx])) x hx
theorem fillGo_count (w : Int) : ∀ (r : List (List UInt8)) (cur : List UInt8), (fillGo w cur r).length ≤ r.length + 1
  | [], cur => by simp [fillGo]
  | x :: r, cur => by
    rw [fillGo]
    split
    · have := fillGo_count w r (cur ++ 32 :: x); simp; omega
    · have := fillGo_count w r x; simp; omega
/-- How far the filling has come. -/
def Wrapped (w : Int) (L out : List (List UInt8)) (i : Nat) : Prop :=
  (i = 0 ∧ out = []) ∨ ∃ done cur, out = done ++ [cur] ∧ cur.length ≤ 1000 ∧ fill w L = done ++ fillGo w cur (L.drop i)
theorem Wrapped.done {w : Int} {L out : List (List UInt8)} (h : Wrapped w L out L.length) : fill w L = out := by
  rcases h with ⟨h0, rfl⟩ | ⟨done, cur, rfl, _, h⟩
  · have : L = [] := List.length_eq_zero_iff.1 h0
    subst this; rfl
  · rw [h, List.drop_length, fillGo]

theorem i_wrapped (s : List UInt8) (w : Int) (hs : s.length ≤ 1000) (hw : w ≤ 1000) : PCall Tryz.prog n_i_wrapped [S s, I w] (.own 1 ((fill w (parts 32 s)).map S)) := by
  refine PCall.of fn_i_wrapped (by simp) ?_
  have hle : (parts 32 s).length ≤ 1001 := by have := parts_count 32 s; have := count_le 32 s; omega
  have hsh : ∀ x ∈ parts 32 s, x.length ≤ 1000 := fun x hx => by have := parts_less hx; omega
  have hsp := strings_Split s 32 (by omega)
  generalize parts 32 s = L at hle hsp hsh ⊢
  simp [c_i_wrapped, r_i_wrapped_0, r_i_wrapped_1]
  simp [r_i_wrapped_2]
  refine callQ_of hsp rfl (.inl (by simp)) (by simp) ?_
  simp [r_i_wrapped_11]
  refine loopK (fun p : List (List UInt8) × Nat => ⟨[(1, I w), (5, .sl 9 0 p.1.length), (11, .sl 11 0 L.length), (12, I L.length), (13, I p.2)], [(9, ⟨1, p.1.map S⟩), (11, ⟨1, L.map S⟩)], []⟩) (fun p => L.length - p.2)
    (fun p => p.2 ≤ L.length ∧ p.1.length ≤ p.2 ∧ Wrapped w L p.1 p.2) ([], 0) (Wk.list rfl (by simp) (by simp)) (by simp [Wrapped]) ?_
  rintro ⟨out, i⟩ ⟨hi, ho, hf⟩ K hN hR hE
  dsimp only at hi ho hf ⊢
  simp [r_i_wrapped_3, l_i_wrapped_10]
  refine ⟨fun hlt => ?_, fun hge => ?_⟩
  · have hd : L.drop i = L[i] :: L.drop (i + 1) := List.drop_eq_getElem_cons hlt
    have hx := hsh L[i] (List.getElem_mem _)
    simp [r_i_wrapped_4, hlt]
    simp [r_i_wrapped_5]
    have hadd : ∀ done : List (List UInt8), fill w L = done ++ fillGo w L[i] (L.drop (i + 1)) → done = out → Wrapped w L (out ++ [L[i]]) (i + 1) := fun done h e => .inr ⟨out, L[i], rfl, hx, by rw [h, e]⟩
    rcases hf with ⟨rfl, rfl⟩ | ⟨done, cur, rfl, hc, hf⟩
    · have hF : Wrapped w L ([] ++ [L[0]]) (0 + 1) := by
        refine hadd [] ?_ rfl
        cases L with
        | nil => simp at hlt
        | cons x xs => rfl
      simp [r_i_wrapped_6]
      simp [r_i_wrapped_8]
      refine ⟨by unfold lenBound; omega, ?_⟩
      simp [r_i_wrapped_9]
      rw [wrap64 (n := 1) (by omega) (by omega)]
      refine hN ([] ++ [L[0]], 0 + 1) _ (by dsimp only; omega) ⟨by dsimp only; omega, by simp, hF⟩ (Wk.trans (Wk.ren 47 9 (by decide) (by simp)) (Wk.list rfl ?_ ?_))
      · simp [AS.ren, ren, reN]
      · simp [AS.ren, ren, reN, renB]
    · have hml : (done.map S).length = done.length := List.length_map ..
      have hol : done.length + 1 ≤ i := by simpa using ho
      simp [r_i_wrapped_6]
      rw [wrap64 (by omega) (by omega)]
      have e1 : (done.length : Int).toNat = done.length := by omega
      rw [e1, app_get hml]
      refine ⟨⟨by omega, by omega⟩, ?_⟩
      simp
      rw [wrap64 (n := (cur.length : Int) + 1) (by omega) (by omega), wrap64 (by omega) (by omega)]
      refine ⟨fun hfit => ?_, fun hfit => ?_⟩
      · simp [r_i_wrapped_7]
        rw [wrap64 (by omega) (by omega), e1, app_get hml]
        refine ⟨⟨by omega, by omega⟩, ?_⟩
        simp
        refine ⟨by omega, by omega, by omega, ?_⟩
        simp [r_i_wrapped_9]
        rw [wrap64 (by omega) (by omega)]
        have hF : Wrapped w L (done ++ [cur ++ 32 :: L[i]]) (i + 1) := .inr ⟨done, cur ++ 32 :: L[i], rfl, by simp; omega, by rw [hf, hd, fillGo, if_pos hfit]⟩
        refine hN (done ++ [cur ++ 32 :: L[i]], i + 1) _ (by dsimp only; omega) ⟨by dsimp only; omega, by simp; omega, hF⟩ (Wk.list rfl (by simp) (by simp))
      · have hF : Wrapped w L (done ++ [cur] ++ [L[i]]) (i + 1) := .inr ⟨done ++ [cur], L[i], rfl, hx, by rw [hf, hd, fillGo, if_neg (by omega)]; simp⟩
        have ht : (done.map S ++ [S cur]).take (done.length + 1) = done.map S ++ [S cur] := List.take_of_length_le (by simp)
        simp [r_i_wrapped_8]
        rw [ht]
        refine ⟨by unfold lenBound; omega, ?_⟩
        simp [r_i_wrapped_9]
        rw [wrap64 (by omega) (by omega)]
        refine hN (done ++ [cur] ++ [L[i]], i + 1) _ (by dsimp only; omega) ⟨by dsimp only; omega, by simp; omega, hF⟩ (Wk.trans (Wk.ren 47 9 (by decide) (by simp)) (Wk.list rfl ?_ ?_))
        · simp [AS.ren, ren, reN]
        · simp [AS.ren, ren, reN, renB]
  · obtain rfl : i = L.length := by omega
    refine hE _ _ ?_
    simp only [blockK_exit]
    simp [r_i_wrapped_11, hf.done]

end Go.Proofs.YtbeoijlggphklaaGreatDoor

/- The compact code of the functions, and that it is theirs: written by a program of this claim. -/
namespace Go.Proofs.YtbeoijlggphklaaGreatDoor
open Go.Abs
set_option maxRecDepth 100000
def r_i_isName_0 : List CO := [⟨none, (some 2), (.mv (.k (.v (.bool false))))⟩]
def r_i_isName_1 : List CO := [⟨none, (some 4), (.mv (.t 0))⟩, ⟨none, (some 5), (.len true (.t 4))⟩, ⟨none, (some 6), (.mv (.k (.v (.int .i64 (0)))))⟩]
def r_i_isName_2 : List CO := [⟨none, (some 7), (.bin .lss .none (.t 6) (.t 5))⟩]
def r_i_isName_3 : List CO := [⟨none, (some 8), (.mv (.t 6))⟩, ⟨none, (some 3), (.mv (.t 8))⟩]
def r_i_isName_4 : List CO := [⟨none, (some 9), (.mv (.t 3))⟩, ⟨none, (some 10), (.bin .eql .none (.t 9) (.k (.v (.int .i64 (0)))))⟩, ⟨none, (some 11), (.mv (.t 10))⟩, ⟨(some (11, true)), (some 12), (.mv (.t 0))⟩, ⟨(some (11, true)), (some 13), (.mv (.t 3))⟩, ⟨(some (11, true)), (some 14), (.idx (.t 12) (.t 13))⟩, ⟨(some (11, true)), (some 15), (.bin .lss .none (.t 14) (.k (.v (.int .u8 (65)))))⟩, ⟨(some (11, true)), (some 16), (.mv (.t 15))⟩, ⟨(some (16, false)), (some 17), (.mv (.t 0))⟩, ⟨(some (16, false)), (some 18), (.mv (.t 3))⟩, ⟨(some (16, false)), (some 19), (.idx (.t 17) (.t 18))⟩, ⟨(some (16, false)), (some 20), (.bin .gtr .none (.t 19) (.k (.v (.int .u8 (90)))))⟩, ⟨(some (11, true)), (some 21), (.pick (.t 16) (.k (.v (.bool true))) (.t 20))⟩, ⟨none, (some 22), (.pick (.t 11) (.t 21) (.k (.v (.bool false))))⟩, ⟨none, (some 23), (.mv (.t 22))⟩, ⟨(some (23, false)), (some 24), (.mv (.t 3))⟩, ⟨(some (23, false)), (some 25), (.bin .gtr .none (.t 24) (.k (.v (.int .i64 (0)))))⟩, ⟨(some (23, false)), (some 26), (.mv (.t 25))⟩, ⟨(some (26, true)), (some 27), (.mv (.t 0))⟩, ⟨(some (26, true)), (some 28), (.mv (.t 3))⟩, ⟨(some (26, true)), (some 29), (.idx (.t 27) (.t 28))⟩, ⟨(some (26, true)), (some 30), (.bin .lss .none (.t 29) (.k (.v (.int .u8 (97)))))⟩, ⟨(some (26, true)), (some 31), (.mv (.t 30))⟩, ⟨(some (31, false)), (some 32), (.mv (.t 0))⟩, ⟨(some (31, false)), (some 33), (.mv (.t 3))⟩, ⟨(some (31, false)), (some 34), (.idx (.t 32) (.t 33))⟩, ⟨(some (31, false)), (some 35), (.bin .gtr .none (.t 34) (.k (.v (.int .u8 (122)))))⟩, ⟨(some (26, true)), (some 36), (.pick (.t 31) (.k (.v (.bool true))) (.t 35))⟩, ⟨(some (23, false)), (some 37), (.pick (.t 26) (.t 36) (.k (.v (.bool false))))⟩, ⟨none, (some 38), (.pick (.t 23) (.k (.v (.bool true))) (.t 37))⟩]
def r_i_isName_5 : List CO := [⟨none, (some 2), (.mv (.k (.v (.bool false))))⟩]
def r_i_isName_6 : List CO := [⟨none, (some 39), (.bin .add .none (.t 6) (.k (.v (.int .i64 (1)))))⟩, ⟨none, (some 6), (.mv (.t 39))⟩]
def l_i_isName_7 : C := (.seq (.reg r_i_isName_2 [0, 5, 6, 7]) (.seq (.cond (.t 7) .skip (.exit 0)) (.seq (.block 1 (.seq (.reg r_i_isName_3 [0, 3, 5, 6]) (.seq (.reg r_i_isName_4 [0, 5, 6, 38]) (.cond (.t 38) (.seq (.reg r_i_isName_5 [2]) .ret) .skip)))) (.reg r_i_isName_6 [0, 5, 6]))))
def r_i_isName_8 : List CO := [⟨none, (some 40), (.mv (.t 0))⟩, ⟨none, (some 41), (.len true (.t 40))⟩, ⟨none, (some 42), (.call n_i_inside [(.t 41), (.k (.v (.int .i64 (1)))), (.k (.v (.int .i64 (12))))])⟩, ⟨none, (some 2), (.mv (.t 42))⟩]
/-- loop.example/g00884/impl.isName -/
def c_i_isName : C := (.seq (.reg r_i_isName_0 [0]) (.seq (.seq (.reg r_i_isName_1 [0, 5, 6]) (.block 0 (.loop l_i_isName_7))) (.seq (.reg r_i_isName_8 [2]) .ret)))
def k_i_isName : Nat → List Nat
  | 0 => [0]
  | 1 => [0, 5, 6]
  | 2 => [0, 5, 6, 7]
  | 3 => [0, 3, 5, 6]
  | 4 => [0, 5, 6, 38]
  | 5 => [2]
  | 6 => [0, 5, 6]
  | 7 => [2]
  | _ => []
theorem fn_i_isName : FnC Tryz.prog n_i_isName c_i_isName [(.tmp 2)] 43 :=
  ⟨Tryz.f96, _, k_i_isName, Tryz.func96, rfl, by kernel_rfl, by kernel_rfl, by kernel_rfl, rfl⟩
def r_s_l16Name_0 : List CO := [⟨none, (some 2), (.mv (.k (.v (.bool false))))⟩]
def r_s_l16Name_1 : List CO := [⟨none, (some 4), (.mv (.t 0))⟩, ⟨none, (some 5), (.len true (.t 4))⟩, ⟨none, (some 6), (.call n_s_l1In [(.t 5), (.k (.v (.int .i64 (1)))), (.k (.v (.int .i64 (12))))])⟩, ⟨none, (some 7), (.un .not (.t 6))⟩, ⟨none, (some 8), (.mv (.t 7))⟩, ⟨(some (8, false)), (some 9), (.mv (.t 0))⟩, ⟨(some (8, false)), (some 10), (.idx (.t 9) (.k (.v (.int .i64 (0)))))⟩, ⟨(some (8, false)), (some 11), (.bin .lss .none (.t 10) (.k (.v (.int .u8 (65)))))⟩, ⟨none, (some 12), (.pick (.t 8) (.k (.v (.bool true))) (.t 11))⟩, ⟨none, (some 13), (.mv (.t 12))⟩, ⟨(some (13, false)), (some 14), (.mv (.t 0))⟩, ⟨(some (13, false)), (some 15), (.idx (.t 14) (.k (.v (.int .i64 (0)))))⟩, ⟨(some (13, false)), (some 16), (.bin .gtr .none (.t 15) (.k (.v (.int .u8 (90)))))⟩, ⟨none, (some 17), (.pick (.t 13) (.k (.v (.bool true))) (.t 16))⟩]
def r_s_l16Name_2 : List CO := [⟨none, (some 2), (.mv (.k (.v (.bool false))))⟩]
def r_s_l16Name_3 : List CO := [⟨none, (some 3), (.mv (.k (.v (.int .i64 (1)))))⟩]
def r_s_l16Name_4 : List CO := [⟨none, (some 18), (.mv (.t 3))⟩, ⟨none, (some 19), (.mv (.t 0))⟩, ⟨none, (some 20), (.len true (.t 19))⟩, ⟨none, (some 21), (.bin .lss .none (.t 18) (.t 20))⟩]
def r_s_l16Name_5 : List CO := [⟨none, (some 24), (.mv (.t 0))⟩, ⟨none, (some 25), (.mv (.t 3))⟩, ⟨none, (some 26), (.idx (.t 24) (.t 25))⟩, ⟨none, (some 27), (.bin .lss .none (.t 26) (.k (.v (.int .u8 (97)))))⟩, ⟨none, (some 28), (.mv (.t 27))⟩, ⟨(some (28, false)), (some 29), (.mv (.t 0))⟩, ⟨(some (28, false)), (some 30), (.mv (.t 3))⟩, ⟨(some (28, false)), (some 31), (.idx (.t 29) (.t 30))⟩, ⟨(some (28, false)), (some 32), (.bin .gtr .none (.t 31) (.k (.v (.int .u8 (122)))))⟩, ⟨none, (some 33), (.pick (.t 28) (.k (.v (.bool true))) (.t 32))⟩]
def r_s_l16Name_6 : List CO := [⟨none, (some 2), (.mv (.k (.v (.bool false))))⟩]
def r_s_l16Name_7 : List CO := [⟨none, (some 22), (.mv (.t 3))⟩, ⟨none, (some 23), (.bin .add .none (.t 22) (.k (.v (.int .i64 (1)))))⟩, ⟨none, (some 3), (.mv (.t 23))⟩]
def l_s_l16Name_8 : C := (.seq (.seq (.reg r_s_l16Name_4 [0, 3, 21]) (.cond (.t 21) .skip (.exit 0))) (.seq (.block 1 (.seq (.reg r_s_l16Name_5 [0, 3, 33]) (.cond (.t 33) (.seq (.reg r_s_l16Name_6 [2]) .ret) .skip))) (.reg r_s_l16Name_7 [0, 3])))
def r_s_l16Name_9 : List CO := [⟨none, (some 2), (.mv (.k (.v (.bool true))))⟩]
/-- loop.example/g00884/spec.l16Name -/
def c_s_l16Name : C := (.seq (.reg r_s_l16Name_0 [0]) (.seq (.seq (.reg r_s_l16Name_1 [0, 17]) (.cond (.t 17) (.seq (.reg r_s_l16Name_2 [2]) .ret) .skip)) (.seq (.seq (.reg r_s_l16Name_3 [0, 3]) (.block 0 (.loop l_s_l16Name_8))) (.seq (.reg r_s_l16Name_9 [2]) .ret))))
def k_s_l16Name : Nat → List Nat
  | 0 => [0]
  | 1 => [0, 17]
  | 2 => [2]
  | 3 => [0, 3]
  | 4 => [0, 3, 21]
  | 6 => [0, 3, 33]
  | 7 => [2]
  | 5 => [0, 3]
  | 8 => [2]
  | _ => []
theorem fn_s_l16Name : FnC Tryz.prog n_s_l16Name c_s_l16Name [(.tmp 2)] 34 :=
  ⟨Tryz.f131, _, k_s_l16Name, Tryz.func131, rfl, by kernel_rfl, by kernel_rfl, by kernel_rfl, rfl⟩
def r_s_l16Grant_0 : List CO := [⟨none, (some 1), (.box 18 (.t 0))⟩, ⟨none, (some 2), (.mv (.k (.v (.bool false))))⟩]
def r_s_l16Grant_1 : List CO := [⟨none, (some 3), (.faddr 0 (.t 1))⟩, ⟨none, (some 4), (.ld false 1 (.t 3))⟩, ⟨none, (some 5), (.call n_s_l1In [(.t 4), (.k (.v (.int .i64 (1)))), (.k (.v (.int .i64 (999))))])⟩, ⟨none, (some 6), (.mv (.t 5))⟩, ⟨(some (6, true)), (some 7), (.faddr 1 (.t 1))⟩, ⟨(some (6, true)), (some 8), (.ld false 1 (.t 7))⟩, ⟨(some (6, true)), (some 9), (.call n_s_l16Name [(.t 8)])⟩, ⟨none, (some 10), (.pick (.t 6) (.t 9) (.k (.v (.bool false))))⟩, ⟨none, (some 11), (.mv (.t 10))⟩, ⟨(some (11, true)), (some 12), (.faddr 2 (.t 1))⟩, ⟨(some (11, true)), (some 13), (.ld false 1 (.t 12))⟩, ⟨(some (11, true)), (some 14), (.call n_s_l1In [(.t 13), (.k (.v (.int .i64 (1000)))), (.k (.v (.int .i64 (2999))))])⟩, ⟨none, (some 15), (.pick (.t 11) (.t 14) (.k (.v (.bool false))))⟩, ⟨none, (some 16), (.mv (.t 15))⟩, ⟨(some (16, true)), (some 17), (.faddr 3 (.t 1))⟩, ⟨(some (16, true)), (some 18), (.ld true 15 (.t 17))⟩, ⟨(some (16, true)), (some 19), (.call n_s_l5Good [(.t 18)])⟩, ⟨none, (some 20), (.pick (.t 16) (.t 19) (.k (.v (.bool false))))⟩, ⟨none, (some 2), (.mv (.t 20))⟩]
/-- loop.example/g00884/spec.l16Grant -/
def c_s_l16Grant : C := (.seq (.reg r_s_l16Grant_0 [1]) (.seq (.reg r_s_l16Grant_1 [2]) .ret))
def k_s_l16Grant : Nat → List Nat
  | 0 => [1]
  | 1 => [2]
  | _ => []
theorem fn_s_l16Grant : FnC Tryz.prog n_s_l16Grant c_s_l16Grant [(.tmp 2)] 21 :=
  ⟨Tryz.f90, _, k_s_l16Grant, Tryz.func90, rfl, by kernel_rfl, by kernel_rfl, by kernel_rfl, rfl⟩
def r_s_l16Good_0 : List CO := [⟨none, (some 1), (.box 1 (.t 0))⟩, ⟨none, (some 2), (.mv (.k (.v (.bool false))))⟩]
def r_s_l16Good_1 : List CO := [⟨none, (some 5), (.faddr 0 (.t 1))⟩, ⟨none, (some 6), (.ld false 1 (.t 5))⟩, ⟨none, (some 7), (.len false (.t 6))⟩, ⟨none, (some 8), (.bin .gtr .none (.t 7) (.k (.v (.int .i64 (12)))))⟩]
def r_s_l16Good_2 : List CO := [⟨none, (some 2), (.mv (.k (.v (.bool false))))⟩]
def r_s_l16Good_3 : List CO := [⟨none, (some 3), (.mv (.k (.v (.int .i64 (0)))))⟩]
def r_s_l16Good_4 : List CO := [⟨none, (some 9), (.mv (.t 3))⟩, ⟨none, (some 10), (.faddr 0 (.t 1))⟩, ⟨none, (some 11), (.ld false 1 (.t 10))⟩, ⟨none, (some 12), (.len false (.t 11))⟩, ⟨none, (some 13), (.bin .lss .none (.t 9) (.t 12))⟩]
def r_s_l16Good_5 : List CO := [⟨none, (some 16), (.faddr 0 (.t 1))⟩, ⟨none, (some 17), (.ld false 1 (.t 16))⟩, ⟨none, (some 18), (.mv (.t 3))⟩, ⟨none, (some 19), (.iaddr 18 (.t 17) (.t 18))⟩, ⟨none, (some 20), (.ld true 18 (.t 19))⟩, ⟨none, (some 21), (.call n_s_l16Grant [(.t 20)])⟩, ⟨none, (some 22), (.un .not (.t 21))⟩, ⟨none, (some 23), (.mv (.t 22))⟩, ⟨(some (23, false)), (some 24), (.mv (.t 3))⟩, ⟨(some (23, false)), (some 25), (.bin .gtr .none (.t 24) (.k (.v (.int .i64 (0)))))⟩, ⟨(some (23, false)), (some 26), (.mv (.t 25))⟩, ⟨(some (26, true)), (some 27), (.faddr 0 (.t 1))⟩, ⟨(some (26, true)), (some 28), (.ld false 1 (.t 27))⟩, ⟨(some (26, true)), (some 29), (.mv (.t 3))⟩, ⟨(some (26, true)), (some 30), (.bin .sub .none (.t 29) (.k (.v (.int .i64 (1)))))⟩, ⟨(some (26, true)), (some 31), (.iaddr 18 (.t 28) (.t 30))⟩, ⟨(some (26, true)), (some 32), (.faddr 0 (.t 31))⟩, ⟨(some (26, true)), (some 33), (.ld false 1 (.t 32))⟩, ⟨(some (26, true)), (some 34), (.faddr 0 (.t 1))⟩, ⟨(some (26, true)), (some 35), (.ld false 1 (.t 34))⟩, ⟨(some (26, true)), (some 36), (.mv (.t 3))⟩, ⟨(some (26, true)), (some 37), (.iaddr 18 (.t 35) (.t 36))⟩, ⟨(some (26, true)), (some 38), (.faddr 0 (.t 37))⟩, ⟨(some (26, true)), (some 39), (.ld false 1 (.t 38))⟩, ⟨(some (26, true)), (some 40), (.bin .geq .none (.t 33) (.t 39))⟩, ⟨(some (26, true)), (some 41), (.mv (.t 40))⟩, ⟨(some (41, false)), (some 42), (.faddr 0 (.t 1))⟩, ⟨(some (41, false)), (some 43), (.ld false 1 (.t 42))⟩, ⟨(some (41, false)), (some 44), (.mv (.t 3))⟩, ⟨(some (41, false)), (some 45), (.bin .sub .none (.t 44) (.k (.v (.int .i64 (1)))))⟩, ⟨(some (41, false)), (some 46), (.iaddr 18 (.t 43) (.t 45))⟩, ⟨(some (41, false)), (some 47), (.faddr 2 (.t 46))⟩, ⟨(some (41, false)), (some 48), (.ld false 1 (.t 47))⟩, ⟨(some (41, false)), (some 49), (.faddr 0 (.t 1))⟩, ⟨(some (41, false)), (some 50), (.ld false 1 (.t 49))⟩, ⟨(some (41, false)), (some 51), (.mv (.t 3))⟩, ⟨(some (41, false)), (some 52), (.iaddr 18 (.t 50) (.t 51))⟩, ⟨(some (41, false)), (some 53), (.faddr 2 (.t 52))⟩, ⟨(some (41, false)), (some 54), (.ld false 1 (.t 53))⟩, ⟨(some (41, false)), (some 55), (.bin .gtr .none (.t 48) (.t 54))⟩, ⟨(some (26, true)), (some 56), (.pick (.t 41) (.k (.v (.bool true))) (.t 55))⟩, ⟨(some (23, false)), (some 57), (.pick (.t 26) (.t 56) (.k (.v (.bool false))))⟩, ⟨none, (some 58), (.pick (.t 23) (.k (.v (.bool true))) (.t 57))⟩]
def p_s_l16Good_5 : List (List Nat) := [[], [0], [], [0, 1, 2], [0, 1, 2, 3], [0, 1, 2, 3, 4], [0, 1, 2, 3, 4, 5], [0, 1, 2, 3, 4, 5, 6], [0, 1, 2, 3, 4, 5, 6, 7], [0, 1, 2, 3, 4, 5, 6, 7, 8], [0, 1, 2, 3, 4, 5, 6, 7, 8, 9], [0, 1, 2, 3, 4, 5, 6, 7, 8, 9, 10], [0, 1, 2, 3, 4, 5, 6, 7, 8, 9, 10, 11], [0, 1, 2, 3, 4, 5, 6, 7, 8, 9, 10], [0, 1, 2, 3, 4, 5, 6, 7, 8, 9, 10, 13], [0, 1, 2, 3, 4, 5, 6, 7, 8, 9, 10, 11, 12, 13, 14], [0, 1, 2, 3, 4, 5, 6, 7, 8, 9, 10, 11, 12, 13, 14, 15], [0, 1, 2, 3, 4, 5, 6, 7, 8, 9, 10, 11, 12, 13, 14, 15, 16], [0, 1, 2, 3, 4, 5, 6, 7, 8, 9, 10], [0, 1, 2, 3, 4, 5, 6, 7, 8, 9, 10, 18], [0, 1, 2, 3, 4, 5, 6, 7, 8, 9, 10], [0, 1, 2, 3, 4, 5, 6, 7, 8, 9, 10, 18, 19, 20], [0, 1, 2, 3, 4, 5, 6, 7, 8, 9, 10, 18, 19, 20, 21], [0, 1, 2, 3, 4, 5, 6, 7, 8, 9, 10, 18, 19, 20, 21, 22], [0, 1, 2, 3, 4, 5, 6, 7, 8, 9, 10, 11, 12, 13, 14, 15, 16, 17, 18, 19, 20, 21, 22, 23], [0, 1, 2, 3, 4, 5, 6, 7, 8, 9, 10, 11, 12, 13, 14, 15, 16, 17, 18, 19, 20, 21, 22, 23, 24], [0, 1, 2, 3, 4, 5, 6, 7, 8, 9, 10, 11, 12, 13, 14, 15, 16, 17, 18, 19, 20, 21, 22, 23, 24, 25], [0, 1, 2, 3, 4, 5, 6, 7, 8, 9, 10, 11, 12, 13, 14, 15, 16, 17, 18, 19, 20, 21, 22, 23, 24, 25, 26], [0, 1, 2, 3, 4, 5, 6, 7, 8, 9, 10, 11, 12, 13, 14, 15, 16, 17, 18, 19, 20, 21, 22, 23, 24, 25], [0, 1, 2, 3, 4, 5, 6, 7, 8, 9, 10, 11, 12, 13, 14, 15, 16, 17, 18, 19, 20, 21, 22, 23, 24, 25, 28], [0, 1, 2, 3, 4, 5, 6, 7, 8, 9, 10, 11, 12, 13, 14, 15, 16, 17, 18, 19, 20, 21, 22, 23, 24, 25, 26, 27, 28, 29], [0, 1, 2, 3, 4, 5, 6, 7, 8, 9, 10, 11, 12, 13, 14, 15, 16, 17, 18, 19, 20, 21, 22, 23, 24, 25, 26, 27, 28, 29, 30], [0, 1, 2, 3, 4, 5, 6, 7, 8, 9, 10, 11, 12, 13, 14, 15, 16, 17, 18, 19, 20, 21, 22, 23, 24, 25, 26, 27, 28, 29, 30, 31], [0, 1, 2, 3, 4, 5, 6, 7, 8, 9, 10, 11, 12, 13, 14, 15, 16, 17, 18, 19, 20, 21, 22, 23, 24, 25], [0, 1, 2, 3, 4, 5, 6, 7, 8, 9, 10, 11, 12, 13, 14, 15, 16, 17, 18, 19, 20, 21, 22, 23, 24, 25, 33], [0, 1, 2, 3, 4, 5, 6, 7, 8, 9, 10, 11, 12, 13, 14, 15, 16, 17, 18, 19, 20, 21, 22, 23, 24, 25], [0, 1, 2, 3, 4, 5, 6, 7, 8, 9, 10, 11, 12, 13, 14, 15, 16, 17, 18, 19, 20, 21, 22, 23, 24, 25, 33, 34, 35], [0, 1, 2, 3, 4, 5, 6, 7, 8, 9, 10, 11, 12, 13, 14, 15, 16, 17, 18, 19, 20, 21, 22, 23, 24, 25, 33, 34, 35, 36], [0, 1, 2, 3, 4, 5, 6, 7, 8, 9, 10, 11, 12, 13, 14, 15, 16, 17, 18, 19, 20, 21, 22, 23, 24, 25, 33, 34, 35, 36, 37], [0, 1, 2, 3, 4, 5, 6, 7, 8, 9, 10, 11, 12, 13, 14, 15, 16, 17, 18, 19, 20, 21, 22, 23, 24, 25, 26, 27, 28, 29, 30, 31, 32, 33, 34, 35, 36, 37, 38], [0, 1, 2, 3, 4, 5, 6, 7, 8, 9, 10, 11, 12, 13, 14, 15, 16, 17, 18, 19, 20, 21, 22, 23, 24, 25, 26, 27, 28, 29, 30, 31, 32, 33, 34, 35, 36, 37, 38, 39], [0, 1, 2, 3, 4, 5, 6, 7, 8, 9, 10, 11, 12, 13, 14, 15, 16, 17, 18, 19, 20, 21, 22, 23, 24, 25, 26, 27, 28, 29, 30, 31, 32, 33, 34, 35, 36, 37, 38, 39, 40], [0, 1, 2, 3, 4, 5, 6, 7, 8, 9, 10, 11, 12, 13, 14, 15, 16, 17, 18, 19, 20, 21, 22, 23, 24, 25, 26, 27, 28, 29, 30, 31, 32, 33, 34, 35, 36, 37, 38, 39, 40, 41]]
def r_s_l16Good_6 : List CO := [⟨none, (some 2), (.mv (.k (.v (.bool false))))⟩]
def r_s_l16Good_7 : List CO := [⟨none, (some 4), (.mv (.k (.v (.int .i64 (0)))))⟩]
def r_s_l16Good_8 : List CO := [⟨none, (some 59), (.mv (.t 4))⟩, ⟨none, (some 60), (.mv (.t 3))⟩, ⟨none, (some 61), (.bin .lss .none (.t 59) (.t 60))⟩]
def r_s_l16Good_9 : List CO := [⟨none, (some 64), (.faddr 0 (.t 1))⟩, ⟨none, (some 65), (.ld false 1 (.t 64))⟩, ⟨none, (some 66), (.mv (.t 4))⟩, ⟨none, (some 67), (.iaddr 18 (.t 65) (.t 66))⟩, ⟨none, (some 68), (.faddr 3 (.t 67))⟩, ⟨none, (some 69), (.ld true 15 (.t 68))⟩, ⟨none, (some 70), (.faddr 0 (.t 1))⟩, ⟨none, (some 71), (.ld false 1 (.t 70))⟩, ⟨none, (some 72), (.mv (.t 3))⟩, ⟨none, (some 73), (.iaddr 18 (.t 71) (.t 72))⟩, ⟨none, (some 74), (.faddr 3 (.t 73))⟩, ⟨none, (some 75), (.ld true 15 (.t 74))⟩, ⟨none, (some 76), (.call n_s_l15Conflict [(.t 69), (.t 75)])⟩]
def p_s_l16Good_9 : List (List Nat) := [[], [0], [], [0, 1, 2], [0, 1, 2, 3], [0, 1, 2, 3, 4], [], [6], [], [6, 7, 8], [6, 7, 8, 9], [6, 7, 8, 9, 10], [0, 1, 2, 3, 4, 5, 6, 7, 8, 9, 10, 11]]
def r_s_l16Good_10 : List CO := [⟨none, (some 2), (.mv (.k (.v (.bool false))))⟩]
def r_s_l16Good_11 : List CO := [⟨none, (some 62), (.mv (.t 4))⟩, ⟨none, (some 63), (.bin .add .none (.t 62) (.k (.v (.int .i64 (1)))))⟩, ⟨none, (some 4), (.mv (.t 63))⟩]
def l_s_l16Good_12 : C := (.seq (.seq (.reg r_s_l16Good_8 [1, 3, 4, 61]) (.cond (.t 61) .skip (.exit 2))) (.seq (.block 3 (.seq (.regD r_s_l16Good_9 p_s_l16Good_9 [1, 3, 4, 76]) (.cond (.t 76) (.seq (.reg r_s_l16Good_10 [2]) .ret) .skip))) (.reg r_s_l16Good_11 [1, 3, 4])))
def r_s_l16Good_13 : List CO := [⟨none, (some 14), (.mv (.t 3))⟩, ⟨none, (some 15), (.bin .add .none (.t 14) (.k (.v (.int .i64 (1)))))⟩, ⟨none, (some 3), (.mv (.t 15))⟩]
def l_s_l16Good_14 : C := (.seq (.seq (.reg r_s_l16Good_4 [1, 3, 13]) (.cond (.t 13) .skip (.exit 0))) (.seq (.block 1 (.seq (.seq (.regD r_s_l16Good_5 p_s_l16Good_5 [1, 3, 58]) (.cond (.t 58) (.seq (.reg r_s_l16Good_6 [2]) .ret) .skip)) (.seq (.reg r_s_l16Good_7 [1, 3, 4]) (.block 2 (.loop l_s_l16Good_12))))) (.reg r_s_l16Good_13 [1, 3])))
def r_s_l16Good_15 : List CO := [⟨none, (some 2), (.mv (.k (.v (.bool true))))⟩]
/-- loop.example/g00884/spec.l16Good -/
def c_s_l16Good : C := (.seq (.reg r_s_l16Good_0 [1]) (.seq (.seq (.reg r_s_l16Good_1 [1, 8]) (.cond (.t 8) (.seq (.reg r_s_l16Good_2 [2]) .ret) .skip)) (.seq (.seq (.reg r_s_l16Good_3 [1, 3]) (.block 0 (.loop l_s_l16Good_14))) (.seq (.reg r_s_l16Good_15 [2]) .ret))))
def k_s_l16Good : Nat → List Nat
  | 0 => [1]
  | 1 => [1, 8]
  | 2 => [2]
  | 3 => [1, 3]
  | 4 => [1, 3, 13]
  | 6 => [1, 3, 58]
  | 7 => [2]
  | 8 => [1, 3, 4]
  | 9 => [1, 3, 4, 61]
  | 11 => [1, 3, 4, 76]
  | 12 => [2]
  | 10 => [1, 3, 4]
  | 5 => [1, 3]
  | 13 => [2]
  | _ => []
theorem fn_s_l16Good : FnC Tryz.prog n_s_l16Good c_s_l16Good [(.tmp 2)] 77 :=
  ⟨Tryz.f52, _, k_s_l16Good, Tryz.func52, rfl, by kernel_rfl, by kernel_rfl, by kernel_rfl, rfl⟩
def r_slices_IndexFunc_i_Grant_i_Grant_0 : List CO := [⟨none, (some 4), (.mv (.k (.v (.int .i64 (0)))))⟩]
def r_slices_IndexFunc_i_Grant_i_Grant_1 : List CO := [⟨none, (some 6), (.mv (.t 0))⟩, ⟨none, (some 7), (.len false (.t 6))⟩, ⟨none, (some 8), (.mv (.k (.v (.int .i64 (0)))))⟩]
def r_slices_IndexFunc_i_Grant_i_Grant_2 : List CO := [⟨none, (some 9), (.bin .lss .none (.t 8) (.t 7))⟩]
def r_slices_IndexFunc_i_Grant_i_Grant_3 : List CO := [⟨none, (some 10), (.mv (.t 8))⟩, ⟨none, (some 5), (.mv (.t 10))⟩]
def r_slices_IndexFunc_i_Grant_i_Grant_4 : List CO := [⟨none, (some 11), (.mv (.t 1))⟩, ⟨none, (some 12), (.mv (.t 0))⟩, ⟨none, (some 13), (.mv (.t 5))⟩, ⟨none, (some 14), (.iaddr 18 (.t 12) (.t 13))⟩, ⟨none, (some 15), (.ld true 18 (.t 14))⟩, ⟨none, (some 16), (.callv (.t 11) [(.t 15)])⟩]
def r_slices_IndexFunc_i_Grant_i_Grant_5 : List CO := [⟨none, (some 17), (.mv (.t 5))⟩, ⟨none, (some 4), (.mv (.t 17))⟩]
def r_slices_IndexFunc_i_Grant_i_Grant_6 : List CO := [⟨none, (some 18), (.bin .add .none (.t 8) (.k (.v (.int .i64 (1)))))⟩, ⟨none, (some 8), (.mv (.t 18))⟩]
def l_slices_IndexFunc_i_Grant_i_Grant_7 : C := (.seq (.reg r_slices_IndexFunc_i_Grant_i_Grant_2 [0, 1, 7, 8, 9]) (.seq (.cond (.t 9) .skip (.exit 0)) (.seq (.block 1 (.seq (.reg r_slices_IndexFunc_i_Grant_i_Grant_3 [0, 1, 5, 7, 8]) (.seq (.reg r_slices_IndexFunc_i_Grant_i_Grant_4 [0, 1, 5, 7, 8, 16]) (.cond (.t 16) (.seq (.reg r_slices_IndexFunc_i_Grant_i_Grant_5 [4]) .ret) .skip)))) (.reg r_slices_IndexFunc_i_Grant_i_Grant_6 [0, 1, 7, 8]))))
def r_slices_IndexFunc_i_Grant_i_Grant_8 : List CO := [⟨none, (some 4), (.mv (.k (.v (.int .i64 (-1)))))⟩]
/-- slices.IndexFunc[[]loop.example/g00884/impl.Grant,loop.example/g00884/impl.Grant] -/
def c_slices_IndexFunc_i_Grant_i_Grant : C := (.seq (.reg r_slices_IndexFunc_i_Grant_i_Grant_0 [0, 1]) (.seq (.seq (.reg r_slices_IndexFunc_i_Grant_i_Grant_1 [0, 1, 7, 8]) (.block 0 (.loop l_slices_IndexFunc_i_Grant_i_Grant_7))) (.seq (.reg r_slices_IndexFunc_i_Grant_i_Grant_8 [4]) .ret)))
def k_slices_IndexFunc_i_Grant_i_Grant : Nat → List Nat
  | 0 => [0, 1]
  | 1 => [0, 1, 7, 8]
  | 2 => [0, 1, 7, 8, 9]
  | 3 => [0, 1, 5, 7, 8]
  | 4 => [0, 1, 5, 7, 8, 16]
  | 5 => [4]
  | 6 => [0, 1, 7, 8]
  | 7 => [4]
  | _ => []
theorem fn_slices_IndexFunc_i_Grant_i_Grant : FnC Tryz.prog n_slices_IndexFunc_i_Grant_i_Grant c_slices_IndexFunc_i_Grant_i_Grant [(.tmp 4)] 19 :=
  ⟨Tryz.f143, _, k_slices_IndexFunc_i_Grant_i_Grant, Tryz.func143, rfl, by kernel_rfl, by kernel_rfl, by kernel_rfl, rfl⟩
def r_slices_ContainsFunc_i_Grant_i_Grant_0 : List CO := [⟨none, (some 4), (.mv (.k (.v (.bool false))))⟩]
def r_slices_ContainsFunc_i_Grant_i_Grant_1 : List CO := [⟨none, (some 5), (.mv (.t 0))⟩, ⟨none, (some 6), (.mv (.t 1))⟩, ⟨none, (some 7), (.call n_slices_IndexFunc_i_Grant_i_Grant [(.t 5), (.t 6)])⟩, ⟨none, (some 8), (.bin .geq .none (.t 7) (.k (.v (.int .i64 (0)))))⟩, ⟨none, (some 4), (.mv (.t 8))⟩]
/-- slices.ContainsFunc[[]loop.example/g00884/impl.Grant,loop.example/g00884/impl.Grant] -/
def c_slices_ContainsFunc_i_Grant_i_Grant : C := (.seq (.reg r_slices_ContainsFunc_i_Grant_i_Grant_0 [0, 1]) (.seq (.reg r_slices_ContainsFunc_i_Grant_i_Grant_1 [4]) .ret))
def k_slices_ContainsFunc_i_Grant_i_Grant : Nat → List Nat
  | 0 => [0, 1]
  | 1 => [4]
  | _ => []
theorem fn_slices_ContainsFunc_i_Grant_i_Grant : FnC Tryz.prog n_slices_ContainsFunc_i_Grant_i_Grant c_slices_ContainsFunc_i_Grant_i_Grant [(.tmp 4)] 9 :=
  ⟨Tryz.f98, _, k_slices_ContainsFunc_i_Grant_i_Grant, Tryz.func98, rfl, by kernel_rfl, by kernel_rfl, by kernel_rfl, rfl⟩
def r_i_IsValidRegister_1_0 : List CO := [⟨none, (some 2), (.box 18 (.t 0))⟩, ⟨none, (some 3), (.mv (.k (.v (.bool false))))⟩]
def r_i_IsValidRegister_1_1 : List CO := [⟨none, (some 4), (.faddr 3 (.t 2))⟩, ⟨none, (some 5), (.ld true 15 (.t 4))⟩, ⟨none, (some 6), (.faddr 3 (.t 1))⟩, ⟨none, (some 7), (.ld true 15 (.t 6))⟩, ⟨none, (some 8), (.call n_i_conflict [(.t 5), (.t 7)])⟩, ⟨none, (some 3), (.mv (.t 8))⟩]
/-- loop.example/g00884/impl.IsValidRegister$1 -/
def c_i_IsValidRegister_1 : C := (.seq (.reg r_i_IsValidRegister_1_0 [1, 2]) (.seq (.reg r_i_IsValidRegister_1_1 [3]) .ret))
def k_i_IsValidRegister_1 : Nat → List Nat
  | 0 => [1, 2]
  | 1 => [3]
  | _ => []
theorem fn_i_IsValidRegister_1 : FnC Tryz.prog n_i_IsValidRegister_1 c_i_IsValidRegister_1 [(.tmp 3)] 9 :=
  ⟨Tryz.f99, _, k_i_IsValidRegister_1, Tryz.func99, rfl, by kernel_rfl, by kernel_rfl, by kernel_rfl, rfl⟩
def r_i_IsValidRegister_0 : List CO := [⟨none, (some 1), (.box 1 (.t 0))⟩, ⟨none, (some 2), (.mv (.k (.v (.bool false))))⟩]
def r_i_IsValidRegister_1 : List CO := [⟨none, (some 5), (.faddr 0 (.t 1))⟩, ⟨none, (some 6), (.ld false 1 (.t 5))⟩, ⟨none, (some 7), (.len false (.t 6))⟩, ⟨none, (some 8), (.mv (.k (.v (.int .i64 (0)))))⟩]
def r_i_IsValidRegister_2 : List CO := [⟨none, (some 9), (.bin .lss .none (.t 8) (.t 7))⟩]
def r_i_IsValidRegister_3 : List CO := [⟨none, (some 10), (.mv (.t 8))⟩, ⟨none, (some 11), (.iaddr 18 (.t 6) (.t 8))⟩, ⟨none, (some 12), (.ld true 18 (.t 11))⟩, ⟨none, (some 4), (.box 18 (.k (.agg [(.v (.int .i64 (0))), (.v (.string (bs []))), (.v (.int .i64 (0))), (.v (.int .i64 (0))), (.v (.int .i64 (0))), (.v (.int .i64 (0))), (.v (.int .i64 (0))), (.v (.int .i64 (0))), (.v (.int .i64 (0))), (.v (.int .i64 (0))), (.v (.int .i64 (0))), (.v (.int .i64 (0))), (.v (.int .i64 (0))), (.v (.int .i64 (0))), (.v (.int .i64 (0))), (.v (.int .i64 (0))), (.v (.int .i64 (0))), (.v (.int .i64 (0)))])))⟩, ⟨none, (some 3), (.mv (.t 10))⟩, ⟨none, none, (.st 18 (.t 4) (.t 12))⟩]
def r_i_IsValidRegister_4 : List CO := [⟨none, (some 13), (.faddr 0 (.t 4))⟩, ⟨none, (some 14), (.ld false 1 (.t 13))⟩, ⟨none, (some 15), (.call n_i_inside [(.t 14), (.k (.v (.int .i64 (1)))), (.k (.v (.int .i64 (999))))])⟩, ⟨none, (some 16), (.un .not (.t 15))⟩, ⟨none, (some 17), (.mv (.t 16))⟩, ⟨(some (17, false)), (some 18), (.faddr 1 (.t 4))⟩, ⟨(some (17, false)), (some 19), (.ld false 1 (.t 18))⟩, ⟨(some (17, false)), (some 20), (.call n_i_isName [(.t 19)])⟩, ⟨(some (17, false)), (some 21), (.un .not (.t 20))⟩, ⟨none, (some 22), (.pick (.t 17) (.k (.v (.bool true))) (.t 21))⟩, ⟨none, (some 23), (.mv (.t 22))⟩, ⟨(some (23, false)), (some 24), (.faddr 2 (.t 4))⟩, ⟨(some (23, false)), (some 25), (.ld false 1 (.t 24))⟩, ⟨(some (23, false)), (some 26), (.call n_i_inside [(.t 25), (.k (.v (.int .i64 (1000)))), (.k (.v (.int .i64 (2999))))])⟩, ⟨(some (23, false)), (some 27), (.un .not (.t 26))⟩, ⟨none, (some 28), (.pick (.t 23) (.k (.v (.bool true))) (.t 27))⟩, ⟨none, (some 29), (.mv (.t 28))⟩, ⟨(some (29, false)), (some 30), (.faddr 3 (.t 4))⟩, ⟨(some (29, false)), (some 31), (.ld true 15 (.t 30))⟩, ⟨(some (29, false)), (some 32), (.call n_i_IsValidArms [(.t 31)])⟩, ⟨(some (29, false)), (some 33), (.un .not (.t 32))⟩, ⟨none, (some 34), (.pick (.t 29) (.k (.v (.bool true))) (.t 33))⟩]
def r_i_IsValidRegister_5 : List CO := [⟨none, (some 2), (.mv (.k (.v (.bool false))))⟩]
def r_i_IsValidRegister_6 : List CO := [⟨none, (some 35), (.mv (.t 3))⟩, ⟨none, (some 36), (.bin .gtr .none (.t 35) (.k (.v (.int .i64 (0)))))⟩, ⟨none, (some 37), (.mv (.t 36))⟩, ⟨(some (37, true)), (some 38), (.faddr 0 (.t 1))⟩, ⟨(some (37, true)), (some 39), (.ld false 1 (.t 38))⟩, ⟨(some (37, true)), (some 40), (.mv (.t 3))⟩, ⟨(some (37, true)), (some 41), (.bin .sub .none (.t 40) (.k (.v (.int .i64 (1)))))⟩, ⟨(some (37, true)), (some 42), (.iaddr 18 (.t 39) (.t 41))⟩, ⟨(some (37, true)), (some 43), (.faddr 0 (.t 42))⟩, ⟨(some (37, true)), (some 44), (.ld false 1 (.t 43))⟩, ⟨(some (37, true)), (some 45), (.faddr 0 (.t 4))⟩, ⟨(some (37, true)), (some 46), (.ld false 1 (.t 45))⟩, ⟨(some (37, true)), (some 47), (.bin .geq .none (.t 44) (.t 46))⟩, ⟨(some (37, true)), (some 48), (.mv (.t 47))⟩, ⟨(some (48, false)), (some 49), (.faddr 0 (.t 1))⟩, ⟨(some (48, false)), (some 50), (.ld false 1 (.t 49))⟩, ⟨(some (48, false)), (some 51), (.mv (.t 3))⟩, ⟨(some (48, false)), (some 52), (.bin .sub .none (.t 51) (.k (.v (.int .i64 (1)))))⟩, ⟨(some (48, false)), (some 53), (.iaddr 18 (.t 50) (.t 52))⟩, ⟨(some (48, false)), (some 54), (.faddr 2 (.t 53))⟩, ⟨(some (48, false)), (some 55), (.ld false 1 (.t 54))⟩, ⟨(some (48, false)), (some 56), (.faddr 2 (.t 4))⟩, ⟨(some (48, false)), (some 57), (.ld false 1 (.t 56))⟩, ⟨(some (48, false)), (some 58), (.bin .gtr .none (.t 55) (.t 57))⟩, ⟨(some (37, true)), (some 59), (.pick (.t 48) (.k (.v (.bool true))) (.t 58))⟩, ⟨none, (some 60), (.pick (.t 37) (.t 59) (.k (.v (.bool false))))⟩]
def p_i_IsValidRegister_6 : List (List Nat) := [[], [0], [0, 1], [0, 1, 2], [0, 1, 2, 3], [0, 1, 2], [0, 1, 2, 5], [0, 1, 2, 3, 4, 5, 6], [0, 1, 2, 3, 4, 5, 6, 7], [0, 1, 2, 3, 4, 5, 6, 7, 8], [0, 1, 2], [0, 1, 2, 10], [0, 1, 2, 3, 4, 5, 6, 7, 8, 9, 10, 11], [0, 1, 2, 3, 4, 5, 6, 7, 8, 9, 10, 11, 12], [0, 1, 2, 3, 4, 5, 6, 7, 8, 9, 10, 11, 12, 13], [0, 1, 2, 3, 4, 5, 6, 7, 8, 9, 10, 11, 12, 13, 14], [0, 1, 2, 3, 4, 5, 6, 7, 8, 9, 10, 11, 12, 13], [0, 1, 2, 3, 4, 5, 6, 7, 8, 9, 10, 11, 12, 13, 16], [0, 1, 2, 3, 4, 5, 6, 7, 8, 9, 10, 11, 12, 13, 14, 15, 16, 17], [0, 1, 2, 3, 4, 5, 6, 7, 8, 9, 10, 11, 12, 13, 14, 15, 16, 17, 18], [0, 1, 2, 3, 4, 5, 6, 7, 8, 9, 10, 11, 12, 13, 14, 15, 16, 17, 18, 19], [0, 1, 2, 3, 4, 5, 6, 7, 8, 9, 10, 11, 12, 13], [0, 1, 2, 3, 4, 5, 6, 7, 8, 9, 10, 11, 12, 13, 21], [0, 1, 2, 3, 4, 5, 6, 7, 8, 9, 10, 11, 12, 13, 14, 15, 16, 17, 18, 19, 20, 21, 22], [0, 1, 2, 3, 4, 5, 6, 7, 8, 9, 10, 11, 12, 13, 14, 15, 16, 17, 18, 19, 20, 21, 22, 23], [0, 1, 2, 3, 4, 5, 6, 7, 8, 9, 10, 11, 12, 13, 14, 15, 16, 17, 18, 19, 20, 21, 22, 23, 24]]
def r_i_IsValidRegister_7 : List CO := [⟨none, (some 2), (.mv (.k (.v (.bool false))))⟩]
def r_i_IsValidRegister_8 : List CO := [⟨none, (some 61), (.faddr 0 (.t 1))⟩, ⟨none, (some 62), (.ld false 1 (.t 61))⟩, ⟨none, (some 63), (.mv (.t 3))⟩, ⟨none, (some 64), (.slc (some 18) (.t 62) none (some (.t 63)))⟩, ⟨none, (some 65), (.clo n_i_IsValidRegister_1 [(.t 4)])⟩, ⟨none, (some 66), (.call n_slices_ContainsFunc_i_Grant_i_Grant [(.t 64), (.t 65)])⟩]
def r_i_IsValidRegister_9 : List CO := [⟨none, (some 2), (.mv (.k (.v (.bool false))))⟩]
def r_i_IsValidRegister_10 : List CO := [⟨none, (some 67), (.bin .add .none (.t 8) (.k (.v (.int .i64 (1)))))⟩, ⟨none, (some 8), (.mv (.t 67))⟩]
def l_i_IsValidRegister_11 : C := (.seq (.reg r_i_IsValidRegister_2 [1, 6, 7, 8, 9]) (.seq (.cond (.t 9) .skip (.exit 0)) (.seq (.block 1 (.seq (.reg r_i_IsValidRegister_3 [1, 3, 4, 6, 7, 8]) (.seq (.seq (.reg r_i_IsValidRegister_4 [1, 3, 4, 6, 7, 8, 34]) (.cond (.t 34) (.seq (.reg r_i_IsValidRegister_5 [2]) .ret) .skip)) (.seq (.seq (.regD r_i_IsValidRegister_6 p_i_IsValidRegister_6 [1, 3, 4, 6, 7, 8, 60]) (.cond (.t 60) (.seq (.reg r_i_IsValidRegister_7 [2]) .ret) .skip)) (.seq (.reg r_i_IsValidRegister_8 [1, 6, 7, 8, 66]) (.cond (.t 66) (.seq (.reg r_i_IsValidRegister_9 [2]) .ret) .skip)))))) (.reg r_i_IsValidRegister_10 [1, 6, 7, 8]))))
def r_i_IsValidRegister_12 : List CO := [⟨none, (some 68), (.faddr 0 (.t 1))⟩, ⟨none, (some 69), (.ld false 1 (.t 68))⟩, ⟨none, (some 70), (.len false (.t 69))⟩, ⟨none, (some 71), (.bin .leq .none (.t 70) (.k (.v (.int .i64 (12)))))⟩, ⟨none, (some 2), (.mv (.t 71))⟩]
/-- loop.example/g00884/impl.IsValidRegister -/
def c_i_IsValidRegister : C := (.seq (.reg r_i_IsValidRegister_0 [1]) (.seq (.seq (.reg r_i_IsValidRegister_1 [1, 6, 7, 8]) (.block 0 (.loop l_i_IsValidRegister_11))) (.seq (.reg r_i_IsValidRegister_12 [2]) .ret)))
def k_i_IsValidRegister : Nat → List Nat
  | 0 => [1]
  | 1 => [1, 6, 7, 8]
  | 2 => [1, 6, 7, 8, 9]
  | 3 => [1, 3, 4, 6, 7, 8]
  | 4 => [1, 3, 4, 6, 7, 8, 34]
  | 5 => [2]
  | 6 => [1, 3, 4, 6, 7, 8, 60]
  | 7 => [2]
  | 8 => [1, 6, 7, 8, 66]
  | 9 => [2]
  | 10 => [1, 6, 7, 8]
  | 11 => [2]
  | _ => []
theorem fn_i_IsValidRegister : FnC Tryz.prog n_i_IsValidRegister c_i_IsValidRegister [(.tmp 2)] 72 :=
  ⟨Tryz.f56, _, k_i_IsValidRegister, Tryz.func56, rfl, by kernel_rfl, by kernel_rfl, by kernel_rfl, rfl⟩
end Go.Proofs.YtbeoijlggphklaaGreatDoor

/- The compact code of the functions, and that it is theirs: written by a program of this claim. -/
namespace Go.Proofs.YtbeoijlggphklaaGreatDoor
open Go.Abs
set_option maxRecDepth 100000
def r_i_Field_tinctures_0 : List CO := [⟨none, (some 1), (.box 4 (.t 0))⟩, ⟨none, (some 2), (.mv (.k (.v (.slice none 0 0))))⟩]
def r_i_Field_tinctures_1 : List CO := [⟨none, (some 3), (.faddr 0 (.t 1))⟩, ⟨none, (some 4), (.ld false 1 (.t 3))⟩, ⟨none, (some 5), (.bin .eql .none (.t 4) (.k (.v (.int .i64 (0)))))⟩]
def r_i_Field_tinctures_2 : List CO := [⟨none, (some 6), (.faddr 2 (.t 1))⟩, ⟨none, (some 7), (.ld false 1 (.t 6))⟩, ⟨none, (some 8), (.bslice 1 (.v (.int .i64 (0))) 1 [(0, (.t 7))])⟩, ⟨none, (some 2), (.mv (.t 8))⟩]
def r_i_Field_tinctures_3 : List CO := [⟨none, (some 9), (.faddr 2 (.t 1))⟩, ⟨none, (some 10), (.ld false 1 (.t 9))⟩, ⟨none, (some 11), (.faddr 3 (.t 1))⟩, ⟨none, (some 12), (.ld false 1 (.t 11))⟩, ⟨none, (some 13), (.bslice 1 (.v (.int .i64 (0))) 2 [(0, (.t 10)), (1, (.t 12))])⟩, ⟨none, (some 2), (.mv (.t 13))⟩]
/-- (loop.example/g00884/impl.Field).tinctures -/
def c_i_Field_tinctures : C := (.seq (.reg r_i_Field_tinctures_0 [1]) (.seq (.seq (.reg r_i_Field_tinctures_1 [1, 5]) (.cond (.t 5) (.seq (.reg r_i_Field_tinctures_2 [2]) .ret) .skip)) (.seq (.reg r_i_Field_tinctures_3 [2]) .ret)))
def k_i_Field_tinctures : Nat → List Nat
  | 0 => [1]
  | 1 => [1, 5]
  | 2 => [2]
  | 3 => [2]
  | _ => []
theorem fn_i_Field_tinctures : FnC Tryz.prog n_i_Field_tinctures c_i_Field_tinctures [(.tmp 2)] 14 :=
  ⟨Tryz.f222, _, k_i_Field_tinctures, Tryz.func222, rfl, by kernel_rfl, by kernel_rfl, by kernel_rfl, rfl⟩
def r_s_l3Tinctures_0 : List CO := [⟨none, (some 1), (.box 4 (.t 0))⟩, ⟨none, (some 2), (.mv (.k (.v (.slice none 0 0))))⟩]
def r_s_l3Tinctures_1 : List CO := [⟨none, (some 3), (.faddr 0 (.t 1))⟩, ⟨none, (some 4), (.ld false 1 (.t 3))⟩, ⟨none, (some 5), (.bin .eql .none (.t 4) (.k (.v (.int .i64 (0)))))⟩]
def r_s_l3Tinctures_2 : List CO := [⟨none, (some 6), (.faddr 2 (.t 1))⟩, ⟨none, (some 7), (.ld false 1 (.t 6))⟩, ⟨none, (some 8), (.bslice 1 (.v (.int .i64 (0))) 1 [(0, (.t 7))])⟩, ⟨none, (some 2), (.mv (.t 8))⟩]
def r_s_l3Tinctures_3 : List CO := [⟨none, (some 9), (.faddr 2 (.t 1))⟩, ⟨none, (some 10), (.ld false 1 (.t 9))⟩, ⟨none, (some 11), (.faddr 3 (.t 1))⟩, ⟨none, (some 12), (.ld false 1 (.t 11))⟩, ⟨none, (some 13), (.bslice 1 (.v (.int .i64 (0))) 2 [(0, (.t 10)), (1, (.t 12))])⟩, ⟨none, (some 2), (.mv (.t 13))⟩]
/-- loop.example/g00884/spec.l3Tinctures -/
def c_s_l3Tinctures : C := (.seq (.reg r_s_l3Tinctures_0 [1]) (.seq (.seq (.reg r_s_l3Tinctures_1 [1, 5]) (.cond (.t 5) (.seq (.reg r_s_l3Tinctures_2 [2]) .ret) .skip)) (.seq (.reg r_s_l3Tinctures_3 [2]) .ret)))
def k_s_l3Tinctures : Nat → List Nat
  | 0 => [1]
  | 1 => [1, 5]
  | 2 => [2]
  | 3 => [2]
  | _ => []
theorem fn_s_l3Tinctures : FnC Tryz.prog n_s_l3Tinctures c_s_l3Tinctures [(.tmp 2)] 14 :=
  ⟨Tryz.f216, _, k_s_l3Tinctures, Tryz.func216, rfl, by kernel_rfl, by kernel_rfl, by kernel_rfl, rfl⟩
def r_s_l1Same_0 : List CO := [⟨none, (some 4), (.mv (.k (.v (.bool false))))⟩]
def r_s_l1Same_1 : List CO := [⟨none, (some 6), (.mv (.t 0))⟩, ⟨none, (some 7), (.len false (.t 6))⟩, ⟨none, (some 8), (.mv (.t 1))⟩, ⟨none, (some 9), (.len false (.t 8))⟩, ⟨none, (some 10), (.bin .neq .none (.t 7) (.t 9))⟩]
def r_s_l1Same_2 : List CO := [⟨none, (some 4), (.mv (.k (.v (.bool false))))⟩]
def r_s_l1Same_3 : List CO := [⟨none, (some 5), (.mv (.k (.v (.int .i64 (0)))))⟩]
def r_s_l1Same_4 : List CO := [⟨none, (some 11), (.mv (.t 5))⟩, ⟨none, (some 12), (.mv (.t 0))⟩, ⟨none, (some 13), (.len false (.t 12))⟩, ⟨none, (some 14), (.bin .lss .none (.t 11) (.t 13))⟩]
def r_s_l1Same_5 : List CO := [⟨none, (some 17), (.mv (.t 0))⟩, ⟨none, (some 18), (.mv (.t 5))⟩, ⟨none, (some 19), (.iaddr 1 (.t 17) (.t 18))⟩, ⟨none, (some 20), (.ld false 1 (.t 19))⟩, ⟨none, (some 21), (.mv (.t 1))⟩, ⟨none, (some 22), (.mv (.t 5))⟩, ⟨none, (some 23), (.iaddr 1 (.t 21) (.t 22))⟩, ⟨none, (some 24), (.ld false 1 (.t 23))⟩, ⟨none, (some 25), (.bin .neq .none (.t 20) (.t 24))⟩]
def p_s_l1Same_5 : List (List Nat) := [[], [], [0, 1], [0, 1, 2], [], [], [4, 5], [4, 5, 6], [0, 1, 2, 3, 4, 5, 6, 7]]
def r_s_l1Same_6 : List CO := [⟨none, (some 4), (.mv (.k (.v (.bool false))))⟩]
def r_s_l1Same_7 : List CO := [⟨none, (some 15), (.mv (.t 5))⟩, ⟨none, (some 16), (.bin .add .none (.t 15) (.k (.v (.int .i64 (1)))))⟩, ⟨none, (some 5), (.mv (.t 16))⟩]
def l_s_l1Same_8 : C := (.seq (.seq (.reg r_s_l1Same_4 [0, 1, 5, 14]) (.cond (.t 14) .skip (.exit 0))) (.seq (.block 1 (.seq (.regD r_s_l1Same_5 p_s_l1Same_5 [0, 1, 5, 25]) (.cond (.t 25) (.seq (.reg r_s_l1Same_6 [4]) .ret) .skip))) (.reg r_s_l1Same_7 [0, 1, 5])))
def r_s_l1Same_9 : List CO := [⟨none, (some 4), (.mv (.k (.v (.bool true))))⟩]
/-- loop.example/g00884/spec.l1Same -/
def c_s_l1Same : C := (.seq (.reg r_s_l1Same_0 [0, 1]) (.seq (.seq (.reg r_s_l1Same_1 [0, 1, 10]) (.cond (.t 10) (.seq (.reg r_s_l1Same_2 [4]) .ret) .skip)) (.seq (.seq (.reg r_s_l1Same_3 [0, 1, 5]) (.block 0 (.loop l_s_l1Same_8))) (.seq (.reg r_s_l1Same_9 [4]) .ret))))
def k_s_l1Same : Nat → List Nat
  | 0 => [0, 1]
  | 1 => [0, 1, 10]
  | 2 => [4]
  | 3 => [0, 1, 5]
  | 4 => [0, 1, 5, 14]
  | 6 => [0, 1, 5, 25]
  | 7 => [4]
  | 5 => [0, 1, 5]
  | 8 => [4]
  | _ => []
theorem fn_s_l1Same : FnC Tryz.prog n_s_l1Same c_s_l1Same [(.tmp 4)] 26 :=
  ⟨Tryz.f215, _, k_s_l1Same, Tryz.func215, rfl, by kernel_rfl, by kernel_rfl, by kernel_rfl, rfl⟩
def r_slices_Equal_int_int_0 : List CO := [⟨none, (some 4), (.mv (.k (.v (.bool false))))⟩]
def r_slices_Equal_int_int_1 : List CO := [⟨none, (some 6), (.mv (.t 0))⟩, ⟨none, (some 7), (.len false (.t 6))⟩, ⟨none, (some 8), (.mv (.t 1))⟩, ⟨none, (some 9), (.len false (.t 8))⟩, ⟨none, (some 10), (.bin .neq .none (.t 7) (.t 9))⟩]
def r_slices_Equal_int_int_2 : List CO := [⟨none, (some 4), (.mv (.k (.v (.bool false))))⟩]
def r_slices_Equal_int_int_3 : List CO := [⟨none, (some 11), (.mv (.t 0))⟩, ⟨none, (some 12), (.len false (.t 11))⟩, ⟨none, (some 13), (.mv (.k (.v (.int .i64 (0)))))⟩]
def r_slices_Equal_int_int_4 : List CO := [⟨none, (some 14), (.bin .lss .none (.t 13) (.t 12))⟩]
def r_slices_Equal_int_int_5 : List CO := [⟨none, (some 15), (.mv (.t 13))⟩, ⟨none, (some 5), (.mv (.t 15))⟩]
def r_slices_Equal_int_int_6 : List CO := [⟨none, (some 16), (.mv (.t 0))⟩, ⟨none, (some 17), (.mv (.t 5))⟩, ⟨none, (some 18), (.iaddr 1 (.t 16) (.t 17))⟩, ⟨none, (some 19), (.ld false 1 (.t 18))⟩, ⟨none, (some 20), (.mv (.t 1))⟩, ⟨none, (some 21), (.mv (.t 5))⟩, ⟨none, (some 22), (.iaddr 1 (.t 20) (.t 21))⟩, ⟨none, (some 23), (.ld false 1 (.t 22))⟩, ⟨none, (some 24), (.bin .neq .none (.t 19) (.t 23))⟩]
def p_slices_Equal_int_int_6 : List (List Nat) := [[], [], [0, 1], [0, 1, 2], [], [], [4, 5], [4, 5, 6], [0, 1, 2, 3, 4, 5, 6, 7]]
def r_slices_Equal_int_int_7 : List CO := [⟨none, (some 4), (.mv (.k (.v (.bool false))))⟩]
def r_slices_Equal_int_int_8 : List CO := [⟨none, (some 25), (.bin .add .none (.t 13) (.k (.v (.int .i64 (1)))))⟩, ⟨none, (some 13), (.mv (.t 25))⟩]
def l_slices_Equal_int_int_9 : C := (.seq (.reg r_slices_Equal_int_int_4 [0, 1, 12, 13, 14]) (.seq (.cond (.t 14) .skip (.exit 0)) (.seq (.block 1 (.seq (.reg r_slices_Equal_int_int_5 [0, 1, 5, 12, 13]) (.seq (.regD r_slices_Equal_int_int_6 p_slices_Equal_int_int_6 [0, 1, 12, 13, 24]) (.cond (.t 24) (.seq (.reg r_slices_Equal_int_int_7 [4]) .ret) .skip)))) (.reg r_slices_Equal_int_int_8 [0, 1, 12, 13]))))
def r_slices_Equal_int_int_10 : List CO := [⟨none, (some 4), (.mv (.k (.v (.bool true))))⟩]
/-- slices.Equal[[]int,int] -/
def c_slices_Equal_int_int : C := (.seq (.reg r_slices_Equal_int_int_0 [0, 1]) (.seq (.seq (.reg r_slices_Equal_int_int_1 [0, 1, 10]) (.cond (.t 10) (.seq (.reg r_slices_Equal_int_int_2 [4]) .ret) .skip)) (.seq (.seq (.reg r_slices_Equal_int_int_3 [0, 1, 12, 13]) (.block 0 (.loop l_slices_Equal_int_int_9))) (.seq (.reg r_slices_Equal_int_int_10 [4]) .ret))))
def k_slices_Equal_int_int : Nat → List Nat
  | 0 => [0, 1]
  | 1 => [0, 1, 10]
  | 2 => [4]
  | 3 => [0, 1, 12, 13]
  | 4 => [0, 1, 12, 13, 14]
  | 5 => [0, 1, 5, 12, 13]
  | 6 => [0, 1, 12, 13, 24]
  | 7 => [4]
  | 8 => [0, 1, 12, 13]
  | 9 => [4]
  | _ => []
theorem fn_slices_Equal_int_int : FnC Tryz.prog n_slices_Equal_int_int c_slices_Equal_int_int [(.tmp 4)] 26 :=
  ⟨Tryz.f221, _, k_slices_Equal_int_int, Tryz.func221, rfl, by kernel_rfl, by kernel_rfl, by kernel_rfl, rfl⟩
def r_i_FieldDifferences_0 : List CO := [⟨none, (some 2), (.box 4 (.t 0))⟩, ⟨none, (some 3), (.box 4 (.t 1))⟩, ⟨none, (some 4), (.mv (.k (.v (.int .i64 (0)))))⟩, ⟨none, (some 5), (.mv (.k (.v (.bool false))))⟩]
def r_i_FieldDifferences_1 : List CO := [⟨none, (some 6), (.ld true 4 (.t 2))⟩, ⟨none, (some 7), (.call n_i_IsValidField [(.t 6)])⟩, ⟨none, (some 8), (.un .not (.t 7))⟩, ⟨none, (some 9), (.mv (.t 8))⟩, ⟨(some (9, false)), (some 10), (.ld true 4 (.t 3))⟩, ⟨(some (9, false)), (some 11), (.call n_i_IsValidField [(.t 10)])⟩, ⟨(some (9, false)), (some 12), (.un .not (.t 11))⟩, ⟨none, (some 13), (.pick (.t 9) (.k (.v (.bool true))) (.t 12))⟩]
def r_i_FieldDifferences_2 : List CO := [⟨none, (some 4), (.mv (.k (.v (.int .i64 (0)))))⟩, ⟨none, (some 5), (.mv (.k (.v (.bool false))))⟩]
def r_i_FieldDifferences_3 : List CO := [⟨none, (some 14), (.faddr 0 (.t 2))⟩, ⟨none, (some 15), (.ld false 1 (.t 14))⟩, ⟨none, (some 16), (.faddr 0 (.t 3))⟩, ⟨none, (some 17), (.ld false 1 (.t 16))⟩, ⟨none, (some 18), (.bin .neq .none (.t 15) (.t 17))⟩, ⟨none, (some 19), (.call n_i_number [(.t 18)])⟩, ⟨none, (some 20), (.faddr 1 (.t 2))⟩, ⟨none, (some 21), (.ld false 1 (.t 20))⟩, ⟨none, (some 22), (.faddr 1 (.t 3))⟩, ⟨none, (some 23), (.ld false 1 (.t 22))⟩, ⟨none, (some 24), (.bin .neq .none (.t 21) (.t 23))⟩, ⟨none, (some 25), (.call n_i_number [(.t 24)])⟩, ⟨none, (some 26), (.bin .add .none (.t 19) (.t 25))⟩, ⟨none, (some 27), (.ld true 4 (.t 2))⟩, ⟨none, (some 28), (.call n_i_Field_tinctures [(.t 27)])⟩, ⟨none, (some 29), (.ld true 4 (.t 3))⟩, ⟨none, (some 30), (.call n_i_Field_tinctures [(.t 29)])⟩, ⟨none, (some 31), (.call n_slices_Equal_int_int [(.t 28), (.t 30)])⟩, ⟨none, (some 32), (.un .not (.t 31))⟩, ⟨none, (some 33), (.call n_i_number [(.t 32)])⟩, ⟨none, (some 34), (.bin .add .none (.t 26) (.t 33))⟩, ⟨none, (some 4), (.mv (.t 34))⟩, ⟨none, (some 5), (.mv (.k (.v (.bool true))))⟩]
def p_i_FieldDifferences_3 : List (List Nat) := [[], [0], [], [2], [0, 1, 2, 3], [0, 1, 2, 3, 4], [], [6], [], [8], [6, 7, 8, 9], [0, 1, 2, 3, 4, 5, 6, 7, 8, 9, 10], [0, 1, 2, 3, 4, 5, 6, 7, 8, 9, 10, 11], [], [0, 1, 2, 3, 4, 5, 6, 7, 8, 9, 10, 11, 13], [], [0, 1, 2, 3, 4, 5, 6, 7, 8, 9, 10, 11, 13, 14, 15], [0, 1, 2, 3, 4, 5, 6, 7, 8, 9, 10, 11, 13, 14, 15, 16], [0, 1, 2, 3, 4, 5, 6, 7, 8, 9, 10, 11, 13, 14, 15, 16, 17], [0, 1, 2, 3, 4, 5, 6, 7, 8, 9, 10, 11, 13, 14, 15, 16, 17, 18], [0, 1, 2, 3, 4, 5, 6, 7, 8, 9, 10, 11, 12, 13, 14, 15, 16, 17, 18, 19], [0, 1, 2, 3, 4, 5, 6, 7, 8, 9, 10, 11, 12, 13, 14, 15, 16, 17, 18, 19, 20], [0, 1, 2, 3, 4, 5, 6, 7, 8, 9, 10, 11, 12, 13, 14, 15, 16, 17, 18, 19, 20, 21]]
/-- loop.example/g00884/impl.FieldDifferences -/
def c_i_FieldDifferences : C := (.seq (.reg r_i_FieldDifferences_0 [2, 3]) (.seq (.seq (.reg r_i_FieldDifferences_1 [2, 3, 13]) (.cond (.t 13) (.seq (.reg r_i_FieldDifferences_2 [4, 5]) .ret) .skip)) (.seq (.regD r_i_FieldDifferences_3 p_i_FieldDifferences_3 [4, 5]) .ret)))
def k_i_FieldDifferences : Nat → List Nat
  | 0 => [2, 3]
  | 1 => [2, 3, 13]
  | 2 => [4, 5]
  | 3 => [4, 5]
  | _ => []
theorem fn_i_FieldDifferences : FnC Tryz.prog n_i_FieldDifferences c_i_FieldDifferences [(.tmp 4), (.tmp 5)] 35 :=
  ⟨Tryz.f186, _, k_i_FieldDifferences, Tryz.func186, rfl, by kernel_rfl, by kernel_rfl, by kernel_rfl, rfl⟩
def r_s_l3Differences_0 : List CO := [⟨none, (some 2), (.box 4 (.t 0))⟩, ⟨none, (some 3), (.box 4 (.t 1))⟩, ⟨none, (some 4), (.mv (.k (.v (.int .i64 (0)))))⟩]
def r_s_l3Differences_1 : List CO := [⟨none, (some 5), (.mv (.k (.v (.int .i64 (0)))))⟩]
def r_s_l3Differences_2 : List CO := [⟨none, (some 6), (.faddr 0 (.t 2))⟩, ⟨none, (some 7), (.ld false 1 (.t 6))⟩, ⟨none, (some 8), (.faddr 0 (.t 3))⟩, ⟨none, (some 9), (.ld false 1 (.t 8))⟩, ⟨none, (some 10), (.bin .neq .none (.t 7) (.t 9))⟩]
def r_s_l3Differences_3 : List CO := [⟨none, (some 11), (.mv (.t 5))⟩, ⟨none, (some 12), (.bin .add .none (.t 11) (.k (.v (.int .i64 (1)))))⟩, ⟨none, (some 5), (.mv (.t 12))⟩]
def r_s_l3Differences_4 : List CO := [⟨none, (some 13), (.faddr 1 (.t 2))⟩, ⟨none, (some 14), (.ld false 1 (.t 13))⟩, ⟨none, (some 15), (.faddr 1 (.t 3))⟩, ⟨none, (some 16), (.ld false 1 (.t 15))⟩, ⟨none, (some 17), (.bin .neq .none (.t 14) (.t 16))⟩]
def r_s_l3Differences_5 : List CO := [⟨none, (some 18), (.mv (.t 5))⟩, ⟨none, (some 19), (.bin .add .none (.t 18) (.k (.v (.int .i64 (1)))))⟩, ⟨none, (some 5), (.mv (.t 19))⟩]
def r_s_l3Differences_6 : List CO := [⟨none, (some 20), (.ld true 4 (.t 2))⟩, ⟨none, (some 21), (.call n_s_l3Tinctures [(.t 20)])⟩, ⟨none, (some 22), (.ld true 4 (.t 3))⟩, ⟨none, (some 23), (.call n_s_l3Tinctures [(.t 22)])⟩, ⟨none, (some 24), (.call n_s_l1Same [(.t 21), (.t 23)])⟩, ⟨none, (some 25), (.un .not (.t 24))⟩]
def p_s_l3Differences_6 : List (List Nat) := [[], [0], [], [0, 1, 2], [0, 1, 2, 3], [0, 1, 2, 3, 4]]
def r_s_l3Differences_7 : List CO := [⟨none, (some 26), (.mv (.t 5))⟩, ⟨none, (some 27), (.bin .add .none (.t 26) (.k (.v (.int .i64 (1)))))⟩, ⟨none, (some 5), (.mv (.t 27))⟩]
def r_s_l3Differences_8 : List CO := [⟨none, (some 28), (.mv (.t 5))⟩, ⟨none, (some 4), (.mv (.t 28))⟩]
/-- loop.example/g00884/spec.l3Differences -/
def c_s_l3Differences : C := (.seq (.reg r_s_l3Differences_0 [2, 3]) (.seq (.reg r_s_l3Differences_1 [2, 3, 5]) (.seq (.seq (.reg r_s_l3Differences_2 [2, 3, 5, 10]) (.cond (.t 10) (.reg r_s_l3Differences_3 [2, 3, 5]) .skip)) (.seq (.seq (.reg r_s_l3Differences_4 [2, 3, 5, 17]) (.cond (.t 17) (.reg r_s_l3Differences_5 [2, 3, 5]) .skip)) (.seq (.seq (.regD r_s_l3Differences_6 p_s_l3Differences_6 [5, 25]) (.cond (.t 25) (.reg r_s_l3Differences_7 [5]) .skip)) (.seq (.reg r_s_l3Differences_8 [4]) .ret))))))
def k_s_l3Differences : Nat → List Nat
  | 0 => [2, 3]
  | 1 => [2, 3, 5]
  | 2 => [2, 3, 5, 10]
  | 3 => [2, 3, 5]
  | 4 => [2, 3, 5, 17]
  | 5 => [2, 3, 5]
  | 6 => [5, 25]
  | 7 => [5]
  | 8 => [4]
  | _ => []
theorem fn_s_l3Differences : FnC Tryz.prog n_s_l3Differences c_s_l3Differences [(.tmp 4)] 29 :=
  ⟨Tryz.f179, _, k_s_l3Differences, Tryz.func179, rfl, by kernel_rfl, by kernel_rfl, by kernel_rfl, rfl⟩
def r_i_groupDifferences_0 : List CO := [⟨none, (some 2), (.box 4 (.t 0))⟩, ⟨none, (some 3), (.box 4 (.t 1))⟩, ⟨none, (some 4), (.mv (.k (.v (.int .i64 (0)))))⟩]
def r_i_groupDifferences_1 : List CO := [⟨none, (some 6), (.ld true 4 (.t 2))⟩, ⟨none, (some 7), (.ld true 4 (.t 3))⟩, ⟨none, (some 8), (.bin .eql (.struct [EK.int, EK.int, EK.int, EK.int]) (.t 6) (.t 7))⟩]
def r_i_groupDifferences_2 : List CO := [⟨none, (some 4), (.mv (.k (.v (.int .i64 (0)))))⟩]
def r_i_groupDifferences_3 : List CO := [⟨none, (some 9), (.ld true 4 (.t 2))⟩, ⟨none, (some 10), (.build (.agg [(.v (.int .i64 (0))), (.v (.int .i64 (0))), (.v (.int .i64 (0))), (.v (.int .i64 (0)))]) [])⟩, ⟨none, (some 11), (.bin .eql (.struct [EK.int, EK.int, EK.int, EK.int]) (.t 9) (.t 10))⟩, ⟨none, (some 12), (.mv (.t 11))⟩, ⟨(some (12, false)), (some 13), (.ld true 4 (.t 3))⟩, ⟨(some (12, false)), (some 14), (.build (.agg [(.v (.int .i64 (0))), (.v (.int .i64 (0))), (.v (.int .i64 (0))), (.v (.int .i64 (0)))]) [])⟩, ⟨(some (12, false)), (some 15), (.bin .eql (.struct [EK.int, EK.int, EK.int, EK.int]) (.t 13) (.t 14))⟩, ⟨none, (some 16), (.pick (.t 12) (.k (.v (.bool true))) (.t 15))⟩]
def r_i_groupDifferences_4 : List CO := [⟨none, (some 4), (.mv (.k (.v (.int .i64 (2)))))⟩]
def r_i_groupDifferences_5 : List CO := [⟨none, (some 17), (.faddr 0 (.t 2))⟩, ⟨none, (some 18), (.ld false 1 (.t 17))⟩, ⟨none, (some 19), (.faddr 0 (.t 3))⟩, ⟨none, (some 20), (.ld false 1 (.t 19))⟩, ⟨none, (some 21), (.bin .neq .none (.t 18) (.t 20))⟩, ⟨none, (some 22), (.call n_i_number [(.t 21)])⟩, ⟨none, (some 23), (.faddr 3 (.t 2))⟩, ⟨none, (some 24), (.ld false 1 (.t 23))⟩, ⟨none, (some 25), (.faddr 3 (.t 3))⟩, ⟨none, (some 26), (.ld false 1 (.t 25))⟩, ⟨none, (some 27), (.bin .neq .none (.t 24) (.t 26))⟩, ⟨none, (some 28), (.call n_i_number [(.t 27)])⟩, ⟨none, (some 29), (.bin .add .none (.t 22) (.t 28))⟩, ⟨none, (some 5), (.mv (.t 29))⟩]
def p_i_groupDifferences_5 : List (List Nat) := [[], [0], [], [2], [0, 1, 2, 3], [0, 1, 2, 3, 4], [], [6], [], [8], [6, 7, 8, 9], [0, 1, 2, 3, 4, 5, 6, 7, 8, 9, 10], [0, 1, 2, 3, 4, 5, 6, 7, 8, 9, 10, 11], [0, 1, 2, 3, 4, 5, 6, 7, 8, 9, 10, 11, 12]]
def r_i_groupDifferences_6 : List CO := [⟨none, (some 30), (.faddr 1 (.t 2))⟩, ⟨none, (some 31), (.ld false 1 (.t 30))⟩, ⟨none, (some 32), (.faddr 1 (.t 3))⟩, ⟨none, (some 33), (.ld false 1 (.t 32))⟩, ⟨none, (some 34), (.bin .neq .none (.t 31) (.t 33))⟩]
def r_i_groupDifferences_7 : List CO := [⟨none, (some 35), (.mv (.t 5))⟩, ⟨none, (some 36), (.bin .add .none (.t 35) (.k (.v (.int .i64 (2)))))⟩, ⟨none, (some 4), (.mv (.t 36))⟩]
def r_i_groupDifferences_8 : List CO := [⟨none, (some 37), (.mv (.t 5))⟩, ⟨none, (some 38), (.faddr 2 (.t 2))⟩, ⟨none, (some 39), (.ld false 1 (.t 38))⟩, ⟨none, (some 40), (.faddr 2 (.t 3))⟩, ⟨none, (some 41), (.ld false 1 (.t 40))⟩, ⟨none, (some 42), (.bin .neq .none (.t 39) (.t 41))⟩, ⟨none, (some 43), (.call n_i_number [(.t 42)])⟩, ⟨none, (some 44), (.bin .add .none (.t 37) (.t 43))⟩, ⟨none, (some 4), (.mv (.t 44))⟩]
/-- loop.example/g00884/impl.groupDifferences -/
def c_i_groupDifferences : C := (.seq (.reg r_i_groupDifferences_0 [2, 3]) (.seq (.seq (.reg r_i_groupDifferences_1 [2, 3, 8]) (.cond (.t 8) (.seq (.reg r_i_groupDifferences_2 [4]) .ret) .skip)) (.seq (.seq (.reg r_i_groupDifferences_3 [2, 3, 16]) (.cond (.t 16) (.seq (.reg r_i_groupDifferences_4 [4]) .ret) .skip)) (.seq (.regD r_i_groupDifferences_5 p_i_groupDifferences_5 [2, 3, 5]) (.seq (.seq (.reg r_i_groupDifferences_6 [2, 3, 5, 34]) (.cond (.t 34) (.seq (.reg r_i_groupDifferences_7 [4]) .ret) .skip)) (.seq (.reg r_i_groupDifferences_8 [4]) .ret))))))
def k_i_groupDifferences : Nat → List Nat
  | 0 => [2, 3]
  | 1 => [2, 3, 8]
  | 2 => [4]
  | 3 => [2, 3, 16]
  | 4 => [4]
  | 5 => [2, 3, 5]
  | 6 => [2, 3, 5, 34]
  | 7 => [4]
  | 8 => [4]
  | _ => []
theorem fn_i_groupDifferences : FnC Tryz.prog n_i_groupDifferences c_i_groupDifferences [(.tmp 4)] 45 :=
  ⟨Tryz.f187, _, k_i_groupDifferences, Tryz.func187, rfl, by kernel_rfl, by kernel_rfl, by kernel_rfl, rfl⟩
def r_s_l4Differences_0 : List CO := [⟨none, (some 2), (.box 4 (.t 0))⟩, ⟨none, (some 3), (.box 4 (.t 1))⟩, ⟨none, (some 4), (.mv (.k (.v (.int .i64 (0)))))⟩]
def r_s_l4Differences_1 : List CO := [⟨none, (some 6), (.ld true 4 (.t 2))⟩, ⟨none, (some 7), (.call n_s_l4None [(.t 6)])⟩, ⟨none, (some 8), (.ld true 4 (.t 3))⟩, ⟨none, (some 9), (.call n_s_l4None [(.t 8)])⟩, ⟨none, (some 10), (.bin .neq .bool (.t 7) (.t 9))⟩]
def p_s_l4Differences_1 : List (List Nat) := [[], [0], [], [0, 1, 2], [0, 1, 2, 3]]
def r_s_l4Differences_2 : List CO := [⟨none, (some 4), (.mv (.k (.v (.int .i64 (2)))))⟩]
def r_s_l4Differences_3 : List CO := [⟨none, (some 5), (.mv (.k (.v (.int .i64 (0)))))⟩]
def r_s_l4Differences_4 : List CO := [⟨none, (some 11), (.faddr 0 (.t 2))⟩, ⟨none, (some 12), (.ld false 1 (.t 11))⟩, ⟨none, (some 13), (.faddr 0 (.t 3))⟩, ⟨none, (some 14), (.ld false 1 (.t 13))⟩, ⟨none, (some 15), (.bin .neq .none (.t 12) (.t 14))⟩]
def r_s_l4Differences_5 : List CO := [⟨none, (some 16), (.mv (.t 5))⟩, ⟨none, (some 17), (.bin .add .none (.t 16) (.k (.v (.int .i64 (1)))))⟩, ⟨none, (some 5), (.mv (.t 17))⟩]
def r_s_l4Differences_6 : List CO := [⟨none, (some 18), (.faddr 1 (.t 2))⟩, ⟨none, (some 19), (.ld false 1 (.t 18))⟩, ⟨none, (some 20), (.faddr 1 (.t 3))⟩, ⟨none, (some 21), (.ld false 1 (.t 20))⟩, ⟨none, (some 22), (.bin .neq .none (.t 19) (.t 21))⟩]
def r_s_l4Differences_7 : List CO := [⟨none, (some 23), (.mv (.t 5))⟩, ⟨none, (some 24), (.bin .add .none (.t 23) (.k (.v (.int .i64 (2)))))⟩, ⟨none, (some 5), (.mv (.t 24))⟩]
def r_s_l4Differences_8 : List CO := [⟨none, (some 25), (.faddr 2 (.t 2))⟩, ⟨none, (some 26), (.ld false 1 (.t 25))⟩, ⟨none, (some 27), (.faddr 2 (.t 3))⟩, ⟨none, (some 28), (.ld false 1 (.t 27))⟩, ⟨none, (some 29), (.bin .neq .none (.t 26) (.t 28))⟩]
def r_s_l4Differences_9 : List CO := [⟨none, (some 30), (.mv (.t 5))⟩, ⟨none, (some 31), (.bin .add .none (.t 30) (.k (.v (.int .i64 (1)))))⟩, ⟨none, (some 5), (.mv (.t 31))⟩]
def r_s_l4Differences_10 : List CO := [⟨none, (some 32), (.faddr 3 (.t 2))⟩, ⟨none, (some 33), (.ld false 1 (.t 32))⟩, ⟨none, (some 34), (.faddr 3 (.t 3))⟩, ⟨none, (some 35), (.ld false 1 (.t 34))⟩, ⟨none, (some 36), (.bin .neq .none (.t 33) (.t 35))⟩]
def r_s_l4Differences_11 : List CO := [⟨none, (some 37), (.mv (.t 5))⟩, ⟨none, (some 38), (.bin .add .none (.t 37) (.k (.v (.int .i64 (1)))))⟩, ⟨none, (some 5), (.mv (.t 38))⟩]
def r_s_l4Differences_12 : List CO := [⟨none, (some 39), (.mv (.t 5))⟩, ⟨none, (some 4), (.mv (.t 39))⟩]
/-- loop.example/g00884/spec.l4Differences -/
def c_s_l4Differences : C := (.seq (.reg r_s_l4Differences_0 [2, 3]) (.seq (.seq (.regD r_s_l4Differences_1 p_s_l4Differences_1 [2, 3, 10]) (.cond (.t 10) (.seq (.reg r_s_l4Differences_2 [4]) .ret) .skip)) (.seq (.reg r_s_l4Differences_3 [2, 3, 5]) (.seq (.seq (.reg r_s_l4Differences_4 [2, 3, 5, 15]) (.cond (.t 15) (.reg r_s_l4Differences_5 [2, 3, 5]) .skip)) (.seq (.seq (.reg r_s_l4Differences_6 [2, 3, 5, 22]) (.cond (.t 22) (.reg r_s_l4Differences_7 [2, 3, 5]) (.seq (.reg r_s_l4Differences_8 [2, 3, 5, 29]) (.cond (.t 29) (.reg r_s_l4Differences_9 [2, 3, 5]) .skip)))) (.seq (.seq (.reg r_s_l4Differences_10 [5, 36]) (.cond (.t 36) (.reg r_s_l4Differences_11 [5]) .skip)) (.seq (.reg r_s_l4Differences_12 [4]) .ret)))))))
def k_s_l4Differences : Nat → List Nat
  | 0 => [2, 3]
  | 1 => [2, 3, 10]
  | 2 => [4]
  | 3 => [2, 3, 5]
  | 4 => [2, 3, 5, 15]
  | 5 => [2, 3, 5]
  | 6 => [2, 3, 5, 22]
  | 7 => [2, 3, 5]
  | 8 => [2, 3, 5, 29]
  | 9 => [2, 3, 5]
  | 10 => [5, 36]
  | 11 => [5]
  | 12 => [4]
  | _ => []
theorem fn_s_l4Differences : FnC Tryz.prog n_s_l4Differences c_s_l4Differences [(.tmp 4)] 40 :=
  ⟨Tryz.f180, _, k_s_l4Differences, Tryz.func180, rfl, by kernel_rfl, by kernel_rfl, by kernel_rfl, rfl⟩
def r_i_differences_0 : List CO := [⟨none, (some 2), (.box 15 (.t 0))⟩, ⟨none, (some 3), (.box 15 (.t 1))⟩, ⟨none, (some 4), (.mv (.k (.v (.int .i64 (0)))))⟩]
def r_i_differences_1 : List CO := [⟨none, (some 8), (.faddr 0 (.t 2))⟩, ⟨none, (some 9), (.ld true 4 (.t 8))⟩, ⟨none, (some 10), (.faddr 0 (.t 3))⟩, ⟨none, (some 11), (.ld true 4 (.t 10))⟩, ⟨none, (some 12), (.call n_i_FieldDifferences [(.t 9), (.t 11)])⟩, ⟨none, (some 7), (.mv (.t 12))⟩, ⟨none, (some 13), (.ext (.t 7) 0)⟩, ⟨none, (some 14), (.ext (.t 7) 1)⟩, ⟨none, (some 5), (.mv (.t 13))⟩, ⟨none, (some 6), (.mv (.t 14))⟩]
def r_i_differences_2 : List CO := [⟨none, (some 15), (.mv (.t 5))⟩, ⟨none, (some 16), (.faddr 7 (.t 2))⟩, ⟨none, (some 17), (.ld true 4 (.t 16))⟩, ⟨none, (some 18), (.faddr 7 (.t 3))⟩, ⟨none, (some 19), (.ld true 4 (.t 18))⟩, ⟨none, (some 20), (.call n_i_groupDifferences [(.t 17), (.t 19)])⟩, ⟨none, (some 21), (.faddr 11 (.t 2))⟩, ⟨none, (some 22), (.ld true 4 (.t 21))⟩, ⟨none, (some 23), (.faddr 11 (.t 3))⟩, ⟨none, (some 24), (.ld true 4 (.t 23))⟩, ⟨none, (some 25), (.call n_i_groupDifferences [(.t 22), (.t 24)])⟩, ⟨none, (some 26), (.bin .add .none (.t 20) (.t 25))⟩, ⟨none, (some 27), (.bin .add .none (.t 15) (.t 26))⟩, ⟨none, (some 5), (.mv (.t 27))⟩]
def p_i_differences_2 : List (List Nat) := [[], [], [1], [], [3], [1, 2, 3, 4], [], [6], [], [8], [1, 2, 3, 4, 5, 6, 7, 8, 9], [1, 2, 3, 4, 5, 6, 7, 8, 9, 10], [0, 1, 2, 3, 4, 5, 6, 7, 8, 9, 10, 11], [0, 1, 2, 3, 4, 5, 6, 7, 8, 9, 10, 11, 12]]
def r_i_differences_3 : List CO := [⟨none, (some 28), (.faddr 4 (.t 2))⟩, ⟨none, (some 29), (.ld false 1 (.t 28))⟩, ⟨none, (some 30), (.faddr 4 (.t 3))⟩, ⟨none, (some 31), (.ld false 1 (.t 30))⟩, ⟨none, (some 32), (.bin .neq .none (.t 29) (.t 31))⟩]
def r_i_differences_4 : List CO := [⟨none, (some 33), (.mv (.t 5))⟩, ⟨none, (some 34), (.bin .add .none (.t 33) (.k (.v (.int .i64 (2)))))⟩, ⟨none, (some 4), (.mv (.t 34))⟩]
def r_i_differences_5 : List CO := [⟨none, (some 35), (.mv (.t 5))⟩, ⟨none, (some 36), (.faddr 5 (.t 2))⟩, ⟨none, (some 37), (.ld false 1 (.t 36))⟩, ⟨none, (some 38), (.faddr 5 (.t 3))⟩, ⟨none, (some 39), (.ld false 1 (.t 38))⟩, ⟨none, (some 40), (.bin .neq .none (.t 37) (.t 39))⟩, ⟨none, (some 41), (.call n_i_number [(.t 40)])⟩, ⟨none, (some 42), (.bin .add .none (.t 35) (.t 41))⟩, ⟨none, (some 43), (.faddr 6 (.t 2))⟩, ⟨none, (some 44), (.ld false 1 (.t 43))⟩, ⟨none, (some 45), (.faddr 6 (.t 3))⟩, ⟨none, (some 46), (.ld false 1 (.t 45))⟩, ⟨none, (some 47), (.bin .neq .none (.t 44) (.t 46))⟩, ⟨none, (some 48), (.call n_i_number [(.t 47)])⟩, ⟨none, (some 49), (.bin .add .none (.t 42) (.t 48))⟩, ⟨none, (some 4), (.mv (.t 49))⟩]
def p_i_differences_5 : List (List Nat) := [[], [], [1], [], [3], [1, 2, 3, 4], [1, 2, 3, 4, 5], [0, 1, 2, 3, 4, 5, 6], [], [8], [], [10], [8, 9, 10, 11], [1, 2, 3, 4, 5, 6, 8, 9, 10, 11, 12], [0, 1, 2, 3, 4, 5, 6, 7, 8, 9, 10, 11, 12, 13], [0, 1, 2, 3, 4, 5, 6, 7, 8, 9, 10, 11, 12, 13, 14]]
/-- loop.example/g00884/impl.differences -/
def c_i_differences : C := (.seq (.reg r_i_differences_0 [2, 3]) (.seq (.reg r_i_differences_1 [2, 3, 5]) (.seq (.regD r_i_differences_2 p_i_differences_2 [2, 3, 5]) (.seq (.seq (.reg r_i_differences_3 [2, 3, 5, 32]) (.cond (.t 32) (.seq (.reg r_i_differences_4 [4]) .ret) .skip)) (.seq (.regD r_i_differences_5 p_i_differences_5 [4]) .ret)))))
def k_i_differences : Nat → List Nat
  | 0 => [2, 3]
  | 1 => [2, 3, 5]
  | 2 => [2, 3, 5]
  | 3 => [2, 3, 5, 32]
  | 4 => [4]
  | 5 => [4]
  | _ => []
theorem fn_i_differences : FnC Tryz.prog n_i_differences c_i_differences [(.tmp 4)] 50 :=
  ⟨Tryz.f144, _, k_i_differences, Tryz.func144, rfl, by kernel_rfl, by kernel_rfl, by kernel_rfl, rfl⟩
def r_i_conflict_0 : List CO := [⟨none, (some 2), (.box 15 (.t 0))⟩, ⟨none, (some 3), (.box 15 (.t 1))⟩, ⟨none, (some 4), (.mv (.k (.v (.bool false))))⟩]
def r_i_conflict_1 : List CO := [⟨none, (some 5), (.ld true 15 (.t 2))⟩, ⟨none, (some 6), (.ld true 15 (.t 3))⟩, ⟨none, (some 7), (.call n_i_differences [(.t 5), (.t 6)])⟩, ⟨none, (some 8), (.bin .lss .none (.t 7) (.k (.v (.int .i64 (2)))))⟩, ⟨none, (some 4), (.mv (.t 8))⟩]
/-- loop.example/g00884/impl.conflict -/
def c_i_conflict : C := (.seq (.reg r_i_conflict_0 [2, 3]) (.seq (.reg r_i_conflict_1 [4]) .ret))
def k_i_conflict : Nat → List Nat
  | 0 => [2, 3]
  | 1 => [4]
  | _ => []
theorem fn_i_conflict : FnC Tryz.prog n_i_conflict c_i_conflict [(.tmp 4)] 9 :=
  ⟨Tryz.f100, _, k_i_conflict, Tryz.func100, rfl, by kernel_rfl, by kernel_rfl, by kernel_rfl, rfl⟩
def r_s_l15Count_0 : List CO := [⟨none, (some 2), (.box 15 (.t 0))⟩, ⟨none, (some 3), (.box 15 (.t 1))⟩, ⟨none, (some 4), (.mv (.k (.v (.int .i64 (0)))))⟩]
def r_s_l15Count_1 : List CO := [⟨none, (some 6), (.faddr 0 (.t 2))⟩, ⟨none, (some 7), (.ld true 4 (.t 6))⟩, ⟨none, (some 8), (.faddr 0 (.t 3))⟩, ⟨none, (some 9), (.ld true 4 (.t 8))⟩, ⟨none, (some 10), (.call n_s_l3Differences [(.t 7), (.t 9)])⟩, ⟨none, (some 11), (.faddr 7 (.t 2))⟩, ⟨none, (some 12), (.ld true 4 (.t 11))⟩, ⟨none, (some 13), (.faddr 7 (.t 3))⟩, ⟨none, (some 14), (.ld true 4 (.t 13))⟩, ⟨none, (some 15), (.call n_s_l4Differences [(.t 12), (.t 14)])⟩, ⟨none, (some 16), (.bin .add .none (.t 10) (.t 15))⟩, ⟨none, (some 17), (.faddr 11 (.t 2))⟩, ⟨none, (some 18), (.ld true 4 (.t 17))⟩, ⟨none, (some 19), (.faddr 11 (.t 3))⟩, ⟨none, (some 20), (.ld true 4 (.t 19))⟩, ⟨none, (some 21), (.call n_s_l4Differences [(.t 18), (.t 20)])⟩, ⟨none, (some 22), (.bin .add .none (.t 16) (.t 21))⟩, ⟨none, (some 5), (.mv (.t 22))⟩]
def p_s_l15Count_1 : List (List Nat) := [[], [0], [], [2], [0, 1, 2, 3], [], [5], [], [7], [0, 1, 2, 3, 4, 5, 6, 7, 8], [0, 1, 2, 3, 4, 5, 6, 7, 8, 9], [], [11], [], [13], [0, 1, 2, 3, 4, 5, 6, 7, 8, 9, 11, 12, 13, 14], [0, 1, 2, 3, 4, 5, 6, 7, 8, 9, 10, 11, 12, 13, 14, 15], [0, 1, 2, 3, 4, 5, 6, 7, 8, 9, 10, 11, 12, 13, 14, 15, 16]]
def r_s_l15Count_2 : List CO := [⟨none, (some 23), (.faddr 4 (.t 2))⟩, ⟨none, (some 24), (.ld false 1 (.t 23))⟩, ⟨none, (some 25), (.faddr 4 (.t 3))⟩, ⟨none, (some 26), (.ld false 1 (.t 25))⟩, ⟨none, (some 27), (.bin .neq .none (.t 24) (.t 26))⟩]
def r_s_l15Count_3 : List CO := [⟨none, (some 28), (.mv (.t 5))⟩, ⟨none, (some 29), (.bin .add .none (.t 28) (.k (.v (.int .i64 (2)))))⟩, ⟨none, (some 4), (.mv (.t 29))⟩]
def r_s_l15Count_4 : List CO := [⟨none, (some 30), (.faddr 5 (.t 2))⟩, ⟨none, (some 31), (.ld false 1 (.t 30))⟩, ⟨none, (some 32), (.faddr 5 (.t 3))⟩, ⟨none, (some 33), (.ld false 1 (.t 32))⟩, ⟨none, (some 34), (.bin .neq .none (.t 31) (.t 33))⟩]
def r_s_l15Count_5 : List CO := [⟨none, (some 35), (.mv (.t 5))⟩, ⟨none, (some 36), (.bin .add .none (.t 35) (.k (.v (.int .i64 (1)))))⟩, ⟨none, (some 5), (.mv (.t 36))⟩]
def r_s_l15Count_6 : List CO := [⟨none, (some 37), (.faddr 6 (.t 2))⟩, ⟨none, (some 38), (.ld false 1 (.t 37))⟩, ⟨none, (some 39), (.faddr 6 (.t 3))⟩, ⟨none, (some 40), (.ld false 1 (.t 39))⟩, ⟨none, (some 41), (.bin .neq .none (.t 38) (.t 40))⟩]
def r_s_l15Count_7 : List CO := [⟨none, (some 42), (.mv (.t 5))⟩, ⟨none, (some 43), (.bin .add .none (.t 42) (.k (.v (.int .i64 (1)))))⟩, ⟨none, (some 5), (.mv (.t 43))⟩]
def r_s_l15Count_8 : List CO := [⟨none, (some 44), (.mv (.t 5))⟩, ⟨none, (some 4), (.mv (.t 44))⟩]
/-- loop.example/g00884/spec.l15Count -/
def c_s_l15Count : C := (.seq (.reg r_s_l15Count_0 [2, 3]) (.seq (.regD r_s_l15Count_1 p_s_l15Count_1 [2, 3, 5]) (.seq (.seq (.reg r_s_l15Count_2 [2, 3, 5, 27]) (.cond (.t 27) (.seq (.reg r_s_l15Count_3 [4]) .ret) .skip)) (.seq (.seq (.reg r_s_l15Count_4 [2, 3, 5, 34]) (.cond (.t 34) (.reg r_s_l15Count_5 [2, 3, 5]) .skip)) (.seq (.seq (.reg r_s_l15Count_6 [5, 41]) (.cond (.t 41) (.reg r_s_l15Count_7 [5]) .skip)) (.seq (.reg r_s_l15Count_8 [4]) .ret))))))
def k_s_l15Count : Nat → List Nat
  | 0 => [2, 3]
  | 1 => [2, 3, 5]
  | 2 => [2, 3, 5, 27]
  | 3 => [4]
  | 4 => [2, 3, 5, 34]
  | 5 => [2, 3, 5]
  | 6 => [5, 41]
  | 7 => [5]
  | 8 => [4]
  | _ => []
theorem fn_s_l15Count : FnC Tryz.prog n_s_l15Count c_s_l15Count [(.tmp 4)] 45 :=
  ⟨Tryz.f133, _, k_s_l15Count, Tryz.func133, rfl, by kernel_rfl, by kernel_rfl, by kernel_rfl, rfl⟩
def r_s_l15Conflict_0 : List CO := [⟨none, (some 2), (.box 15 (.t 0))⟩, ⟨none, (some 3), (.box 15 (.t 1))⟩, ⟨none, (some 4), (.mv (.k (.v (.bool false))))⟩]
def r_s_l15Conflict_1 : List CO := [⟨none, (some 5), (.ld true 15 (.t 2))⟩, ⟨none, (some 6), (.ld true 15 (.t 3))⟩, ⟨none, (some 7), (.call n_s_l15Count [(.t 5), (.t 6)])⟩, ⟨none, (some 8), (.bin .lss .none (.t 7) (.k (.v (.int .i64 (2)))))⟩, ⟨none, (some 4), (.mv (.t 8))⟩]
/-- loop.example/g00884/spec.l15Conflict -/
def c_s_l15Conflict : C := (.seq (.reg r_s_l15Conflict_0 [2, 3]) (.seq (.reg r_s_l15Conflict_1 [4]) .ret))
def k_s_l15Conflict : Nat → List Nat
  | 0 => [2, 3]
  | 1 => [4]
  | _ => []
theorem fn_s_l15Conflict : FnC Tryz.prog n_s_l15Conflict c_s_l15Conflict [(.tmp 4)] 9 :=
  ⟨Tryz.f91, _, k_s_l15Conflict, Tryz.func91, rfl, by kernel_rfl, by kernel_rfl, by kernel_rfl, rfl⟩
end Go.Proofs.YtbeoijlggphklaaGreatDoor

/- Differences between arms, in the program and in the reference. -/
set_option linter.unusedVariables false
set_option linter.unusedSimpArgs false
namespace Go.Proofs.YtbeoijlggphklaaGreatDoor
open Go.Abs

def tincts (f : Field) : List Int := if f.division = 0 then [f.first] else [f.first, f.second]
def fieldDiff (a b : Field) : Int := bit (a.division != b.division) + bit (a.line != b.line) + bit (!decide (tincts a = tincts b))
/-- The same group. -/
def geq (a b : Group) : Bool := a.count == b.count && (a.kind == b.kind && (a.attitude == b.attitude && a.tincture == b.tincture))
def groupDiff (a b : Group) : Int := if geq a b then 0 else if g0 a || g0 b then 2 else bit (a.count != b.count) + bit (a.tincture != b.tincture) + (if a.kind = b.kind then bit (a.attitude != b.attitude) else 2)
def diffs (a b : Arms) : Int := fieldDiff a.field b.field + (groupDiff a.on b.on + groupDiff a.around b.around) + (if a.ordinary = b.ordinary then bit (a.line != b.line) + bit (a.tincture != b.tincture) else 2)
theorem bit_bounds (b : Bool) : 0 ≤ bit b ∧ bit b ≤ 1 := by unfold bit; split <;> omega
theorem fieldDiff_bounds (a b : Field) : 0 ≤ fieldDiff a b ∧ fieldDiff a b ≤ 3 := by
  unfold fieldDiff
  have h1 := bit_bounds (a.division != b.division)
  have h2 := bit_bounds (a.line != b.line)
  have h3 := bit_bounds (!decide (tincts a = tincts b))
  omega
theorem groupDiff_bounds (a b : Group) : 0 ≤ groupDiff a b ∧ groupDiff a b ≤ 4 := by
  unfold groupDiff
  have h1 := bit_bounds (a.count != b.count)
  have h2 := bit_bounds (a.tincture != b.tincture)
  have h3 := bit_bounds (a.attitude != b.attitude)
  split
  · omega
  · split
    · omega
    · split <;> omega
theorem i_Field_tinctures (f : Field) : PCall Tryz.prog n_i_Field_tinctures [eField f] (.own 1 ((tincts f).map I)) := by
  refine PCall.of fn_i_Field_tinctures (by simp) ?_
  by_cases h : f.division = 0
  · simp [c_i_Field_tinctures, r_i_Field_tinctures_0, r_i_Field_tinctures_1, r_i_Field_tinctures_2, r_i_Field_tinctures_3, h, tincts]
  · simp [c_i_Field_tinctures, r_i_Field_tinctures_0, r_i_Field_tinctures_1, r_i_Field_tinctures_2, r_i_Field_tinctures_3, h, tincts]
theorem s_l3Tinctures (f : Field) : PCall Tryz.prog n_s_l3Tinctures [eField f] (.own 1 ((tincts f).map I)) := by
  refine PCall.of fn_s_l3Tinctures (by simp) ?_
  by_cases h : f.division = 0
  · simp [c_s_l3Tinctures, r_s_l3Tinctures_0, r_s_l3Tinctures_1, r_s_l3Tinctures_2, r_s_l3Tinctures_3, h, tincts]
  · simp [c_s_l3Tinctures, r_s_l3Tinctures_0, r_s_l3Tinctures_1, r_s_l3Tinctures_2, r_s_l3Tinctures_3, h, tincts]
theorem s_l1Same (a b : List Int) : PCall Tryz.prog n_s_l1Same [.ro 1 (a.map I), .ro 1 (b.map I)] (B (decide (a = b))) := by
  refine PCall.ofL fn_s_l1Same (by simp) fun hl => ?_
  simp at hl
  by_cases hl : a.length = b.length
  · simp [c_s_l1Same, r_s_l1Same_0, r_s_l1Same_1, r_s_l1Same_2, r_s_l1Same_3, r_s_l1Same_9, hl]
    refine loopK (fun i : Nat => ⟨[(0, .ro 1 (a.map I)), (1, .ro 1 (b.map I)), (5, I i)], [], []⟩) (fun i => a.length - i) (fun i => i ≤ a.length ∧ a.take i = b.take i) 0 (Wk.list rfl (by simp) (by simp)) (by simp) ?_
    rintro i ⟨hi, hj⟩ K hN hR hE
    simp [r_s_l1Same_4, l_s_l1Same_8]
    refine ⟨fun hlt => ?_, fun hge => ?_⟩
    · have hlb : i < b.length := by omega
      simp [r_s_l1Same_5, p_s_l1Same_5, hlt, hlb]
      refine ⟨oEnd_of (by first | kernel_rfl | simp) (by first | kernel_rfl | simp), fun hne => ?_, fun he => ?_⟩
      · simp [r_s_l1Same_6]
        refine hR _ ?_
        simp
        rintro rfl
        exact hne rfl
      · simp [r_s_l1Same_7]
        rw [wrap64 (by omega) (by omega)]
        refine hN (i + 1) _ (by omega) ⟨by omega, ?_⟩ (Wk.list rfl (by simp) (by simp))
        rw [take_succ' hlt, take_succ' hlb, hj, he]
    · refine hE _ _ ?_
      rw [List.take_of_length_le (by omega), List.take_of_length_le (by omega)] at hj
      simp [hj]
  · simp [c_s_l1Same, r_s_l1Same_0, r_s_l1Same_1, r_s_l1Same_2, hl]
    refine ⟨fun _ e => hl (by rw [e]), fun e => absurd (by omega) hl⟩
theorem slices_Equal_int_int (a b : List Int) : PCall Tryz.prog n_slices_Equal_int_int [.ro 1 (a.map I), .ro 1 (b.map I)] (B (decide (a = b))) := by
  refine PCall.ofL fn_slices_Equal_int_int (by simp) fun hl => ?_
  simp at hl
  by_cases hl : a.length = b.length
  · simp [c_slices_Equal_int_int, r_slices_Equal_int_int_0, r_slices_Equal_int_int_1, r_slices_Equal_int_int_2, r_slices_Equal_int_int_3, r_slices_Equal_int_int_10, hl]
    refine loopK (fun i : Nat => ⟨[(0, .ro 1 (a.map I)), (1, .ro 1 (b.map I)), (12, I b.length), (13, I i)], [], []⟩) (fun i => a.length - i) (fun i => i ≤ a.length ∧ a.take i = b.take i) 0 (Wk.list rfl (by simp) (by simp)) (by simp) ?_
    rintro i ⟨hi, hj⟩ K hN hR hE
    simp [r_slices_Equal_int_int_4, l_slices_Equal_int_int_9]
    refine ⟨fun hlt => ?_, fun hge => ?_⟩
    · have hla : i < a.length := by omega
      simp [r_slices_Equal_int_int_5, r_slices_Equal_int_int_6, p_slices_Equal_int_int_6, hlt, hla]
      refine ⟨oEnd_of (by first | kernel_rfl | simp) (by first | kernel_rfl | simp), fun hne => ?_, fun he => ?_⟩
      · simp [r_slices_Equal_int_int_7]
        refine hR _ ?_
        simp
        rintro rfl
        exact hne rfl
      · simp [r_slices_Equal_int_int_8]
        rw [wrap64 (by omega) (by omega)]
        refine hN (i + 1) _ (by omega) ⟨by omega, ?_⟩ (Wk.list rfl (by simp) (by simp))
        rw [take_succ' hla, take_succ' hlt, hj, he]
    · refine hE _ _ ?_
      rw [List.take_of_length_le (by omega), List.take_of_length_le (by omega)] at hj
      simp [hj]
  · simp [c_slices_Equal_int_int, r_slices_Equal_int_int_0, r_slices_Equal_int_int_1, r_slices_Equal_int_int_2, hl]
    refine ⟨fun _ e => hl (by rw [e]), fun e => absurd (by omega) hl⟩

theorem i_FieldDifferences (a b : Field) (ha : fieldOk a = true) (hb : fieldOk b = true) : PCall Tryz.prog n_i_FieldDifferences [eField a, eField b] (.tup [I (fieldDiff a b), B true]) := by
  have h1 := bit_bounds (a.division != b.division)
  have h2 := bit_bounds (a.line != b.line)
  have h3 := bit_bounds (!decide (tincts a = tincts b))
  refine PCall.of fn_i_FieldDifferences (by simp) ?_
  simp [c_i_FieldDifferences, r_i_FieldDifferences_0, r_i_FieldDifferences_1]
  refine callQ_v (PCall.arg (i_IsValidField a) (by simp)) ?_
  simp [ha]
  refine callQ_v (PCall.arg (i_IsValidField b) (by simp)) ?_
  simp [hb]
  simp [r_i_FieldDifferences_3, p_i_FieldDifferences_3]
  refine callD_v (i_number (a.division != b.division)) ?_ ?_ ?_
  · simp
  · simp
  simp
  refine callD_v (i_number (a.line != b.line)) ?_ ?_ ?_
  · simp
  · simp
  simp
  refine callD_of (PCall.arg (i_Field_tinctures a) (by simp)) rfl (.inl (by simp)) ?_ ?_ ?_
  · simp
  · simp
  simp
  refine callD_of (PCall.arg (i_Field_tinctures b) (by simp)) rfl (.inl (by simp)) ?_ ?_ ?_
  · simp
  · simp
  simp
  refine callD_v (PCall.arg (slices_Equal_int_int (tincts a) (tincts b)) (by simp [List.take_of_length_le])) ?_ ?_ ?_
  · simp
  · simp
  simp
  refine callD_v (i_number (!decide (tincts a = tincts b))) ?_ ?_ ?_
  · simp
  · simp
  simp
  rw [wrap64 (n := bit (a.division != b.division) + bit (a.line != b.line)) (by omega) (by omega), wrap64 (by omega) (by omega)]
  exact ⟨oEnd_of (by simp [p_i_FieldDifferences_3]) (by simp), rfl⟩
theorem s_l3Differences (a b : Field) : PCall Tryz.prog n_s_l3Differences [eField a, eField b] (I (fieldDiff a b)) := by
  refine PCall.of fn_s_l3Differences (by simp) ?_
  unfold fieldDiff
  by_cases h1 : a.division = b.division <;> by_cases h2 : a.line = b.line
  all_goals
    simp [c_s_l3Differences, r_s_l3Differences_0, r_s_l3Differences_1, r_s_l3Differences_2, h1]
    simp [r_s_l3Differences_3, r_s_l3Differences_4, h1, h2]
    simp [r_s_l3Differences_5, r_s_l3Differences_6, p_s_l3Differences_6, h1, h2]
    try rw [show IntKind.i64.wrap 1 = 1 from rfl]
    try rw [show IntKind.i64.wrap (1 + 1) = 2 from rfl]
    refine callD_of (PCall.arg (s_l3Tinctures a) (by simp)) rfl (.inl (by simp)) ?_ ?_ ?_
    · simp
    · simp
    simp
    refine callD_of (PCall.arg (s_l3Tinctures b) (by simp)) rfl (.inl (by simp)) ?_ ?_ ?_
    · simp
    · simp
    simp
    refine callD_v (PCall.arg (s_l1Same (tincts a) (tincts b)) (by simp [List.take_of_length_le])) ?_ ?_ ?_
    · simp
    · simp
    simp
    refine ⟨oEnd_of (by simp [p_s_l3Differences_6]) (by simp), ?_⟩
    by_cases h3 : tincts a = tincts b
    · simp [r_s_l3Differences_8, h1, h2, h3, bit]
    · simp [r_s_l3Differences_7, h3]
      rw [wrap64 (by omega) (by omega)]
      simp [r_s_l3Differences_8, h1, h2, h3, bit]

theorem geq_iff {a b : Group} : geq a b = true ↔ a = b := by
  cases a; cases b; simp [geq]
theorem i_groupDifferences (a b : Group) : PCall Tryz.prog n_i_groupDifferences [eGroup a, eGroup b] (I (groupDiff a b)) := by
  have h1 := bit_bounds (a.count != b.count)
  have h2 := bit_bounds (a.tincture != b.tincture)
  have h3 := bit_bounds (a.attitude != b.attitude)
  refine PCall.of fn_i_groupDifferences (by simp) ?_
  unfold groupDiff
  cases h : geq a b with
  | true =>
    have e := geq_iff.1 h
    subst e
    simp [c_i_groupDifferences, r_i_groupDifferences_0, r_i_groupDifferences_1, r_i_groupDifferences_2]
  | false =>
  have e : (a.count == b.count && (a.kind == b.kind && (a.attitude == b.attitude && a.tincture == b.tincture))) = false := h
  simp [c_i_groupDifferences, r_i_groupDifferences_0, r_i_groupDifferences_1, e]
  have z : ∀ g : Group, g0 g = true → g.count = 0 ∧ g.kind = 0 ∧ g.attitude = 0 ∧ g.tincture = 0 := fun g hg => by
    simpa [g0] using hg
  cases hA : g0 a with
  | true =>
    obtain ⟨e1, e2, e3, e4⟩ := z a hA
    simp [r_i_groupDifferences_3, r_i_groupDifferences_4, e1, e2, e3, e4]
  | false =>
  have eA : (a.count == 0 && (a.kind == 0 && (a.attitude == 0 && a.tincture == 0))) = false := hA
  cases hB : g0 b with
  | true =>
    obtain ⟨e1, e2, e3, e4⟩ := z b hB
    simp [r_i_groupDifferences_3, r_i_groupDifferences_4, e1, e2, e3, e4, eA]
  | false =>
  have eB : (b.count == 0 && (b.kind == 0 && (b.attitude == 0 && b.tincture == 0))) = false := hB
  simp [r_i_groupDifferences_3, eA, eB]
  simp [r_i_groupDifferences_5, p_i_groupDifferences_5]
  refine callD_v (i_number (a.count != b.count)) ?_ ?_ ?_
  · simp
  · simp
  simp
  refine callD_v (i_number (a.tincture != b.tincture)) ?_ ?_ ?_
  · simp
  · simp
  simp
  rw [wrap64 (by omega) (by omega)]
  refine ⟨oEnd_of (by simp [p_i_groupDifferences_5]) (by simp), ?_⟩
  simp [r_i_groupDifferences_6]
  by_cases hk : a.kind = b.kind
  · rw [if_pos hk]
    simp [r_i_groupDifferences_8, hk]
    refine callQ_v (i_number (a.attitude != b.attitude)) ?_
    simp
    exact wrap64 (by omega) (by omega)
  · rw [if_neg hk]
    simp [r_i_groupDifferences_7, hk]
    exact wrap64 (by omega) (by omega)
theorem s_l4Differences (a b : Group) : PCall Tryz.prog n_s_l4Differences [eGroup a, eGroup b] (I (groupDiff a b)) := by
  have z : ∀ g : Group, g0 g = true → g.count = 0 ∧ g.kind = 0 ∧ g.attitude = 0 ∧ g.tincture = 0 := fun g hg => by
    simpa [g0] using hg
  refine PCall.of fn_s_l4Differences (by simp) ?_
  simp [c_s_l4Differences, r_s_l4Differences_0, r_s_l4Differences_1, p_s_l4Differences_1]
  refine callD_v (PCall.arg (s_l4None a) (by simp)) ?_ ?_ ?_
  · simp
  · simp
  simp
  refine callD_v (PCall.arg (s_l4None b) (by simp)) ?_ ?_ ?_
  · simp
  · simp
  simp
  refine ⟨oEnd_of (by simp [p_s_l4Differences_1]) (by simp), fun hne => ?_, fun he => ?_⟩
  · have h1 : geq a b = false := by
      cases h : geq a b with
      | false => rfl
      | true => exact absurd (by rw [geq_iff.1 h]) hne
    have h2 : (g0 a || g0 b) = true := by cases hA : g0 a <;> cases hB : g0 b <;> simp_all
    simp [r_s_l4Differences_2, groupDiff, h1, h2]
  simp [r_s_l4Differences_3]
  have goal : groupDiff a b = bit (a.count != b.count) + (if a.kind = b.kind then bit (a.attitude != b.attitude) else 2) + bit (a.tincture != b.tincture) := by
    unfold groupDiff
    cases h : geq a b with
    | true =>
      have := geq_iff.1 h
      subst this
      simp [bit]
    | false =>
      cases hA : g0 a with
      | true =>
        rw [hA] at he
        obtain ⟨e1, e2, e3, e4⟩ := z a hA
        obtain ⟨f1, f2, f3, f4⟩ := z b he.symm
        exact absurd (show geq a b = true by simp [geq, e1, e2, e3, e4, f1, f2, f3, f4]) (by rw [h]; simp)
      | false =>
        rw [hA] at he
        simp [← he]
        omega
  obtain ⟨r, hr⟩ : ∃ r, groupDiff a b = r := ⟨_, rfl⟩
  rw [hr]
  by_cases h1 : a.count = b.count <;> by_cases h2 : a.kind = b.kind <;> by_cases h3 : a.attitude = b.attitude <;> by_cases h4 : a.tincture = b.tincture
  all_goals
    simp [r_s_l4Differences_4, r_s_l4Differences_5, r_s_l4Differences_6, r_s_l4Differences_7, r_s_l4Differences_8, r_s_l4Differences_9, h1, h2, h3]
    simp [r_s_l4Differences_10, r_s_l4Differences_11, r_s_l4Differences_12, h4]
    rw [← hr, goal]
    simp only [h1, h2, h3, h4, bit, if_true, if_false, bne_self_eq_false, bne_iff_ne, ne_eq, not_true, not_false_eq_true, Bool.false_eq_true]
    first | rfl | decide

theorem i_differences (a b : Arms) (ha : fieldOk a.field = true) (hb : fieldOk b.field = true) : PCall Tryz.prog n_i_differences [eArms a, eArms b] (I (diffs a b)) := by
  have h1 := fieldDiff_bounds a.field b.field
  have h2 := groupDiff_bounds a.on b.on
  have h3 := groupDiff_bounds a.around b.around
  have h4 := bit_bounds (a.line != b.line)
  have h5 := bit_bounds (a.tincture != b.tincture)
  refine PCall.of fn_i_differences (by simp) ?_
  unfold diffs
  simp [c_i_differences, r_i_differences_0, r_i_differences_1]
  refine callQ_of (PCall.arg (i_FieldDifferences a.field b.field ha hb) (by simp)) rfl (.inl (by simp)) (by simp) ?_
  simp [r_i_differences_2, p_i_differences_2]
  refine callD_v (PCall.arg (i_groupDifferences a.on b.on) (by simp)) ?_ ?_ ?_
  · simp
  · simp
  simp
  refine callD_v (PCall.arg (i_groupDifferences a.around b.around) (by simp)) ?_ ?_ ?_
  · simp
  · simp
  simp
  rw [wrap64 (n := groupDiff a.on b.on + groupDiff a.around b.around) (by omega) (by omega), wrap64 (by omega) (by omega)]
  refine ⟨oEnd_of (by simp [p_i_differences_2]) (by simp), ?_⟩
  by_cases ho : a.ordinary = b.ordinary
  · simp [r_i_differences_3, r_i_differences_5, p_i_differences_5, ho]
    refine callD_v (i_number (a.line != b.line)) ?_ ?_ ?_
    · simp
    · simp
    simp
    refine callD_v (i_number (a.tincture != b.tincture)) ?_ ?_ ?_
    · simp
    · simp
    simp
    rw [wrap64 (n := _ + bit (a.line != b.line)) (by omega) (by omega), wrap64 (by omega) (by omega)]
    refine ⟨oEnd_of (by simp [p_i_differences_5]) (by simp), ?_⟩
    omega
  · simp [r_i_differences_3, r_i_differences_4, ho]
    exact wrap64 (by omega) (by omega)
theorem i_conflict (a b : Arms) (ha : fieldOk a.field = true) (hb : fieldOk b.field = true) : PCall Tryz.prog n_i_conflict [eArms a, eArms b] (B (decide (diffs a b < 2))) := by
  refine PCall.of fn_i_conflict (by simp) ?_
  simp [c_i_conflict, r_i_conflict_0, r_i_conflict_1]
  refine callQ_v (PCall.arg (i_differences a b ha hb) (by simp)) ?_
  simp
theorem s_l15Count (a b : Arms) : PCall Tryz.prog n_s_l15Count [eArms a, eArms b] (I (diffs a b)) := by
  have h1 := fieldDiff_bounds a.field b.field
  have h2 := groupDiff_bounds a.on b.on
  have h3 := groupDiff_bounds a.around b.around
  refine PCall.of fn_s_l15Count (by simp) ?_
  unfold diffs
  simp [c_s_l15Count, r_s_l15Count_0, r_s_l15Count_1, p_s_l15Count_1]
  refine callD_v (PCall.arg (s_l3Differences a.field b.field) (by simp)) ?_ ?_ ?_
  · simp
  · simp
  simp
  refine callD_v (PCall.arg (s_l4Differences a.on b.on) (by simp)) ?_ ?_ ?_
  · simp
  · simp
  simp
  refine callD_v (PCall.arg (s_l4Differences a.around b.around) (by simp)) ?_ ?_ ?_
  · simp
  · simp
  simp
  rw [wrap64 (n := fieldDiff a.field b.field + groupDiff a.on b.on) (by omega) (by omega), wrap64 (by omega) (by omega)]
  refine ⟨oEnd_of (by simp [p_s_l15Count_1]) (by simp), ?_⟩
  by_cases ho : a.ordinary = b.ordinary
  rotate_left
  · simp [r_s_l15Count_2, r_s_l15Count_3, ho]
    rw [wrap64 (by omega) (by omega)]
    omega
  simp [r_s_l15Count_2, ho]
  by_cases hl : a.line = b.line <;> by_cases ht : a.tincture = b.tincture
  all_goals
    simp [r_s_l15Count_4, r_s_l15Count_5, r_s_l15Count_6, r_s_l15Count_7, r_s_l15Count_8, hl, ht, bit]
    try omega
  · rw [wrap64 (by omega) (by omega)]; omega
  · rw [wrap64 (by omega) (by omega)]; omega
  · rw [wrap64 (n := fieldDiff a.field b.field + groupDiff a.on b.on + groupDiff a.around b.around + 1) (by omega) (by omega), wrap64 (by omega) (by omega)]; omega
theorem s_l15Conflict (a b : Arms) : PCall Tryz.prog n_s_l15Conflict [eArms a, eArms b] (B (decide (diffs a b < 2))) := by
  refine PCall.of fn_s_l15Conflict (by simp) ?_
  simp [c_s_l15Conflict, r_s_l15Conflict_0, r_s_l15Conflict_1]
  refine callQ_v (PCall.arg (s_l15Count a b) (by simp)) ?_
  simp
end Go.Proofs.YtbeoijlggphklaaGreatDoor

/- The compact code of the functions, and that it is theirs: written by a program of this claim. -/
namespace Go.Proofs.YtbeoijlggphklaaGreatDoor
open Go.Abs
set_option maxRecDepth 100000
end Go.Proofs.YtbeoijlggphklaaGreatDoor

/- Grants and rows of grants: how they lie, the laws' helpers. -/
set_option linter.unusedVariables false
set_option linter.unusedSimpArgs false
namespace Go.Proofs.YtbeoijlggphklaaGreatDoor
open Go.Abs

structure Grant where
  number : Int
  name : List UInt8
  year : Int
  arms : Arms
  deriving DecidableEq
abbrev eGrant (g : Grant) : V := .agg [I g.number, S g.name, I g.year, I g.arms.field.division, I g.arms.field.line, I g.arms.field.first, I g.arms.field.second, I g.arms.ordinary, I g.arms.line, I g.arms.tincture,
  I g.arms.on.count, I g.arms.on.kind, I g.arms.on.attitude, I g.arms.on.tincture, I g.arms.around.count, I g.arms.around.kind, I g.arms.around.attitude, I g.arms.around.tincture]
abbrev Register := List Grant
abbrev eRegister (r : Register) : V := .agg [.ro 18 (r.map eGrant)]

abbrev oRegister (r : Register) : V := .agg [.own 18 (r.map eGrant)]
end Go.Proofs.YtbeoijlggphklaaGreatDoor

/- Registers: the test, a copy; in the program and in the reference. -/
set_option linter.unusedVariables false
set_option linter.unusedSimpArgs false
namespace Go.Proofs.YtbeoijlggphklaaGreatDoor
open Go.Abs

def g00 : Grant := ⟨0, [], 0, ⟨⟨0, 0, 0, 0⟩, 0, 0, 0, ⟨0, 0, 0, 0⟩, ⟨0, 0, 0, 0⟩⟩⟩
def upB (b : UInt8) : Bool := decide (65 ≤ b.toNat) && decide (b.toNat ≤ 90)
def lowB (b : UInt8) : Bool := decide (97 ≤ b.toNat) && decide (b.toNat ≤ 122)
def chOk (s : List UInt8) (i : Nat) : Bool := if i = 0 then upB (s.getD i 0) else lowB (s.getD i 0)
def nameOk (s : List UInt8) : Bool := inR s.length 1 12 && (List.range s.length).all (chOk s)
def grantOk (g : Grant) : Bool := inR g.number 1 999 && (nameOk g.name && (inR g.year 1000 2999 && arms g.arms))
def pairOk (p g : Grant) : Bool := decide (p.number < g.number) && decide (p.year ≤ g.year)
def stepOk (l : List Grant) (i : Nat) : Bool := grantOk (l.getD i g00) && ((decide (i = 0) || pairOk (l.getD (i - 1) g00) (l.getD i g00)) && (l.take i).all fun k => !decide (diffs k.arms (l.getD i g00).arms < 2))
def register (l : List Grant) : Bool := decide (l.length ≤ 12) && (List.range l.length).all (stepOk l)
theorem arms_field {a : Arms} (h : arms a = true) : fieldOk a.field = true := by
  simp only [arms, Bool.and_eq_true] at h
  exact h.1.1

theorem chOk_iff {s : List UInt8} {i : Nat} (h : i < s.length) : chOk s i = true ↔ (i = 0 → 65 ≤ s[i].toNat ∧ s[i].toNat ≤ 90) ∧ (i ≠ 0 → 97 ≤ s[i].toNat ∧ s[i].toNat ≤ 122) := by
  have hg : s.getD i 0 = s[i] := by simp [h]
  unfold chOk
  rw [hg]
  split
  · rename_i e; simp [upB, e]
  · rename_i e; simp [lowB, e]
theorem i_isName (s : List UInt8) : PCall Tryz.prog n_i_isName [S s] (B (nameOk s)) := by
  refine PCall.ofL fn_i_isName (by simp) fun hl => ?_
  simp at hl
  simp [c_i_isName, r_i_isName_0, r_i_isName_1, r_i_isName_8]
  refine loopK (fun i : Nat => ⟨[(0, S s), (5, I s.length), (6, I i)], [], []⟩) (fun i => s.length - i) (fun i => i ≤ s.length ∧ (List.range i).all (chOk s) = true) 0 (Wk.list rfl (by simp) (by simp)) (by simp) ?_
  rintro i ⟨hi, hj⟩ K hN hR hE
  simp [r_i_isName_2, l_i_isName_7]
  refine ⟨fun hlt => ?_, fun hge => ?_⟩
  · have hc := chOk_iff hlt
    simp [r_i_isName_3, r_i_isName_4, hlt]
    refine ⟨fun e => ⟨fun a => ⟨fun b => ⟨fun c => by omega, fun _ => ?_⟩, fun b => ?_⟩, fun a => ?_⟩, fun e => ⟨fun c => ⟨fun a => ⟨fun b => ?_, fun b => ?_⟩, fun a => ?_⟩, fun e' => absurd e' e⟩⟩
    all_goals first
      | (have h : chOk s i = true := by rw [hc]; omega
         simp [r_i_isName_6]
         rw [wrap64 (by omega) (by omega)]
         refine hN (i + 1) _ (by omega) ⟨by omega, ?_⟩ (Wk.list rfl (by simp) (by simp))
         rw [allIx_succ, hj, h]; rfl)
      | (have h : ¬ chOk s i = true := by rw [hc]; omega
         simp [r_i_isName_5]
         refine hR _ ?_
         have : nameOk s = false := by
           unfold nameOk
           rw [allIx_false hlt (by simpa using h), Bool.and_false]
         simp [this])
  · refine hE _ _ ?_
    obtain rfl : i = s.length := by omega
    simp
    refine callQ_v (i_inside ..) ?_
    simp [nameOk, hj]
theorem s_l16Name (s : List UInt8) : PCall Tryz.prog n_s_l16Name [S s] (B (nameOk s)) := by
  refine PCall.ofL fn_s_l16Name (by simp) fun hl => ?_
  simp at hl
  simp [c_s_l16Name, r_s_l16Name_0, r_s_l16Name_1]
  refine callQ_v (s_l1In ..) ?_
  cases h1 : inR s.length 1 12 with
  | false => simp [r_s_l16Name_2, nameOk, h1]
  | true =>
  have h1' := inR_iff.1 h1
  have h0 : 0 < s.length := by omega
  have hc := chOk_iff h0
  have bad : ∀ i, i < s.length → ¬ chOk s i = true → nameOk s = false := fun i hlt h => by
    unfold nameOk
    rw [allIx_false hlt (by simpa using h), Bool.and_false]
  simp [h0]
  refine ⟨fun a => ⟨fun b => ?_, fun b => ?_⟩, fun a => ?_⟩
  · have := bad 0 h0 (by rw [hc]; omega)
    simp [r_s_l16Name_2, this]
  rotate_left
  · have := bad 0 h0 (by rw [hc]; omega)
    simp [r_s_l16Name_2, this]
  have hc0 : chOk s 0 = true := by rw [hc]; omega
  simp [r_s_l16Name_3, r_s_l16Name_9]
  refine loopK (fun i : Nat => ⟨[(0, S s), (3, I i)], [], []⟩) (fun i => s.length - i) (fun i => (1 ≤ i ∧ i ≤ s.length) ∧ (List.range i).all (chOk s) = true) 1 (Wk.list rfl (by simp) (by simp)) ⟨by omega, by simp [hc0]⟩ ?_
  rintro i ⟨⟨h1i, hi⟩, hj⟩ K hN hR hE
  simp [r_s_l16Name_4, l_s_l16Name_8]
  refine ⟨fun hlt => ?_, fun hge => ?_⟩
  · have hc := chOk_iff hlt
    simp [r_s_l16Name_5, hlt]
    refine ⟨fun a => ⟨fun b => ?_, fun b => ?_⟩, fun a => ?_⟩
    all_goals first
      | (have h : chOk s i = true := by rw [hc]; omega
         simp [r_s_l16Name_7]
         rw [wrap64 (by omega) (by omega)]
         refine hN (i + 1) _ (by omega) ⟨by omega, ?_⟩ (Wk.list rfl (by simp) (by simp))
         rw [allIx_succ, hj, h]; rfl)
      | (have h : ¬ chOk s i = true := by rw [hc]; omega
         simp [r_s_l16Name_6]
         refine hR _ ?_
         simp [bad i hlt h])
  · refine hE _ _ ?_
    obtain rfl : i = s.length := by omega
    simp [nameOk, h1, hj]
theorem s_l16Grant (g : Grant) : PCall Tryz.prog n_s_l16Grant [eGrant g] (B (grantOk g)) := by
  refine PCall.of fn_s_l16Grant (by simp) ?_
  simp [c_s_l16Grant, r_s_l16Grant_0, r_s_l16Grant_1]
  refine callQ_v (s_l1In ..) ?_
  cases h1 : inR g.number 1 999 with
  | false => simp [grantOk, h1]
  | true =>
  simp
  refine callQ_v (s_l16Name ..) ?_
  cases h2 : nameOk g.name with
  | false => simp [grantOk, h2]
  | true =>
  simp
  refine callQ_v (s_l1In ..) ?_
  cases h3 : inR g.year 1000 2999 with
  | false => simp [grantOk, h3]
  | true =>
  simp
  refine callQ_v (PCall.arg (s_l5Good g.arms) (by simp)) ?_
  simp [grantOk, h1, h2, h3]
theorem step_false {l : List Grant} {i : Nat} (h : i < l.length) (hs : stepOk l i = false) : register l = false := by
  unfold register
  rw [allIx_false h hs, Bool.and_false]
theorem s_l16Good (l : Register) : PCall Tryz.prog n_s_l16Good [eRegister l] (B (register l)) := by
  refine PCall.of fn_s_l16Good (by simp) ?_
  simp [c_s_l16Good, r_s_l16Good_0, r_s_l16Good_1]
  refine ⟨fun h => ?_, fun h12 => ?_⟩
  · have : register l = false := by simp [register]; omega
    simp [r_s_l16Good_2, this]
  simp [r_s_l16Good_3, r_s_l16Good_15]
  refine loopK (fun i : Nat => ⟨[(1, .ref 1 0 0), (3, I i)], [(1, ⟨1, [eRegister l]⟩)], []⟩) (fun i => l.length - i) (fun i => i ≤ l.length ∧ (List.range i).all (stepOk l) = true) 0 (Wk.list rfl (by simp) (by simp)) (by simp) ?_
  rintro i ⟨hi, hj⟩ K hN hR hE
  simp [r_s_l16Good_4, l_s_l16Good_14]
  refine ⟨fun hlt => ?_, fun hge => ?_⟩
  · have hg : l.getD i g00 = l[i] := by simp [hlt]
    simp [r_s_l16Good_5, p_s_l16Good_5, hlt]
    refine callD_v (s_l16Grant l[i]) ?_ ?_ ?_
    · simp
    · simp
    cases h1 : grantOk l[i] with
    | false =>
      simp
      refine ⟨oEnd_of (by first | kernel_rfl | simp) (by first | kernel_rfl | simp), ?_⟩
      simp [r_s_l16Good_6]
      refine hR _ ?_
      have : stepOk l i = false := by rw [stepOk, hg, h1]; rfl
      simp [step_false hlt this]
    | true =>
      simp
      have hk : i ≠ 0 → IntKind.i64.wrap ((i : Int) - 1) = ((i - 1 : Nat) : Int) := fun e => by rw [wrap64 (by omega) (by omega)]; omega
      have hil : i - 1 < l.length := by omega
      have hgl : l.getD (i - 1) g00 = l[i - 1] := by simp [hil]
      have hpr : (decide (i = 0) || pairOk (l.getD (i - 1) g00) (l.getD i g00)) = true ↔ i = 0 ∨ (l[i - 1].number < l[i].number ∧ l[i - 1].year ≤ l[i].year) := by
        rw [hg, hgl]; simp [pairOk]
      have hst : stepOk l i = ((decide (i = 0) || pairOk (l.getD (i - 1) g00) (l.getD i g00)) && (l.take i).all fun k => !decide (diffs k.arms l[i].arms < 2)) := by
        rw [stepOk, hg, h1, Bool.true_and]
      refine ⟨fun e => ?_, fun e => ?_⟩
      · have e' : i ≠ 0 := by omega
        simp [hk e', hlt, hil]
        refine ⟨fun a => ⟨oEnd_of (by first | kernel_rfl | simp) (by first | kernel_rfl | simp), fun b => ?_, fun b => ?_⟩, fun a => ⟨oEnd_of (by first | kernel_rfl | simp) (by first | kernel_rfl | simp), ?_⟩⟩
        all_goals first
          | (have hp : (decide (i = 0) || pairOk (l.getD (i - 1) g00) (l.getD i g00)) = true := hpr.2 (by omega)
             simp [r_s_l16Good_7, r_s_l16Good_13]
             refine loopK (fun k : Nat => ⟨[(1, .ref 1 0 0), (3, I i), (4, I k)], [(1, ⟨1, [eRegister l]⟩)], []⟩) (fun k => i - k) (fun k => k ≤ i ∧ ((l.take k).all fun k => !decide (diffs k.arms l[i].arms < 2)) = true) 0 (Wk.list rfl (by simp) (by simp)) (by simp) ?_
             rintro k ⟨hki, hkj⟩ K' hN' hR' hE'
             have hkl : k ≤ l.length := by omega
             simp [r_s_l16Good_8, l_s_l16Good_12]
             refine ⟨fun hlk => ?_, fun hgk => ?_⟩
             · have hkl' : k < l.length := by omega
               simp [r_s_l16Good_9, p_s_l16Good_9, hlt, hkl']
               refine callD_v (PCall.arg (s_l15Conflict l[k].arms l[i].arms) (by simp)) ?_ ?_ ?_
               · simp
               · simp
               cases hd : decide (diffs l[k].arms l[i].arms < 2) with
               | true =>
                 simp
                 refine ⟨oEnd_of (by first | kernel_rfl | simp) (by first | kernel_rfl | simp), ?_⟩
                 simp [r_s_l16Good_10]
                 refine hR' _ ?_
                 have hgk : k < (l.take i).length := by rw [List.length_take]; omega
                 have : stepOk l i = false := by
                   rw [hst, hp, Bool.true_and]
                   refine all_false hgk ?_
                   rw [List.getElem_take, hd]; rfl
                 simp
                 refine hR _ ?_
                 simp [step_false hlt this]
               | false =>
                 simp
                 refine ⟨oEnd_of (by first | kernel_rfl | simp) (by first | kernel_rfl | simp), ?_⟩
                 simp [r_s_l16Good_11]
                 rw [wrap64 (by omega) (by omega)]
                 refine hN' (k + 1) _ (by omega) ⟨by omega, ?_⟩ (Wk.list rfl (by simp) (by simp))
                 rw [all_take_succ hkl', hkj, hd]; rfl
             · obtain rfl : k = i := by omega
               refine hE' _ _ ?_
               simp
               rw [wrap64 (by omega) (by omega)]
               refine hN (k + 1) _ (by omega) ⟨by omega, ?_⟩ (Wk.list rfl (by simp) (by simp))
               rw [allIx_succ, hj, hst, hp, hkj]; rfl)
          | (have hp : ¬ (decide (i = 0) || pairOk (l.getD (i - 1) g00) (l.getD i g00)) = true := by rw [hpr]; omega
             simp [r_s_l16Good_6]
             refine hR _ ?_
             have : stepOk l i = false := by rw [hst, Bool.eq_false_iff.2 hp, Bool.false_and]
             simp [step_false hlt this])
      · have hp : (decide (i = 0) || pairOk (l.getD (i - 1) g00) (l.getD i g00)) = true := hpr.2 (by omega)
        refine ⟨oEnd_of (by first | kernel_rfl | simp) (by first | kernel_rfl | simp), ?_⟩
        simp [r_s_l16Good_7, r_s_l16Good_13]
        refine loopK (fun k : Nat => ⟨[(1, .ref 1 0 0), (3, I i), (4, I k)], [(1, ⟨1, [eRegister l]⟩)], []⟩) (fun k => i - k) (fun k => k ≤ i ∧ ((l.take k).all fun k => !decide (diffs k.arms l[i].arms < 2)) = true) 0 (Wk.list rfl (by simp) (by simp)) (by simp) ?_
        rintro k ⟨hki, hkj⟩ K' hN' hR' hE'
        have hkl : k ≤ l.length := by omega
        simp [r_s_l16Good_8, l_s_l16Good_12]
        refine ⟨fun hlk => ?_, fun hgk => ?_⟩
        · have hkl' : k < l.length := by omega
          simp [r_s_l16Good_9, p_s_l16Good_9, hlt, hkl']
          refine callD_v (PCall.arg (s_l15Conflict l[k].arms l[i].arms) (by simp)) ?_ ?_ ?_
          · simp
          · simp
          cases hd : decide (diffs l[k].arms l[i].arms < 2) with
          | true =>
            simp
            refine ⟨oEnd_of (by first | kernel_rfl | simp) (by first | kernel_rfl | simp), ?_⟩
            simp [r_s_l16Good_10]
            refine hR' _ ?_
            have hgk : k < (l.take i).length := by rw [List.length_take]; omega
            have : stepOk l i = false := by
              rw [hst, hp, Bool.true_and]
              refine all_false hgk ?_
              rw [List.getElem_take, hd]; rfl
            simp
            refine hR _ ?_
            simp [step_false hlt this]
          | false =>
            simp
            refine ⟨oEnd_of (by first | kernel_rfl | simp) (by first | kernel_rfl | simp), ?_⟩
            simp [r_s_l16Good_11]
            rw [wrap64 (by omega) (by omega)]
            refine hN' (k + 1) _ (by omega) ⟨by omega, ?_⟩ (Wk.list rfl (by simp) (by simp))
            rw [all_take_succ hkl', hkj, hd]; rfl
        · obtain rfl : k = i := by omega
          refine hE' _ _ ?_
          simp
          rw [wrap64 (by omega) (by omega)]
          refine hN (k + 1) _ (by omega) ⟨by omega, ?_⟩ (Wk.list rfl (by simp) (by simp))
          rw [allIx_succ, hj, hst, hp, hkj]; rfl
  · refine hE _ _ ?_
    obtain rfl : i = l.length := by omega
    have : l.length ≤ 12 := by omega
    simp [register, this, hj]
theorem slices_IndexFunc_i_Grant_i_Grant (l : List Grant) (p : Grant → Bool) (g : Nat) (caps : List V) (hc : ∀ hp, caps.map (borrow hp 6) = caps) (hp : ∀ x ∈ l, PCall Tryz.prog g (eGrant x :: caps) (B (p x))) :
    PCall Tryz.prog n_slices_IndexFunc_i_Grant_i_Grant [.ro 18 (l.map eGrant), .clo g caps] (I (idx p l)) := by
  refine PCall.ofL fn_slices_IndexFunc_i_Grant_i_Grant (by simp) fun hl => ?_
  simp at hl
  simp [c_slices_IndexFunc_i_Grant_i_Grant, r_slices_IndexFunc_i_Grant_i_Grant_0, r_slices_IndexFunc_i_Grant_i_Grant_1, r_slices_IndexFunc_i_Grant_i_Grant_8]
  refine loopQ_ix (fun i : Nat => ⟨[(0, .ro 18 (l.map eGrant)), (1, .clo g caps), (7, I l.length), (8, I i)], [], []⟩) (fun i => l.length - i) (fun i => i ≤ l.length ∧ ∀ j (_ : j < i) (hj : j < l.length), p l[j] = false) 0 (Wk.list rfl (by simp) (by simp)) (by simp) ?_
  rintro i ⟨hi, hj⟩
  simp [r_slices_IndexFunc_i_Grant_i_Grant_2, l_slices_IndexFunc_i_Grant_i_Grant_7]
  refine ⟨fun hlt => ?_, fun hge => ?_⟩
  · simp [r_slices_IndexFunc_i_Grant_i_Grant_3, r_slices_IndexFunc_i_Grant_i_Grant_4, hlt]
    refine callQ_v (PCall.arg (hp l[i] (List.getElem_mem _)) (by simp [hc])) ?_
    simp
    refine ⟨fun ht => ?_, fun hf => ?_⟩
    · simp [r_slices_IndexFunc_i_Grant_i_Grant_5]
      exact (idx_at hlt (fun j h => hj j h (by omega)) ht).symm
    · simp [r_slices_IndexFunc_i_Grant_i_Grant_6]
      rw [wrap64 (by omega) (by omega)]
      refine roundA_of (i + 1) (by omega) ⟨by omega, fun j h h' => ?_⟩ (Wk.list rfl (by simp) (by simp))
      by_cases e : j = i
      · subst e; exact hf
      · exact hj j (by omega) h'
  · have : idx p l = -1 := idx_none fun j h => hj j (by omega) h
    simp [this]
theorem slices_ContainsFunc_i_Grant_i_Grant (l : List Grant) (p : Grant → Bool) (g : Nat) (caps : List V) (hc : ∀ hp, caps.map (borrow hp 6) = caps) (hc5 : ∀ hp, caps.map (borrow hp 5) = caps) (hp : ∀ x ∈ l, PCall Tryz.prog g (eGrant x :: caps) (B (p x))) :
    PCall Tryz.prog n_slices_ContainsFunc_i_Grant_i_Grant [.ro 18 (l.map eGrant), .clo g caps] (B (l.any p)) := by
  refine PCall.of fn_slices_ContainsFunc_i_Grant_i_Grant (by simp) ?_
  simp [c_slices_ContainsFunc_i_Grant_i_Grant, r_slices_ContainsFunc_i_Grant_i_Grant_0, r_slices_ContainsFunc_i_Grant_i_Grant_1]
  refine callQ_v (PCall.arg (slices_IndexFunc_i_Grant_i_Grant l p g caps hc hp) (by simp [hc5])) ?_
  simp [← idx_any]
theorem i_IsValidRegister_1 (g : Grant) (x : Grant) (hx : fieldOk x.arms.field = true) (hg : fieldOk g.arms.field = true) : PCall Tryz.prog n_i_IsValidRegister_1 [eGrant x, .rp 18 [eGrant g] 0 0] (B (decide (diffs x.arms g.arms < 2))) := by
  refine PCall.of fn_i_IsValidRegister_1 (by simp) ?_
  simp [c_i_IsValidRegister_1, r_i_IsValidRegister_1_0, r_i_IsValidRegister_1_1]
  refine callQ_v (PCall.arg (i_conflict x.arms g.arms hx hg) (by simp)) ?_
  simp
theorem ok_field {g : Grant} (h : grantOk g = true) : fieldOk g.arms.field = true := by
  simp only [grantOk, Bool.and_eq_true] at h
  exact arms_field h.2.2.2
theorem take_field {l : List Grant} {i : Nat} (hi : i ≤ l.length) (hj : (List.range i).all (stepOk l) = true) : ∀ x ∈ l.take i, fieldOk x.arms.field = true := by
  intro x hx
  obtain ⟨j, hjl, rfl⟩ := List.getElem_of_mem hx
  rw [List.getElem_take]
  rw [List.length_take] at hjl
  have := List.all_eq_true.1 hj j (List.mem_range.2 (by omega))
  have hgj : l.getD j g00 = l[j] := by
    have : j < l.length := by omega
    simp [this]
  rw [stepOk, hgj] at this
  simp only [Bool.and_eq_true] at this
  exact ok_field this.1
theorem i_IsValidRegister (l : Register) : PCall Tryz.prog n_i_IsValidRegister [eRegister l] (B (register l)) := by
  refine PCall.ofL fn_i_IsValidRegister (by simp) fun hl => ?_
  simp at hl
  simp [c_i_IsValidRegister, r_i_IsValidRegister_0, r_i_IsValidRegister_1, r_i_IsValidRegister_12]
  refine loopK (fun i : Nat => ⟨[(1, .ref 1 0 0), (6, .ro 18 (l.map eGrant)), (7, I l.length), (8, I i)], [(1, ⟨1, [eRegister l]⟩)], []⟩) (fun i => l.length - i) (fun i => i ≤ l.length ∧ (List.range i).all (stepOk l) = true) 0 (Wk.list rfl (by simp) (by simp)) (by simp) ?_
  rintro i ⟨hi, hj⟩ K hN hR hE
  simp [r_i_IsValidRegister_2, l_i_IsValidRegister_11]
  refine ⟨fun hlt => ?_, fun hge => ?_⟩
  · have hg : l.getD i g00 = l[i] := by simp [hlt]
    simp [r_i_IsValidRegister_3, hlt]
    simp [r_i_IsValidRegister_4]
    have no : grantOk l[i] = false → stepOk l i = false := fun h => by rw [stepOk, hg, h]; rfl
    refine callQ_v (i_inside ..) ?_
    cases h1 : inR l[i].number 1 999 with
    | false =>
      simp [r_i_IsValidRegister_5]
      refine hR _ ?_
      simp [step_false hlt (no (by simp [grantOk, h1]))]
    | true =>
    simp
    refine callQ_v (i_isName ..) ?_
    cases h2 : nameOk l[i].name with
    | false =>
      simp [r_i_IsValidRegister_5]
      refine hR _ ?_
      simp [step_false hlt (no (by simp [grantOk, h2]))]
    | true =>
    simp
    refine callQ_v (i_inside ..) ?_
    cases h3 : inR l[i].year 1000 2999 with
    | false =>
      simp [r_i_IsValidRegister_5]
      refine hR _ ?_
      simp [step_false hlt (no (by simp [grantOk, h3]))]
    | true =>
    simp
    refine callQ_v (PCall.arg (i_IsValidArms l[i].arms) (by simp)) ?_
    cases h4 : arms l[i].arms with
    | false =>
      simp [r_i_IsValidRegister_5]
      refine hR _ ?_
      simp [step_false hlt (no (by simp [grantOk, h4]))]
    | true =>
    have hok : grantOk l[i] = true := by simp [grantOk, h1, h2, h3, h4]
    have hk : i ≠ 0 → IntKind.i64.wrap ((i : Int) - 1) = ((i - 1 : Nat) : Int) := fun e => by rw [wrap64 (by omega) (by omega)]; omega
    have hil : i - 1 < l.length := by omega
    have hgl : l.getD (i - 1) g00 = l[i - 1] := by simp [hil]
    have hpr : (decide (i = 0) || pairOk (l.getD (i - 1) g00) (l.getD i g00)) = true ↔ i = 0 ∨ (l[i - 1].number < l[i].number ∧ l[i - 1].year ≤ l[i].year) := by
      rw [hg, hgl]; simp [pairOk]
    have hst : stepOk l i = ((decide (i = 0) || pairOk (l.getD (i - 1) g00) (l.getD i g00)) && (l.take i).all fun k => !decide (diffs k.arms l[i].arms < 2)) := by
      rw [stepOk, hg, hok, Bool.true_and]
    have hany : ((l.take i).any fun k => decide (diffs k.arms l[i].arms < 2)) = !((l.take i).all fun k => !decide (diffs k.arms l[i].arms < 2)) := by
      rw [List.all_eq_not_any_not]; simp
    simp [r_i_IsValidRegister_6, p_i_IsValidRegister_6]
    refine ⟨fun e => ?_, fun e => ?_⟩
    · have e' : i ≠ 0 := by omega
      simp [hk e', hlt, hil]
      refine ⟨fun a => ⟨oEnd_of (by first | kernel_rfl | simp) (by first | kernel_rfl | simp), fun b => ?_, fun b => ?_⟩, fun a => ⟨oEnd_of (by first | kernel_rfl | simp) (by first | kernel_rfl | simp), ?_⟩⟩
      all_goals first
        | (have hp : (decide (i = 0) || pairOk (l.getD (i - 1) g00) (l.getD i g00)) = true := hpr.2 (by omega)
           have hi' : i ≤ l.length := by omega
           have hf := take_field hi' hj
           have hfi := ok_field hok
           simp [r_i_IsValidRegister_8, hi']
           refine callQ_v (PCall.arg (slices_ContainsFunc_i_Grant_i_Grant (l.take i) (fun k => decide (diffs k.arms l[i].arms < 2)) n_i_IsValidRegister_1 [.rp 18 [eGrant l[i]] 0 0] (by simp) (by simp) (fun x hx => i_IsValidRegister_1 l[i] x (hf x hx) hfi)) (by simp)) ?_
           rw [hany]
           cases hd : (l.take i).all fun k => !decide (diffs k.arms l[i].arms < 2) with
           | false =>
             simp [r_i_IsValidRegister_9]
             refine hR _ ?_
             have : stepOk l i = false := by rw [hst, hd, Bool.and_false]
             simp [step_false hlt this]
           | true =>
             simp [r_i_IsValidRegister_10]
             rw [wrap64 (by omega) (by omega)]
             refine hN (i + 1) _ (by omega) ⟨by omega, ?_⟩ (Wk.list rfl (by simp) (by simp))
             rw [allIx_succ, hj, hst, hp, hd]; rfl)
        | (have hp : ¬ (decide (i = 0) || pairOk (l.getD (i - 1) g00) (l.getD i g00)) = true := by rw [hpr]; omega
           simp [r_i_IsValidRegister_7]
           refine hR _ ?_
           have : stepOk l i = false := by rw [hst, Bool.eq_false_iff.2 hp, Bool.false_and]
           simp [step_false hlt this])
    · have hp : (decide (i = 0) || pairOk (l.getD (i - 1) g00) (l.getD i g00)) = true := hpr.2 (by omega)
      refine ⟨oEnd_of (by first | kernel_rfl | simp) (by first | kernel_rfl | simp), ?_⟩
      have hi' : i ≤ l.length := by omega
      have hf := take_field hi' hj
      have hfi := ok_field hok
      simp [r_i_IsValidRegister_8, hi']
      refine callQ_v (PCall.arg (slices_ContainsFunc_i_Grant_i_Grant (l.take i) (fun k => decide (diffs k.arms l[i].arms < 2)) n_i_IsValidRegister_1 [.rp 18 [eGrant l[i]] 0 0] (by simp) (by simp) (fun x hx => i_IsValidRegister_1 l[i] x (hf x hx) hfi)) (by simp)) ?_
      rw [hany]
      cases hd : (l.take i).all fun k => !decide (diffs k.arms l[i].arms < 2) with
      | false =>
        simp [r_i_IsValidRegister_9]
        refine hR _ ?_
        have : stepOk l i = false := by rw [hst, hd, Bool.and_false]
        simp [step_false hlt this]
      | true =>
        simp [r_i_IsValidRegister_10]
        rw [wrap64 (by omega) (by omega)]
        refine hN (i + 1) _ (by omega) ⟨by omega, ?_⟩ (Wk.list rfl (by simp) (by simp))
        rw [allIx_succ, hj, hst, hp, hd]; rfl
  · refine hE _ _ ?_
    obtain rfl : i = l.length := by omega
    simp [register, hj]
    omega
theorem register_len {l : Register} (h : register l = true) : l.length ≤ 12 := by
  simp only [register, Bool.and_eq_true, decide_eq_true_iff] at h
  exact h.1
end Go.Proofs.YtbeoijlggphklaaGreatDoor

/- The words of the text of arms are not empty; entries of a roll. No program in sight. -/
set_option linter.unusedVariables false
set_option linter.unusedSimpArgs false
namespace Go.Proofs.YtbeoijlggphklaaGreatDoor
open Go.Abs

/-- Words are not empty, read from the left; 'sp': at the start or behind a space. -/
def neatS : Bool → List UInt8 → Bool
  | sp, [] => !sp
  | sp, x :: s => if x = 32 then !sp && neatS true s else neatS false s
theorem neat_parts : ∀ (s p : List UInt8) (ps : List (List UInt8)), parts 32 s = p :: ps → (neatS true s = ((!p.isEmpty) && ps.all fun x => !x.isEmpty)) ∧ (neatS false s = ps.all fun x => !x.isEmpty)
  | [], p, ps, h => by
    rw [parts] at h
    simp only [List.cons.injEq] at h
    obtain ⟨rfl, rfl⟩ := h
    simp [neatS]
  | x :: s, p, ps, h => by
    obtain ⟨q, qs, h1, h2⟩ := parts_cons 32 x s
    rw [h2] at h
    have ih := neat_parts s q qs h1
    by_cases e : x = 32
    · rw [if_pos e] at h
      simp only [List.cons.injEq] at h
      obtain ⟨rfl, rfl⟩ := h
      simp [neatS, e, ih.1]
    · rw [if_neg e] at h
      simp only [List.cons.injEq] at h
      obtain ⟨rfl, rfl⟩ := h
      simp [neatS, e, ih.2]
theorem neat_ne {s : List UInt8} (h : neatS true s = true) : ∀ x ∈ parts 32 s, x ≠ [] := by
  obtain ⟨p, ps, hp⟩ : ∃ p ps, parts 32 s = p :: ps := by
    cases hp : parts 32 s with
    | nil => exact absurd hp (parts_ne s)
    | cons p ps => exact ⟨p, ps, rfl⟩
  have h1 := (neat_parts s p ps hp).1
  rw [h1, Bool.and_eq_true, List.all_eq_true] at h
  rw [hp]
  intro x hx
  rcases List.mem_cons.1 hx with rfl | hx
  · rintro rfl; simp at h
  · rintro rfl
    have := h.2 [] hx
    simp at this
theorem neat_sp : ∀ (sp : Bool) (a b : List UInt8), neatS sp (a ++ 32 :: b) = (neatS sp a && neatS true b)
  | sp, [], b => by simp [neatS]
  | sp, x :: a, b => by
    rw [List.cons_append, neatS, neatS]
    split
    · rw [neat_sp true a b, Bool.and_assoc]
    · rw [neat_sp false a b]
theorem neat_snoc {x : UInt8} (hx : x ≠ 32) : ∀ (sp : Bool) (a : List UInt8), neatS sp a = true → neatS sp (a ++ [x]) = true
  | sp, [], h => by simp [neatS, hx]
  | sp, y :: a, h => by
    rw [neatS] at h
    rw [List.cons_append, neatS]
    split
    · rename_i e
      rw [if_pos e, Bool.and_eq_true] at h
      rw [Bool.and_eq_true]
      exact ⟨h.1, neat_snoc hx true a h.2⟩
    · rename_i e
      rw [if_neg e] at h
      exact neat_snoc hx false a h
theorem neat_two {a b : List UInt8} (h1 : neatS true a = true) (h2 : neatS true b = true) : neatS true (a ++ 32 :: b) = true := by rw [neat_sp, h1, h2]; rfl
theorem neat_comma {a b : List UInt8} (h1 : neatS true a = true) (h2 : neatS true b = true) : neatS true (a ++ [44, 32] ++ b) = true := by
  have := neat_two (neat_snoc (x := 44) (by decide) true a h1) h2
  simpa using this
theorem neat_get {l : List (List UInt8)} {i : Nat} (hl : ∀ w ∈ l, neatS true w = true) (h : i < l.length) : neatS true (l.getD i []) = true := by
  rw [List.getD_eq_getElem?_getD, List.getElem?_eq_getElem h]
  exact hl _ (List.getElem_mem h)
theorem neat_tinc {x : Int} (h : inR x 1 9 = true) : neatS true (tincW x) = true := by
  have h := inR_iff.1 h
  exact neat_get (by decide) (by show _ < 9; omega)
theorem neat_with {t : List UInt8} {x : Int} (ht : neatS true t = true) (h : 0 ≤ x ∧ x ≤ 4) : neatS true (withL t x) = true := by
  unfold withL
  split
  · exact ht
  · exact neat_two ht (neat_get (by decide) (by show _ < 4; omega))
theorem neat_field {f : Field} (h : fieldOk f = true) : neatS true (fieldT f) = true := by
  simp only [fieldOk, Bool.and_eq_true, inR_iff] at h
  obtain ⟨⟨⟨h1, h2⟩, h3⟩, h4⟩ := h
  unfold fieldT
  split
  · exact neat_tinc (inR_iff.2 h3)
  · rename_i h0
    rw [if_neg h0] at h4
    simp only [Bool.and_eq_true, inR_iff] at h4
    have hd : neatS true (divW f.division) = true := neat_get (by decide) (by show _ < 7; omega)
    have ha := neat_two (neat_tinc (inR_iff.2 h3)) (neat_two (a := [97, 110, 100]) (by decide) (neat_tinc (inR_iff.2 h4.1)))
    have := neat_two (neat_with hd h2) ha
    simpa using this
theorem neat_group {g : Group} (h : groupOk g = true) : neatS true (groupT g) = true := by
  obtain ⟨h1, h2, h3, h4⟩ := groupOk_iff h
  have hc : neatS true (countW g.count g.kind) = true := by
    unfold countW
    split
    · decide
    · exact neat_get (by decide) (by show _ < 6; omega)
  have hk : neatS true (kindW g.kind g.count) = true := by
    unfold kindW
    have := neat_get (l := kindL) (i := (g.kind - 1).toNat) (by decide) (by show _ < 8; omega)
    split
    · exact neat_snoc (by decide) _ _ this
    · simpa using this
  unfold groupT
  split
  · rename_i ha
    have ha' : neatS true ((attitudes g.kind).getD (g.attitude - 1).toNat []) = true := by
      refine neat_get ?_ (att_get h ha).1
      unfold attitudes
      split
      · decide
      · split
        · decide
        · split
          · decide
          · simp
    have := neat_two hc (neat_two hk (neat_two ha' (neat_tinc h3)))
    simpa using this
  · have := neat_two hc (neat_two hk (neat_tinc h3))
    simpa using this
theorem neat_arms {a : Arms} (h : arms a = true) : neatS true (armsT a) = true := by
  have h0 := neat_field (arms_field h)
  obtain ⟨ho, hg, hr⟩ := arms_parts h
  have hon : g0 a.on = false → neatS true (groupT a.on) = true := fun e => neat_group (hg e)
  have har : g0 a.around = false → neatS true (groupT a.around) = true := fun e => neat_group (hr e)
  unfold armsT
  obtain ⟨t1, ht1⟩ : ∃ t1, fieldT a.field ++ (if a.ordinary = 0 then [] else [44, 32] ++ ordT a.ordinary a.line ++ 32 :: tincW a.tincture) = t1 := ⟨_, rfl⟩
  have n1 : neatS true t1 = true := by
    rw [← ht1]
    split
    · simpa using h0
    · rename_i e
      obtain ⟨g2, g3⟩ := ho.2.2.2 e
      have g1 := ho.1
      have g4 := ho.2.1
      have hord : neatS true (ordT a.ordinary a.line) = true := by
        unfold ordT
        refine neat_with ?_ g2
        have := neat_two (a := [97]) (by decide) (neat_get (l := ordL) (i := (a.ordinary - 1).toNat) (by decide) (by show _ < 7; omega))
        simpa [ordW] using this
      have := neat_comma h0 (neat_two hord (neat_tinc g3))
      simpa using this
  rw [ht1]
  obtain ⟨t2, ht2⟩ : ∃ t2, t1 ++ (if g0 a.on then [] else [32, 99, 104, 97, 114, 103, 101, 100, 32, 119, 105, 116, 104, 32] ++ groupT a.on) = t2 := ⟨_, rfl⟩
  have n2 : neatS true t2 = true := by
    rw [← ht2]
    split
    · simpa using n1
    · rename_i e
      have := neat_two n1 (neat_two (a := [99, 104, 97, 114, 103, 101, 100]) (by decide) (neat_two (a := [119, 105, 116, 104]) (by decide) (hon (by simpa using e))))
      simpa using this
  rw [ht2]
  split
  · simpa using n2
  · rename_i e
    have hr := har (by simpa using e)
    unfold joinT
    split
    · have := neat_comma n2 hr
      simpa using this
    · split
      · have := neat_two n2 (neat_two (a := [97, 98, 111, 118, 101]) (by decide) hr)
        simpa using this
      · have := neat_two n2 (neat_two (a := [98, 101, 116, 119, 101, 101, 110]) (by decide) hr)
        simpa using this
end Go.Proofs.YtbeoijlggphklaaGreatDoor

/- Rolls: order, entries, pages of the grants of a register. No program in sight. -/
set_option linter.unusedVariables false
set_option linter.unusedSimpArgs false
namespace Go.Proofs.YtbeoijlggphklaaGreatDoor
open Go.Abs

structure Roll where
  by_ : Int
  width : Int
  height : Int
abbrev eRoll (x : Roll) : V := .agg [I x.by_, I x.width, I x.height]
def rollOk (x : Roll) : Bool := inR x.by_ 1 3 && inR x.width 20 60 && inR x.height 4 20

/-! ### Orders -/
def ordLt (y : Int) (a b : Grant) : Bool := if y = 2 then decide (a.name < b.name) else if y = 3 then decide (armsT a.arms < armsT b.arms) else false
def beforeS (y : Int) (a b : Grant) : Bool := if y = 2 then decide (a.name < b.name) || (decide (a.name = b.name) && decide (a.number < b.number)) else if y = 3 then decide (armsT a.arms < armsT b.arms) else decide (a.number < b.number)
def rollOrd (y : Int) (l : List Grant) : List Grant := sortR (ordLt y) l
def rollIx (y : Int) (l : List Grant) : List Nat := sortR (fun i j => beforeS y (l.getD i g00) (l.getD j g00)) (List.range l.length)
theorem sortR_range {lt lt' : Nat → Nat → Bool} : ∀ n, (∀ i j, j < i → i < n → lt i j = lt' i j) → sortR lt (List.range n) = sortR lt' (List.range n)
  | 0, _ => rfl
  | n + 1, h => by
    rw [List.range_succ, sortR_snoc, sortR_snoc, sortR_range n fun i j h1 h2 => h i j h1 (by omega)]
    refine insR_congr fun y hy => ?_
    have := List.mem_range.1 (sortR_mem.1 hy)
    exact h n y this (by omega)
theorem range_getD {l : List Grant} : (List.range l.length).map (fun i => l.getD i g00) = l := by
  refine List.ext_getElem (by simp) fun i h1 h2 => ?_
  simp at h1
  simp [h1]
theorem register_step {l : List Grant} (h : register l = true) {i : Nat} (hi : i < l.length) : stepOk l i = true := by
  simp only [register, Bool.and_eq_true, decide_eq_true_iff, List.all_eq_true] at h
  exact h.2 i (List.mem_range.2 hi)
theorem register_asc {l : List Grant} (h : register l = true) : ∀ (i j : Nat), j < i → i < l.length → (l.getD j g00).number < (l.getD i g00).number
  | 0, j, h1, _ => by omega
  | i + 1, j, h1, h2 => by
    have hs := register_step h h2
    simp only [stepOk, Bool.and_eq_true, Bool.or_eq_true, decide_eq_true_iff, pairOk, Nat.add_sub_cancel] at hs
    have hs := hs.2.1.resolve_left (by omega)
    by_cases e : j = i
    · subst e; exact hs.1
    · have := register_asc h i j (by omega) (by omega)
      omega
theorem register_grant {l : List Grant} (h : register l = true) : ∀ g ∈ l, grantOk g = true := by
  intro g hg
  obtain ⟨i, hi, rfl⟩ := List.getElem_of_mem hg
  have hs := register_step h hi
  simp only [stepOk, Bool.and_eq_true] at hs
  have := hs.1
  rwa [List.getD_eq_getElem?_getD, List.getElem?_eq_getElem hi] at this
theorem rollIx_map {y : Int} {l : List Grant} (h : register l = true) : (rollIx y l).map (fun i => l.getD i g00) = rollOrd y l := by
  have e : rollIx y l = sortR (fun i j => ordLt y (l.getD i g00) (l.getD j g00)) (List.range l.length) := by
    refine sortR_range _ fun i j h1 h2 => ?_
    have ha := register_asc h i j h1 h2
    unfold beforeS ordLt
    have e1 : decide ((l.getD i g00).number < (l.getD j g00).number) = false := by simp only [decide_eq_false_iff_not]; omega
    rw [e1]
    simp
  have h2 := sortR_map (fun i => l.getD i g00) (ordLt y) (List.range l.length)
  rw [range_getD] at h2
  rw [e, rollOrd, h2]
theorem rollIx_lt {y : Int} {l : List Grant} : ∀ i ∈ rollIx y l, i < l.length := fun i hi => List.mem_range.1 (sortR_mem.1 hi)
theorem rollIx_len (y : Int) (l : List Grant) : (rollIx y l).length = l.length := by rw [rollIx, sortR_len, List.length_range]
theorem rollOrd_len (y : Int) (l : List Grant) : (rollOrd y l).length = l.length := sortR_len _ _
theorem rollOrd_mem {y : Int} {l : List Grant} {g : Grant} : g ∈ rollOrd y l ↔ g ∈ l := sortR_mem
def orderOk (l : List Grant) (y : Int) : Bool := register l && inR y 1 3
def orderN (l : List Grant) (y : Int) : List Int := if orderOk l y then (rollOrd y l).map Grant.number else []
/-! ### Entries -/
def headT (g : Grant) : List UInt8 := digits g.number.toNat ++ [46, 32] ++ g.name ++ [44, 32] ++ digits g.year.toNat
def entryL (w : Int) (g : Grant) : List (List UInt8) := headT g :: (fill (w - 2) (parts 32 (armsT g.arms))).map fun x => [32, 32] ++ x
def entryOk (g : Grant) (w : Int) : Bool := register [g] && inR w 20 60
def entryR (g : Grant) (w : Int) : List (List UInt8) := if entryOk g w then entryL w g else []
theorem armsT_words (a : Arms) : (parts 32 (armsT a)).length ≤ 301 := by
  have h1 := parts_count 32 (armsT a)
  have h2 := count_le 32 (armsT a)
  have h3 := armsT_len a
  omega
theorem fill_len (w : Int) (L : List (List UInt8)) : (fill w L).length ≤ L.length := by
  cases L with
  | nil => simp [fill]
  | cons x L => rw [fill]; have := fillGo_count w L x; simpa using this
theorem entryL_len (w : Int) (g : Grant) : (entryL w g).length ≤ 302 := by
  have h1 := fill_len (w - 2) (parts 32 (armsT g.arms))
  have h2 := armsT_words g.arms
  simp only [entryL, List.length_cons, List.length_map]; omega
theorem entryL_pos (w : Int) (g : Grant) : 1 ≤ (entryL w g).length := by simp [entryL]
theorem nameOk_len {s : List UInt8} (h : nameOk s = true) : 1 ≤ s.length ∧ s.length ≤ 12 := by
  simp only [nameOk, Bool.and_eq_true, inR_iff] at h
  omega
theorem grantOk_iff {g : Grant} (h : grantOk g = true) : (1 ≤ g.number ∧ g.number ≤ 999) ∧ nameOk g.name = true ∧ (1000 ≤ g.year ∧ g.year ≤ 2999) ∧ arms g.arms = true := by
  simp only [grantOk, Bool.and_eq_true, inR_iff] at h
  exact ⟨h.1, h.2.1, h.2.2.1, h.2.2.2⟩
theorem headT_len {g : Grant} (h : grantOk g = true) : (headT g).length ≤ 40 := by
  obtain ⟨h1, h2, h3, _⟩ := grantOk_iff h
  have := nameOk_len h2
  have d1 := digits_len 3 g.number.toNat (by omega)
  have d2 := digits_len 3 g.year.toNat (by omega)
  simp [headT]; omega
theorem fill_short {w : Int} {a : Arms} (hw : w ≤ 1000) : ∀ x ∈ fill w (parts 32 (armsT a)), x.length ≤ 1000 := by
  intro x hx
  have hp : ∀ y ∈ parts 32 (armsT a), y.length ≤ 1000 := fun y hy => by have := parts_less hy; have := armsT_len a; omega
  cases hL : parts 32 (armsT a) with
  | nil => rw [hL] at hx; simp [fill] at hx
  | cons y L =>
    rw [hL] at hx hp
    exact fillGo_long w 1000 hw L y (hp y (by simp)) (fun z hz => hp z (by simp [hz])) x hx
theorem entryL_short {w : Int} {g : Grant} (hw : w ≤ 1000) (h : grantOk g = true) : ∀ x ∈ entryL w g, x.length ≤ 1002 := by
  intro x hx
  rcases List.mem_cons.1 hx with rfl | hx
  · have := headT_len h; omega
  · obtain ⟨y, hy, rfl⟩ := List.mem_map.1 hx
    have := fill_short (a := g.arms) (w := w - 2) (by omega) y hy
    simp; omega

/-! ### Pages -/
def pagesG (x : Roll) (l : List Grant) : Option (List (List Grant)) := packs (fun g => (entryL x.width g).length) x.height.toNat (rollOrd x.by_ l)
def pagesIx (x : Roll) (l : List Grant) : Option (List (List Nat)) := packs (fun i => (entryL x.width (l.getD i g00)).length) x.height.toNat (rollIx x.by_ l)
theorem pagesIx_map {x : Roll} {l : List Grant} (h : register l = true) : pagesG x l = (pagesIx x l).map (·.map (·.map fun i => l.getD i g00)) := by
  rw [pagesG, ← rollIx_map h, packs_map]; rfl
def askedOk (l : List Grant) (x : Roll) : Bool := register l && rollOk x
def asked (l : List Grant) (x : Roll) : Option (List (List Grant)) := if askedOk l x then pagesG x l else none
def askedIx (l : List Grant) (x : Roll) : Option (List (List Nat)) := if askedOk l x then pagesIx x l else none
theorem asked_map (l : List Grant) (x : Roll) : asked l x = (askedIx l x).map (·.map (·.map fun i => l.getD i g00)) := by
  unfold asked askedIx
  split
  · rename_i h
    simp only [askedOk, Bool.and_eq_true] at h
    exact pagesIx_map h.1
  · rfl
def linesP (x : Roll) (p : List Grant) : List (List UInt8) := p.flatMap (entryL x.width)
def pagesL (l : List Grant) (x : Roll) : List (List (List UInt8)) := ((asked l x).getD []).map (linesP x)
theorem linesP_len (x : Roll) (p : List Grant) : (linesP x p).length = sizeB (fun g => (entryL x.width g).length) p := by
  simp [linesP, sizeB, List.length_flatMap]
end Go.Proofs.YtbeoijlggphklaaGreatDoor

/- Rolls: the page of a grant, the text, the number of lines. No program in sight. -/
set_option linter.unusedVariables false
set_option linter.unusedSimpArgs false
namespace Go.Proofs.YtbeoijlggphklaaGreatDoor
open Go.Abs

/-! ### Bounds -/
theorem packGo_count {α : Type} {sz : α → Nat} {h : Nat} : ∀ (l : List α) (done : List (List α)) (cur : List α) (ps : List (List α)), packGo sz h done cur l = some ps → ps.length ≤ done.length + (if cur.isEmpty then 0 else 1) + l.length
  | [], done, cur, ps, e => by
    rw [packGo] at e
    simp only [Option.some.injEq] at e
    subst e
    split <;> simp
  | x :: xs, done, cur, ps, e => by
    rw [packGo] at e
    split at e
    · cases e
    split at e
    · rename_i hc
      have := packGo_count xs _ _ ps e
      simp at this ⊢; omega
    rename_i hc
    split at e
    · have := packGo_count xs _ _ ps e
      simp [hc] at this ⊢; omega
    · have := packGo_count xs _ _ ps e
      simp [hc] at this ⊢; omega
theorem packs_count {α : Type} {sz : α → Nat} {h : Nat} {l : List α} {ps : List (List α)} (e : packs sz h l = some ps) : ps.length ≤ l.length := by
  have := packGo_count _ _ _ _ e
  simpa using this
theorem asked_iff {l : List Grant} {x : Roll} {ps : List (List Grant)} (h : asked l x = some ps) : register l = true ∧ rollOk x = true ∧ pagesG x l = some ps := by
  unfold asked at h
  split at h
  · rename_i ha
    simp only [askedOk, Bool.and_eq_true] at ha
    exact ⟨ha.1, ha.2, h⟩
  · cases h
theorem rollOk_iff {x : Roll} (h : rollOk x = true) : (1 ≤ x.by_ ∧ x.by_ ≤ 3) ∧ (20 ≤ x.width ∧ x.width ≤ 60) ∧ 4 ≤ x.height ∧ x.height ≤ 20 := by
  simp only [rollOk, Bool.and_eq_true, inR_iff] at h
  exact ⟨h.1.1, h.1.2, h.2⟩
theorem asked_flat {l : List Grant} {x : Roll} {ps : List (List Grant)} (h : asked l x = some ps) : ps.flatten = rollOrd x.by_ l := packs_flat (asked_iff h).2.2
theorem asked_count {l : List Grant} {x : Roll} {ps : List (List Grant)} (h : asked l x = some ps) : ps.length ≤ 12 := by
  obtain ⟨h1, _, h3⟩ := asked_iff h
  have := packs_count h3
  have := register_len h1
  rw [rollOrd_len] at *; omega
theorem asked_page {l : List Grant} {x : Roll} {ps : List (List Grant)} (h : asked l x = some ps) : ∀ p ∈ ps, p ≠ [] ∧ (linesP x p).length ≤ 20 ∧ (linesP x p).length ≤ x.height.toNat ∧ ∀ g ∈ p, grantOk g = true := by
  intro p hp
  obtain ⟨h1, h2, h3⟩ := asked_iff h
  have hk := rollOk_iff h2
  obtain ⟨h4, h5⟩ := packs_ok h3 p hp
  rw [linesP_len]
  refine ⟨h4, by omega, h5, fun g hg => register_grant h1 g ?_⟩
  rw [← rollOrd_mem (y := x.by_), ← asked_flat h]
  exact List.mem_flatten_of_mem hp hg
theorem asked_line {l : List Grant} {x : Roll} {ps : List (List Grant)} (h : asked l x = some ps) : ∀ p ∈ ps, ∀ s ∈ linesP x p, s.length ≤ 1002 := by
  intro p hp s hs
  obtain ⟨_, h2, _⟩ := asked_iff h
  have hk := rollOk_iff h2
  obtain ⟨g, hg, hs⟩ := List.mem_flatMap.1 hs
  exact entryL_short (by omega) ((asked_page h p hp).2.2.2 g hg) s hs

/-! ### The page of a grant -/
theorem of_first {α : Type} {p : α → Bool} : ∀ (k : Nat) (ps : List (List α)) (i : Nat) (h : i < ps.flatten.length), p ps.flatten[i] = true → (∀ j (hj : j < i), p (ps.flatten[j]'(by omega)) = false) →
    ∃ q, ps.findIdx? (·.any p) = some q ∧ (ofGo k ps)[i]? = some (k + q + 1)
  | k, [], i, h, _, _ => by simp at h
  | k, a :: ps, i, h, h1, h2 => by
    by_cases hi : i < a.length
    · have e : (a :: ps).flatten[i] = a[i] := by simp [List.getElem_append, hi]
      rw [e] at h1
      refine ⟨0, ?_, ?_⟩
      · rw [List.findIdx?_cons, if_pos]
        exact List.any_eq_true.2 ⟨a[i], List.getElem_mem _, h1⟩
      · rw [ofGo, List.getElem?_append_left (by simpa using hi), List.getElem?_replicate, if_pos hi]
    · have hf : a.any p = false := by
        rw [List.any_eq_false]
        intro y hy
        obtain ⟨j, hj, rfl⟩ := List.getElem_of_mem hy
        have := h2 j (by omega)
        have e : (a :: ps).flatten[j]'(by simp only [List.flatten_cons, List.length_append]; omega) = a[j] := by simp [List.getElem_append, hj]
        rw [e] at this
        simp [this]
      have hl : (a :: ps).flatten.length = a.length + ps.flatten.length := by simp
      have e : ∀ j (hj : j < (a :: ps).flatten.length) (hj' : ¬ j < a.length), (a :: ps).flatten[j] = ps.flatten[j - a.length]'(by omega) := fun j hj hj' => by simp [List.getElem_append, hj']
      rw [e i h hi] at h1
      obtain ⟨q, hq, ho⟩ := of_first (k + 1) ps (i - a.length) (by omega) h1 fun j hj => by
        have := h2 (j + a.length) (by omega)
        rw [e _ (by omega) (by omega)] at this
        simpa using this
      refine ⟨q + 1, ?_, ?_⟩
      · rw [List.findIdx?_cons, hf, hq]; rfl
      · rw [ofGo, List.getElem?_append_right (by simp; omega), List.length_replicate, ho]
        congr 1; omega
theorem of_none {α : Type} {p : α → Bool} (ps : List (List α)) (h : ∀ y ∈ ps.flatten, p y = false) : ps.findIdx? (·.any p) = none := by
  rw [List.findIdx?_eq_none_iff]
  intro a ha
  rw [List.any_eq_false]
  intro y hy
  rw [h y (List.mem_flatten_of_mem ha hy)]
  simp
def pageI (ps : List (List Grant)) (n : Int) : Option Nat := ps.findIdx? (·.any fun g => decide (g.number = n))
def pageN (l : List Grant) (x : Roll) (n : Int) : Int := match (asked l x).bind fun ps => pageI ps n with
  | some q => ((q + 1 : Nat) : Int)
  | none => 0
def pageOk (l : List Grant) (x : Roll) (n : Int) : Bool := ((asked l x).bind fun ps => pageI ps n).isSome

/-! ### The text -/
def textOk (l : List Grant) (x : Roll) : Bool := (asked l x).isSome
theorem pagesL_ok {l : List Grant} {x : Roll} : (pagesL l x).length ≤ 12 ∧ ∀ p ∈ pagesL l x, p ≠ [] ∧ p.length ≤ 20 ∧ p.length ≤ x.height.toNat ∧ ∀ s ∈ p, s.length ≤ 1002 := by
  unfold pagesL
  cases h : asked l x with
  | none => simp
  | some ps =>
    refine ⟨by simpa using asked_count h, fun p hp => ?_⟩
    simp only [Option.getD_some, List.mem_map] at hp
    obtain ⟨q, hq, rfl⟩ := hp
    obtain ⟨h1, h2, h3, _⟩ := asked_page h q hq
    refine ⟨?_, h2, h3, asked_line h q hq⟩
    cases q with
    | nil => exact absurd rfl h1
    | cons g q =>
      have := entryL_pos x.width g
      intro e
      have e := congrArg List.length e
      simp only [linesP, List.flatMap_cons, List.length_append, List.length_nil] at e
      omega

/-! ### By the places in the register -/
def linesX (x : Roll) (l : Register) (p : List Nat) : List (List UInt8) := p.flatMap fun q => entryL x.width (List.getD l q g00)
theorem linesX_map (x : Roll) (l : Register) (p : List Nat) : linesP x (p.map fun q => List.getD l q g00) = linesX x l p := by
  simp only [linesP, linesX, List.flatMap_map]
theorem linesX_take {x : Roll} {l : Register} {p : List Nat} {i : Nat} (h : i < p.length) : linesX x l (p.take (i + 1)) = linesX x l (p.take i) ++ entryL x.width (List.getD l p[i] g00) := by
  unfold linesX
  rw [take_succ' h]
  simp only [List.flatMap_append, List.flatMap_cons, List.flatMap_nil, List.append_nil]
theorem linesX_le (x : Roll) (l : Register) (p : List Nat) (i : Nat) : (linesX x l (p.take i)).length ≤ (linesX x l p).length := by
  conv => rhs; rw [← List.take_append_drop i p]
  simp only [linesX, List.flatMap_append, List.length_append]
  omega
theorem askedIx_iff {l : Register} {x : Roll} {ps : List (List Nat)} (h : askedIx l x = some ps) : register l = true ∧ rollOk x = true ∧ (∀ p ∈ ps, ∀ q ∈ p, q < List.length l) ∧ ps.length ≤ 12 ∧ (∀ p ∈ ps, (linesX x l p).length ≤ 20) ∧ asked l x = some (ps.map (·.map fun q => List.getD l q g00)) := by
  have h0 := h
  unfold askedIx at h
  split at h
  · rename_i ha
    simp only [askedOk, Bool.and_eq_true] at ha
    have hf := packs_flat h
    have hc := packs_count h
    have hm : asked l x = some (ps.map (·.map fun q => List.getD l q g00)) := by rw [asked_map, h0]; rfl
    refine ⟨ha.1, ha.2, fun p hp q hq => rollIx_lt (y := x.by_) q ?_, ?_, fun p hp => ?_, hm⟩
    · rw [← hf]; exact List.mem_flatten_of_mem hp hq
    · rw [rollIx_len] at hc
      have := register_len ha.1
      omega
    · have := (asked_page hm (p.map fun q => List.getD l q g00) (List.mem_map_of_mem hp)).2.1
      rwa [linesX_map] at this
  · cases h
theorem pagesL_ix {l : Register} {x : Roll} {ps : List (List Nat)} (h : askedIx l x = some ps) : pagesL l x = ps.map (linesX x l) := by
  rw [pagesL, (askedIx_iff h).2.2.2.2.2]
  simp only [Option.getD_some, List.map_map]
  refine List.map_congr_left fun p _ => linesX_map x l p
theorem pagesL_none {l : Register} {x : Roll} (h : askedIx l x = none) : pagesL l x = [] := by rw [pagesL, asked_map, h]; rfl
theorem textOk_ix (l : Register) (x : Roll) : textOk l x = (askedIx l x).isSome := by rw [textOk, asked_map, Option.isSome_map]
end Go.Proofs.YtbeoijlggphklaaGreatDoor

/- The compact code of the functions, and that it is theirs: written by a program of this claim. -/
namespace Go.Proofs.YtbeoijlggphklaaGreatDoor
open Go.Abs
set_option maxRecDepth 100000
def r_i_Arms_pieces_0 : List CO := [⟨none, (some 1), (.box 15 (.t 0))⟩, ⟨none, (some 2), (.box 5 (.k (.agg [(.v (.string (bs []))), (.v (.string (bs []))), (.v (.string (bs []))), (.v (.string (bs []))), (.v (.bool false))])))⟩]
def r_i_Arms_pieces_1 : List CO := [⟨none, (some 4), (.faddr 0 (.t 1))⟩, ⟨none, (some 5), (.ld true 4 (.t 4))⟩, ⟨none, (some 6), (.call n_i_Field_text [(.t 5)])⟩, ⟨none, (some 7), (.faddr 4 (.t 1))⟩, ⟨none, (some 8), (.ld false 1 (.t 7))⟩, ⟨none, (some 9), (.bin .eql .none (.t 8) (.k (.v (.int .i64 (7)))))⟩, ⟨none, (some 10), (.build (.agg [(.v (.string (bs []))), (.v (.string (bs []))), (.v (.string (bs []))), (.v (.string (bs []))), (.v (.bool false))]) [(0, (1, (.t 6))), (4, (1, (.t 9)))])⟩, ⟨none, (some 3), (.box 5 (.k (.agg [(.v (.string (bs []))), (.v (.string (bs []))), (.v (.string (bs []))), (.v (.string (bs []))), (.v (.bool false))])))⟩, ⟨none, none, (.st 5 (.t 3) (.t 10))⟩]
def p_i_Arms_pieces_1 : List (List Nat) := [[], [0], [0, 1], [], [3], [3, 4], [0, 1, 2, 3, 4, 5], [], [0, 1, 2, 3, 4, 5, 6, 7]]
def r_i_Arms_pieces_2 : List CO := [⟨none, (some 11), (.faddr 4 (.t 1))⟩, ⟨none, (some 12), (.ld false 1 (.t 11))⟩, ⟨none, (some 13), (.bin .neq .none (.t 12) (.k (.v (.int .i64 (0)))))⟩]
def r_i_Arms_pieces_3 : List CO := [⟨none, (some 14), (.faddr 4 (.t 1))⟩, ⟨none, (some 15), (.ld false 1 (.t 14))⟩, ⟨none, (some 16), (.faddr 5 (.t 1))⟩, ⟨none, (some 17), (.ld false 1 (.t 16))⟩, ⟨none, (some 18), (.call n_i_ordinaryStart [(.t 15), (.t 17)])⟩, ⟨none, (some 19), (.bin .add .none (.t 18) (.k (.v (.string (bs [32])))))⟩, ⟨none, (some 20), (.faddr 6 (.t 1))⟩, ⟨none, (some 21), (.ld false 1 (.t 20))⟩, ⟨none, (some 22), (.call n_i_tincture [(.t 21)])⟩, ⟨none, (some 23), (.bin .add .none (.t 19) (.t 22))⟩, ⟨none, (some 24), (.faddr 1 (.t 3))⟩, ⟨none, none, (.st 1 (.t 24) (.t 23))⟩]
def p_i_Arms_pieces_3 : List (List Nat) := [[], [0], [], [2], [0, 1, 2, 3], [0, 1, 2, 3, 4], [], [6], [0, 1, 2, 3, 4, 6, 7], [0, 1, 2, 3, 4, 5, 6, 7, 8], [0, 1, 2, 3, 4, 5, 6, 7, 8, 9], [0, 1, 2, 3, 4, 5, 6, 7, 8, 9, 10]]
def r_i_Arms_pieces_4 : List CO := [⟨none, (some 25), (.faddr 7 (.t 1))⟩, ⟨none, (some 26), (.ld true 4 (.t 25))⟩, ⟨none, (some 27), (.build (.agg [(.v (.int .i64 (0))), (.v (.int .i64 (0))), (.v (.int .i64 (0))), (.v (.int .i64 (0)))]) [])⟩, ⟨none, (some 28), (.bin .neq (.struct [EK.int, EK.int, EK.int, EK.int]) (.t 26) (.t 27))⟩]
def r_i_Arms_pieces_5 : List CO := [⟨none, (some 29), (.faddr 7 (.t 1))⟩, ⟨none, (some 30), (.ld true 4 (.t 29))⟩, ⟨none, (some 31), (.call n_i_Group_text [(.t 30)])⟩, ⟨none, (some 32), (.faddr 2 (.t 3))⟩, ⟨none, none, (.st 1 (.t 32) (.t 31))⟩]
def r_i_Arms_pieces_6 : List CO := [⟨none, (some 33), (.faddr 11 (.t 1))⟩, ⟨none, (some 34), (.ld true 4 (.t 33))⟩, ⟨none, (some 35), (.build (.agg [(.v (.int .i64 (0))), (.v (.int .i64 (0))), (.v (.int .i64 (0))), (.v (.int .i64 (0)))]) [])⟩, ⟨none, (some 36), (.bin .neq (.struct [EK.int, EK.int, EK.int, EK.int]) (.t 34) (.t 35))⟩]
def r_i_Arms_pieces_7 : List CO := [⟨none, (some 37), (.faddr 11 (.t 1))⟩, ⟨none, (some 38), (.ld true 4 (.t 37))⟩, ⟨none, (some 39), (.call n_i_Group_text [(.t 38)])⟩, ⟨none, (some 40), (.faddr 3 (.t 3))⟩, ⟨none, none, (.st 1 (.t 40) (.t 39))⟩]
def r_i_Arms_pieces_8 : List CO := [⟨none, (some 41), (.ld true 5 (.t 3))⟩, ⟨none, none, (.st 5 (.t 2) (.t 41))⟩]
/-- (loop.example/g00884/impl.Arms).pieces -/
def c_i_Arms_pieces : C := (.seq (.reg r_i_Arms_pieces_0 [1, 2]) (.seq (.regD r_i_Arms_pieces_1 p_i_Arms_pieces_1 [1, 2, 3]) (.seq (.seq (.wk (.reg r_i_Arms_pieces_2 [1, 2, 3, 13])) (.cond (.t 13) (.regD r_i_Arms_pieces_3 p_i_Arms_pieces_3 [1, 2, 3]) .skip)) (.seq (.seq (.wk (.reg r_i_Arms_pieces_4 [1, 2, 3, 28])) (.cond (.t 28) (.reg r_i_Arms_pieces_5 [1, 2, 3]) .skip)) (.seq (.seq (.wk (.reg r_i_Arms_pieces_6 [1, 2, 3, 36])) (.cond (.t 36) (.reg r_i_Arms_pieces_7 [2, 3]) .skip)) (.seq (.wk (.reg r_i_Arms_pieces_8 [2])) .ret))))))
def k_i_Arms_pieces : Nat → List Nat
  | 0 => [1, 2]
  | 1 => [1, 2, 3]
  | 2 => [999999, 1, 2, 3, 13]
  | 3 => [1, 2, 3]
  | 4 => [999999, 1, 2, 3, 28]
  | 5 => [1, 2, 3]
  | 6 => [999999, 1, 2, 3, 36]
  | 7 => [2, 3]
  | 8 => [999999, 2]
  | _ => []
theorem fn_i_Arms_pieces : FnC Tryz.prog n_i_Arms_pieces c_i_Arms_pieces [(.cell 2 true 5)] 42 :=
  ⟨Tryz.f146, _, k_i_Arms_pieces, Tryz.func146, rfl, by kernel_rfl, by kernel_rfl, by kernel_rfl, rfl⟩
def r_i_Arms_text_0 : List CO := [⟨none, (some 1), (.box 15 (.t 0))⟩, ⟨none, (some 2), (.mv (.k (.v (.string (bs [])))))⟩]
def r_i_Arms_text_1 : List CO := [⟨none, (some 3), (.ld true 15 (.t 1))⟩, ⟨none, (some 4), (.call n_i_Arms_pieces [(.t 3)])⟩, ⟨none, (some 5), (.call n_i_pieces_joined [(.t 4)])⟩, ⟨none, (some 2), (.mv (.t 5))⟩]
/-- (loop.example/g00884/impl.Arms).text -/
def c_i_Arms_text : C := (.seq (.reg r_i_Arms_text_0 [1]) (.seq (.reg r_i_Arms_text_1 [2]) .ret))
def k_i_Arms_text : Nat → List Nat
  | 0 => [1]
  | 1 => [2]
  | _ => []
theorem fn_i_Arms_text : FnC Tryz.prog n_i_Arms_text c_i_Arms_text [(.tmp 2)] 6 :=
  ⟨Tryz.f102, _, k_i_Arms_text, Tryz.func102, rfl, by kernel_rfl, by kernel_rfl, by kernel_rfl, rfl⟩
end Go.Proofs.YtbeoijlggphklaaGreatDoor

/- The compact code of the functions, and that it is theirs: written by a program of this claim. -/
namespace Go.Proofs.YtbeoijlggphklaaGreatDoor
open Go.Abs
set_option maxRecDepth 100000
def r_i_pieces_joined_0 : List CO := [⟨none, (some 1), (.box 5 (.t 0))⟩, ⟨none, (some 2), (.mv (.k (.v (.string (bs [])))))⟩]
def r_i_pieces_joined_1 : List CO := [⟨none, (some 4), (.faddr 0 (.t 1))⟩, ⟨none, (some 5), (.ld false 1 (.t 4))⟩, ⟨none, (some 3), (.mv (.t 5))⟩]
def r_i_pieces_joined_2 : List CO := [⟨none, (some 7), (.faddr 1 (.t 1))⟩, ⟨none, (some 8), (.ld false 1 (.t 7))⟩, ⟨none, (some 9), (.bin .eql .none (.t 8) (.k (.v (.string (bs [])))))⟩, ⟨none, (some 10), (.mv (.t 9))⟩, ⟨(some (10, true)), (some 11), (.faddr 3 (.t 1))⟩, ⟨(some (10, true)), (some 12), (.ld false 1 (.t 11))⟩, ⟨(some (10, true)), (some 13), (.bin .eql .none (.t 12) (.k (.v (.string (bs [])))))⟩, ⟨none, (some 14), (.pick (.t 10) (.t 13) (.k (.v (.bool false))))⟩, ⟨none, (some 6), (.mv (.t 14))⟩]
def r_i_pieces_joined_3 : List CO := [⟨none, (some 15), (.mv (.t 3))⟩, ⟨none, (some 2), (.mv (.t 15))⟩]
def r_i_pieces_joined_4 : List CO := [⟨none, (some 17), (.faddr 1 (.t 1))⟩, ⟨none, (some 18), (.ld false 1 (.t 17))⟩, ⟨none, (some 19), (.bin .eql .none (.t 18) (.k (.v (.string (bs [])))))⟩, ⟨none, (some 16), (.mv (.t 19))⟩]
def r_i_pieces_joined_5 : List CO := [⟨none, (some 20), (.mv (.t 3))⟩, ⟨none, (some 21), (.bin .add .none (.t 20) (.k (.v (.string (bs [44, 32])))))⟩, ⟨none, (some 22), (.faddr 3 (.t 1))⟩, ⟨none, (some 23), (.ld false 1 (.t 22))⟩, ⟨none, (some 24), (.bin .add .none (.t 21) (.t 23))⟩, ⟨none, (some 2), (.mv (.t 24))⟩]
def r_i_pieces_joined_6 : List CO := [⟨none, (some 25), (.mv (.t 3))⟩, ⟨none, (some 26), (.faddr 1 (.t 1))⟩, ⟨none, (some 27), (.ld false 1 (.t 26))⟩, ⟨none, (some 28), (.bin .add .none (.k (.v (.string (bs [44, 32])))) (.t 27))⟩, ⟨none, (some 29), (.bin .add .none (.t 25) (.t 28))⟩, ⟨none, (some 3), (.mv (.t 29))⟩]
def r_i_pieces_joined_7 : List CO := [⟨none, (some 30), (.faddr 2 (.t 1))⟩, ⟨none, (some 31), (.ld false 1 (.t 30))⟩, ⟨none, (some 32), (.bin .neq .none (.t 31) (.k (.v (.string (bs [])))))⟩]
def r_i_pieces_joined_8 : List CO := [⟨none, (some 33), (.mv (.t 3))⟩, ⟨none, (some 34), (.faddr 2 (.t 1))⟩, ⟨none, (some 35), (.ld false 1 (.t 34))⟩, ⟨none, (some 36), (.bin .add .none (.k (.v (.string (bs [32, 99, 104, 97, 114, 103, 101, 100, 32, 119, 105, 116, 104, 32])))) (.t 35))⟩, ⟨none, (some 37), (.bin .add .none (.t 33) (.t 36))⟩, ⟨none, (some 3), (.mv (.t 37))⟩]
def r_i_pieces_joined_9 : List CO := [⟨none, (some 39), (.faddr 3 (.t 1))⟩, ⟨none, (some 40), (.ld false 1 (.t 39))⟩, ⟨none, (some 41), (.bin .eql .none (.t 40) (.k (.v (.string (bs [])))))⟩, ⟨none, (some 38), (.mv (.t 41))⟩]
def r_i_pieces_joined_10 : List CO := [⟨none, (some 42), (.mv (.t 3))⟩, ⟨none, (some 2), (.mv (.t 42))⟩]
def r_i_pieces_joined_11 : List CO := [⟨none, (some 44), (.faddr 4 (.t 1))⟩, ⟨none, (some 45), (.ld false 1 (.t 44))⟩, ⟨none, (some 43), (.mv (.t 45))⟩]
def r_i_pieces_joined_12 : List CO := [⟨none, (some 46), (.mv (.t 3))⟩, ⟨none, (some 47), (.bin .add .none (.t 46) (.k (.v (.string (bs [32, 97, 98, 111, 118, 101, 32])))))⟩, ⟨none, (some 48), (.faddr 3 (.t 1))⟩, ⟨none, (some 49), (.ld false 1 (.t 48))⟩, ⟨none, (some 50), (.bin .add .none (.t 47) (.t 49))⟩, ⟨none, (some 2), (.mv (.t 50))⟩]
def r_i_pieces_joined_13 : List CO := [⟨none, (some 51), (.mv (.t 3))⟩, ⟨none, (some 52), (.bin .add .none (.t 51) (.k (.v (.string (bs [32, 98, 101, 116, 119, 101, 101, 110, 32])))))⟩, ⟨none, (some 53), (.faddr 3 (.t 1))⟩, ⟨none, (some 54), (.ld false 1 (.t 53))⟩, ⟨none, (some 55), (.bin .add .none (.t 52) (.t 54))⟩, ⟨none, (some 2), (.mv (.t 55))⟩]
/-- (loop.example/g00884/impl.pieces).joined -/
def c_i_pieces_joined : C := (.seq (.reg r_i_pieces_joined_0 [1]) (.seq (.reg r_i_pieces_joined_1 [1, 3]) (.seq (.block 0 (.seq (.reg r_i_pieces_joined_2 [1, 3, 6]) (.cond (.t 6) (.seq (.reg r_i_pieces_joined_3 [2]) .ret) (.seq (.reg r_i_pieces_joined_4 [1, 3, 16]) (.cond (.t 16) (.seq (.reg r_i_pieces_joined_5 [2]) .ret) .skip))))) (.seq (.reg r_i_pieces_joined_6 [1, 3]) (.seq (.seq (.reg r_i_pieces_joined_7 [1, 3, 32]) (.cond (.t 32) (.reg r_i_pieces_joined_8 [1, 3]) .skip)) (.seq (.block 1 (.seq (.reg r_i_pieces_joined_9 [1, 3, 38]) (.cond (.t 38) (.seq (.reg r_i_pieces_joined_10 [2]) .ret) (.seq (.reg r_i_pieces_joined_11 [1, 3, 43]) (.cond (.t 43) (.seq (.reg r_i_pieces_joined_12 [2]) .ret) .skip))))) (.seq (.reg r_i_pieces_joined_13 [2]) .ret)))))))
def k_i_pieces_joined : Nat → List Nat
  | 0 => [1]
  | 1 => [1, 3]
  | 2 => [1, 3, 6]
  | 3 => [2]
  | 4 => [1, 3, 16]
  | 5 => [2]
  | 6 => [1, 3]
  | 7 => [1, 3, 32]
  | 8 => [1, 3]
  | 9 => [1, 3, 38]
  | 10 => [2]
  | 11 => [1, 3, 43]
  | 12 => [2]
  | 13 => [2]
  | _ => []
theorem fn_i_pieces_joined : FnC Tryz.prog n_i_pieces_joined c_i_pieces_joined [(.tmp 2)] 56 :=
  ⟨Tryz.f147, _, k_i_pieces_joined, Tryz.func147, rfl, by kernel_rfl, by kernel_rfl, by kernel_rfl, rfl⟩
end Go.Proofs.YtbeoijlggphklaaGreatDoor

/- The text of arms in the program: pieces, joined. -/
set_option linter.unusedVariables false
set_option linter.unusedSimpArgs false
namespace Go.Proofs.YtbeoijlggphklaaGreatDoor
open Go.Abs

def piecesJ (f o n r : List UInt8) (c : Bool) : List UInt8 :=
  if o = [] then (if r = [] then f else f ++ [44, 32] ++ r) else
    (f ++ ([44, 32] ++ o)) ++ (if n = [] then [] else [32, 99, 104, 97, 114, 103, 101, 100, 32, 119, 105, 116, 104, 32] ++ n) ++ (if r = [] then [] else (if c then [32, 97, 98, 111, 118, 101, 32] else [32, 98, 101, 116, 119, 101, 101, 110, 32]) ++ r)
theorem i_pieces_joined (f o n r : List UInt8) (c : Bool) (hf : f.length ≤ 1000) (ho : o.length ≤ 1000) (hn : n.length ≤ 1000) (hr : r.length ≤ 1000) : PCall Tryz.prog n_i_pieces_joined [.agg [S f, S o, S n, S r, B c]] (S (piecesJ f o n r c)) := by
  refine PCall.of fn_i_pieces_joined (by simp) ?_
  rcases o with _ | ⟨a, o⟩
  · rcases r with _ | ⟨b, r⟩
    · simp [c_i_pieces_joined, r_i_pieces_joined_0, r_i_pieces_joined_1, r_i_pieces_joined_2, r_i_pieces_joined_3, piecesJ]
    · simp [c_i_pieces_joined, r_i_pieces_joined_0, r_i_pieces_joined_1, r_i_pieces_joined_2, r_i_pieces_joined_4, r_i_pieces_joined_5]
      simp at hr
      repeat (refine ⟨by omega, ?_⟩)
      simp [piecesJ]
  · simp at ho
    simp [c_i_pieces_joined, r_i_pieces_joined_0, r_i_pieces_joined_1, r_i_pieces_joined_2, r_i_pieces_joined_4, r_i_pieces_joined_6, r_i_pieces_joined_7]
    repeat (refine ⟨by omega, ?_⟩)
    rcases n with _ | ⟨d, n⟩ <;> rcases r with _ | ⟨b, r⟩ <;> cases c
    all_goals
      simp at hr hn
      simp [r_i_pieces_joined_8, r_i_pieces_joined_9, r_i_pieces_joined_10, r_i_pieces_joined_11, r_i_pieces_joined_12, r_i_pieces_joined_13, piecesJ]
    all_goals
      repeat (refine ⟨by omega, ?_⟩)
      try omega
def ordP (a : Arms) : List UInt8 := if a.ordinary = 0 then [] else ordT a.ordinary a.line ++ 32 :: tincW a.tincture
def grpP (g : Group) : List UInt8 := if g0 g then [] else groupT g
theorem armsT_pieces {a : Arms} (h : arms a = true) : armsT a = piecesJ (fieldT a.field) (ordP a) (grpP a.on) (grpP a.around) (decide (a.ordinary = 7)) := by
  obtain ⟨ho, _, _⟩ := arms_parts h
  have hne : ∀ g, groupT g ≠ [] := fun g => by simp [groupT]
  have hoe : a.ordinary ≠ 0 → ordP a ≠ [] := fun e => by simp [ordP, e]
  unfold armsT piecesJ grpP joinT
  by_cases h0 : a.ordinary = 0
  · have hon := ho.2.2.1 h0
    cases hr : g0 a.around <;> simp [h0, hon, hr, ordP, hne]
  · have := hoe h0
    cases hn : g0 a.on <;> cases hr : g0 a.around <;> by_cases h7 : a.ordinary = 7 <;> simp [h0, h7, ordP, hn, hr, hne, this]
end Go.Proofs.YtbeoijlggphklaaGreatDoor

/- The text of arms in the program, put together. -/
set_option linter.unusedVariables false
set_option linter.unusedSimpArgs false
namespace Go.Proofs.YtbeoijlggphklaaGreatDoor
open Go.Abs

def pieceSt (a : Arms) (f o n r : List UInt8) : AS := ⟨[(1, .ref 1 0 0), (2, .ref 2 0 0), (3, .ref 3 0 0)], [(1, ⟨15, [eArms a]⟩), (2, ⟨5, [.agg [S [], S [], S [], S [], B false]]⟩), (3, ⟨5, [.agg [S f, S o, S n, S r, B (a.ordinary == 7)]]⟩)], []⟩
def pieceSu (a : Arms) (f o n r : List UInt8) : AS := ⟨[(2, .ref 2 0 0), (3, .ref 3 0 0)], [(2, ⟨5, [.agg [S [], S [], S [], S [], B false]]⟩), (3, ⟨5, [.agg [S f, S o, S n, S r, B (a.ordinary == 7)]]⟩)], []⟩
set_option maxHeartbeats 2000000 in
theorem i_Arms_pieces (a : Arms) (h : arms a = true) : PCall Tryz.prog n_i_Arms_pieces [eArms a] (.agg [S (fieldT a.field), S (ordP a), S (grpP a.on), S (grpP a.around), B (a.ordinary == 7)]) := by
  have hf := arms_field h
  obtain ⟨hord, hon, har⟩ := arms_parts h
  have c1 := fieldT_len a.field
  have c2 := ordT_len a.ordinary a.line
  have c3 := tincW_len a.tincture
  have c4 := groupT_len a.on
  have c5 := groupT_len a.around
  refine PCall.of fn_i_Arms_pieces (by simp) ?_
  simp [c_i_Arms_pieces, r_i_Arms_pieces_0, r_i_Arms_pieces_1, p_i_Arms_pieces_1]
  refine callD_v (PCall.arg (i_Field_text a.field hf) (by simp)) ?_ ?_ ?_
  · simp
  · simp
  simp
  refine ⟨oEnd_of (by simp [p_i_Arms_pieces_1]) (by simp), ?_⟩
  refine wk_of (pieceSt a (fieldT a.field) [] [] []) (Wk.list rfl (by simp [pieceSt]) (by simp [pieceSt])) ?_
  simp [pieceSt, r_i_Arms_pieces_2]
  rcases Classical.em (a.ordinary = 0) with h0 | h0
  case' inl =>
    simp [h0]
    refine wk_of (pieceSt a (fieldT a.field) (ordP a) [] []) (Wk.list rfl (by simp [pieceSt, h0, ordP]) (by simp [pieceSt, h0, ordP])) ?_
  case' inr =>
    obtain ⟨hl, ht⟩ := hord.2.2.2 h0
    simp [h0, r_i_Arms_pieces_3, p_i_Arms_pieces_3]
    refine callD_v (PCall.arg (i_ordinaryStart a.ordinary a.line (by omega) hl) (by simp)) ?_ ?_ ?_
    · simp
    · simp
    simp
    repeat (refine ⟨by omega, ?_⟩)
    refine callD_v (PCall.arg (i_tincture a.tincture ht) (by simp)) ?_ ?_ ?_
    · simp
    · simp
    simp
    repeat (refine ⟨by omega, ?_⟩)
    refine ⟨oEnd_of (by simp [p_i_Arms_pieces_3]) (by simp), ?_⟩
    refine wk_of (pieceSt a (fieldT a.field) (ordP a) [] []) (Wk.list rfl (by simp [pieceSt, h0, ordP]) (by simp [pieceSt, h0, ordP])) ?_
  all_goals
    rcases hg : g0 a.on with _ | _
    case' false =>
      have hgn := hon hg
      have hg' : (a.on.count == 0 && (a.on.kind == 0 && (a.on.attitude == 0 && a.on.tincture == 0))) = false := hg
      simp [pieceSt, r_i_Arms_pieces_4, hg']
      simp [r_i_Arms_pieces_5]
      refine callQ_v (PCall.arg (i_Group_text a.on hgn) (by simp)) ?_
      simp
      refine wk_of (pieceSt a (fieldT a.field) (ordP a) (grpP a.on) []) (Wk.list rfl (by simp [pieceSt, grpP, hg]) (by simp [pieceSt, grpP, hg])) ?_
    case' true =>
      have hg' : (a.on.count == 0 && (a.on.kind == 0 && (a.on.attitude == 0 && a.on.tincture == 0))) = true := hg
      simp [pieceSt, r_i_Arms_pieces_4, hg']
      refine wk_of (pieceSt a (fieldT a.field) (ordP a) (grpP a.on) []) (Wk.list rfl (by simp [pieceSt, grpP, hg]) (by simp [pieceSt, grpP, hg])) ?_
    all_goals
      rcases hr : g0 a.around with _ | _
      case' false =>
        have hrn := har hr
        have hr' : (a.around.count == 0 && (a.around.kind == 0 && (a.around.attitude == 0 && a.around.tincture == 0))) = false := hr
        simp [pieceSt, r_i_Arms_pieces_6, hr']
        simp [r_i_Arms_pieces_7]
        refine callQ_v (PCall.arg (i_Group_text a.around hrn) (by simp)) ?_
        simp
        refine wk_of (pieceSu a (fieldT a.field) (ordP a) (grpP a.on) (grpP a.around)) (Wk.list rfl (by simp [pieceSu, grpP, hr]) (by simp [pieceSu, grpP, hr])) ?_
      case' true =>
        have hr' : (a.around.count == 0 && (a.around.kind == 0 && (a.around.attitude == 0 && a.around.tincture == 0))) = true := hr
        simp [pieceSt, r_i_Arms_pieces_6, hr']
        refine wk_of (pieceSu a (fieldT a.field) (ordP a) (grpP a.on) (grpP a.around)) (Wk.list rfl (by simp [pieceSu, grpP, hr]) (by simp [pieceSu, grpP, hr])) ?_
      all_goals
        simp [pieceSu, r_i_Arms_pieces_8]
theorem ordP_len (a : Arms) : (ordP a).length ≤ 50 := by
  have c2 := ordT_len a.ordinary a.line
  have c3 := tincW_len a.tincture
  unfold ordP
  split
  · simp
  · simp; omega
theorem grpP_len (g : Group) : (grpP g).length ≤ 60 := by
  have := groupT_len g
  unfold grpP
  split
  · simp
  · omega
theorem i_Arms_text (a : Arms) (h : arms a = true) : PCall Tryz.prog n_i_Arms_text [eArms a] (S (armsT a)) := by
  have e7 : (a.ordinary == 7) = decide (a.ordinary = 7) := by rw [Bool.eq_iff_iff]; simp
  have c1 := fieldT_len a.field
  have c2 := ordP_len a
  have c3 := grpP_len a.on
  have c4 := grpP_len a.around
  have hp := i_pieces_joined (fieldT a.field) (ordP a) (grpP a.on) (grpP a.around) (a.ordinary == 7) (by omega) (by omega) (by omega) (by omega)
  rw [armsT_pieces h, ← e7]
  refine PCall.of fn_i_Arms_text (by simp) ?_
  simp [c_i_Arms_text, r_i_Arms_text_0, r_i_Arms_text_1]
  refine callQ_of (PCall.arg (i_Arms_pieces a h) (by simp)) rfl (.inl (by simp)) (by simp) ?_
  simp
  refine callQ_v (PCall.arg hp (by simp)) ?_
  simp
end Go.Proofs.YtbeoijlggphklaaGreatDoor

/- The compact code of the functions, and that it is theirs: written by a program of this claim. -/
namespace Go.Proofs.YtbeoijlggphklaaGreatDoor
open Go.Abs
set_option maxRecDepth 100000
def r_s_l1Num_0 : List CO := [⟨none, (some 2), (.mv (.k (.v (.string (bs [])))))⟩]
def r_s_l1Num_1 : List CO := [⟨none, (some 3), (.mv (.t 0))⟩, ⟨none, (some 4), (.bin .lss .none (.t 3) (.k (.v (.int .i64 (0)))))⟩]
def r_s_l1Num_2 : List CO := [⟨none, (some 5), (.mv (.t 0))⟩, ⟨none, (some 6), (.un .neg (.t 5))⟩, ⟨none, (some 7), (.call n_s_l1Num [(.t 6)])⟩, ⟨none, (some 8), (.bin .add .none (.k (.v (.string (bs [45])))) (.t 7))⟩, ⟨none, (some 2), (.mv (.t 8))⟩]
def r_s_l1Num_3 : List CO := [⟨none, (some 9), (.mv (.t 0))⟩, ⟨none, (some 10), (.bin .lss .none (.t 9) (.k (.v (.int .i64 (10)))))⟩]
def r_s_l1Num_4 : List CO := [⟨none, (some 11), (.mv (.t 0))⟩, ⟨none, (some 12), (.mv (.t 0))⟩, ⟨none, (some 13), (.bin .add .none (.t 12) (.k (.v (.int .i64 (1)))))⟩, ⟨none, (some 14), (.slc none (.k (.v (.string (bs [48, 49, 50, 51, 52, 53, 54, 55, 56, 57])))) (some (.t 11)) (some (.t 13)))⟩, ⟨none, (some 2), (.mv (.t 14))⟩]
def r_s_l1Num_5 : List CO := [⟨none, (some 15), (.mv (.t 0))⟩, ⟨none, (some 16), (.bin .quo .none (.t 15) (.k (.v (.int .i64 (10)))))⟩, ⟨none, (some 17), (.call n_s_l1Num [(.t 16)])⟩, ⟨none, (some 18), (.mv (.t 0))⟩, ⟨none, (some 19), (.bin .rem .none (.t 18) (.k (.v (.int .i64 (10)))))⟩, ⟨none, (some 20), (.mv (.t 0))⟩, ⟨none, (some 21), (.bin .rem .none (.t 20) (.k (.v (.int .i64 (10)))))⟩, ⟨none, (some 22), (.bin .add .none (.t 21) (.k (.v (.int .i64 (1)))))⟩, ⟨none, (some 23), (.slc none (.k (.v (.string (bs [48, 49, 50, 51, 52, 53, 54, 55, 56, 57])))) (some (.t 19)) (some (.t 22)))⟩, ⟨none, (some 24), (.bin .add .none (.t 17) (.t 23))⟩, ⟨none, (some 2), (.mv (.t 24))⟩]
def p_s_l1Num_5 : List (List Nat) := [[], [0], [0, 1], [], [3], [], [5], [5, 6], [3, 4, 5, 6, 7], [0, 1, 2, 3, 4, 5, 6, 7, 8], [0, 1, 2, 3, 4, 5, 6, 7, 8, 9]]
/-- loop.example/g00884/spec.l1Num -/
def c_s_l1Num : C := (.seq (.reg r_s_l1Num_0 [0]) (.seq (.seq (.reg r_s_l1Num_1 [0, 4]) (.cond (.t 4) (.seq (.reg r_s_l1Num_2 [2]) .ret) .skip)) (.seq (.seq (.reg r_s_l1Num_3 [0, 10]) (.cond (.t 10) (.seq (.reg r_s_l1Num_4 [2]) .ret) .skip)) (.seq (.regD r_s_l1Num_5 p_s_l1Num_5 [2]) .ret))))
def k_s_l1Num : Nat → List Nat
  | 0 => [0]
  | 1 => [0, 4]
  | 2 => [2]
  | 3 => [0, 10]
  | 4 => [2]
  | 5 => [2]
  | _ => []
theorem fn_s_l1Num : FnC Tryz.prog n_s_l1Num c_s_l1Num [(.tmp 2)] 25 :=
  ⟨Tryz.f63, _, k_s_l1Num, Tryz.func63, rfl, by kernel_rfl, by kernel_rfl, by kernel_rfl, rfl⟩
end Go.Proofs.YtbeoijlggphklaaGreatDoor

/- Numbers as texts, in the program's library and in the reference. -/
set_option linter.unusedVariables false
set_option linter.unusedSimpArgs false
namespace Go.Proofs.YtbeoijlggphklaaGreatDoor
open Go.Abs

theorem s_l1Num (n : Nat) : n ≤ 1000000000 → PCall Tryz.prog n_s_l1Num [I n] (S (digits n)) := by
  induction n using Nat.strongRecOn with
  | _ n ih =>
    intro hn
    refine PCall.of fn_s_l1Num (by simp) ?_
    simp [c_s_l1Num, r_s_l1Num_0, r_s_l1Num_1, show ¬ (n : Int) < 0 by omega]
    simp [r_s_l1Num_3]
    refine ⟨fun h => ?_, fun h => ?_⟩
    · simp [r_s_l1Num_4]
      rw [wrap64 (by omega) (by omega)]
      have hd := dig_slice (i := n) (by omega)
      refine ⟨by omega, ?_⟩
      rw [show ((n : Int) + 1).toNat - n = 1 by omega, hd, digits_small (by omega)]
    · have e1 : IntKind.i64.wrap ((n : Int) / 10) = ((n / 10 : Nat) : Int) := by rw [wrap64 (by omega) (by omega)]; omega
      have e2 : (n : Int).tmod 10 = ((n % 10 : Nat) : Int) := by rw [Int.tmod_eq_emod_of_nonneg (by omega)]; omega
      have hl := digits_le (n / 10)
      have hd := dig_slice (i := n % 10) (by omega)
      simp [r_s_l1Num_5, p_s_l1Num_5]
      rw [e1]
      refine callD_v (ih (n / 10) (by omega) (by omega)) ?_ ?_ ?_
      · simp
      · simp
      simp
      obtain ⟨m, hm, hmn⟩ : ∃ m, m < 10 ∧ n % 10 = m := ⟨n % 10, by omega, rfl⟩
      rw [hmn] at e2 hd
      rw [e2, wrap64 (by omega) (by omega), show ((m : Int) + 1).toNat - (m : Int).toNat = 1 by omega, show (m : Int).toNat = m by omega, hd]
      refine ⟨by omega, by omega, oEnd_of (by first | kernel_rfl | simp) (by first | kernel_rfl | simp), ?_⟩
      rw [digits_big (n := n) (by omega), hmn]

theorem strconv_Itoa (n : Nat) (h : n ≤ 1000000000) : PCall Tryz.prog n_strconv_Itoa [I n] (S (digits n)) := by
  have e : Lib.itoa (n : Int) = digits n := by
    unfold Lib.itoa
    rw [if_neg (by omega)]
    rfl
  refine PCall.grown (vs := [.int .i64 n]) (y := .string (bs (digits n))) (by kernel_rfl) (fun _ _ => CV_mkv ?_) (fun w D hg => ?_)
  · have := digits_le n
    show decide _ = true
    simp; omega
  · have := Tryz.strconv_Itoa n (by omega) (by omega) w hg.1
    rw [e] at this
    exact this
end Go.Proofs.YtbeoijlggphklaaGreatDoor

/- Entries of a roll: program, reference. -/
set_option linter.unusedVariables false
set_option linter.unusedSimpArgs false
namespace Go.Proofs.YtbeoijlggphklaaGreatDoor
open Go.Abs

theorem itoa_int (x : Int) (h : 0 ≤ x ∧ x ≤ 1000000000) : PCall Tryz.prog n_strconv_Itoa [I x] (S (digits x.toNat)) :=
  PCall.arg (strconv_Itoa x.toNat (by omega)) (by rw [Int.toNat_of_nonneg h.1])
theorem l1Num_int (x : Int) (h : 0 ≤ x ∧ x ≤ 1000000000) : PCall Tryz.prog n_s_l1Num [I x] (S (digits x.toNat)) :=
  PCall.arg (s_l1Num x.toNat (by omega)) (by rw [Int.toNat_of_nonneg h.1])
/-- The first lines of an entry. -/
def entA (w : Int) (g : Grant) (i : Nat) : List (List UInt8) := headT g :: ((fill (w - 2) (parts 32 (armsT g.arms))).take i).map fun x => [32, 32] ++ x
theorem entA_succ {w : Int} {g : Grant} {i : Nat} (h : i < (fill (w - 2) (parts 32 (armsT g.arms))).length) : entA w g (i + 1) = entA w g i ++ [[32, 32] ++ (fill (w - 2) (parts 32 (armsT g.arms)))[i]] := by
  unfold entA
  rw [take_succ' h, List.map_append]; rfl
theorem entA_len {w : Int} {g : Grant} {i : Nat} (h : i ≤ (fill (w - 2) (parts 32 (armsT g.arms))).length) : (entA w g i).length = i + 1 := by
  simp only [entA, List.length_cons, List.length_map, List.length_take]; omega
theorem entA_all (w : Int) (g : Grant) : entA w g (fill (w - 2) (parts 32 (armsT g.arms))).length = entryL w g := by rw [entA, List.take_length]; rfl
set_option maxHeartbeats 1000000 in
theorem i_entry (g : Grant) (w : Int) (hg : grantOk g = true) (hw : 20 ≤ w ∧ w ≤ 60) : PCall Tryz.prog n_i_entry [eGrant g, I w] (.own 1 ((entryL w g).map S)) := by
  obtain ⟨h1, h2, h3, h4⟩ := grantOk_iff hg
  have hnl := nameOk_len h2
  have d1 := digits_len 3 g.number.toNat (by omega)
  have d2 := digits_len 3 g.year.toNat (by omega)
  have ht := armsT_len g.arms
  refine PCall.of fn_i_entry (by simp) ?_
  simp [c_i_entry, r_i_entry_0, r_i_entry_1, p_i_entry_1]
  refine callD_v (PCall.arg (itoa_int g.number (by omega)) (by simp)) ?_ ?_ ?_
  · simp
  · simp
  simp
  repeat (refine ⟨by omega, ?_⟩)
  refine callD_v (PCall.arg (itoa_int g.year (by omega)) (by simp)) ?_ ?_ ?_
  · simp
  · simp
  simp
  repeat (refine ⟨by omega, ?_⟩)
  refine ⟨oEnd_of (by simp [p_i_entry_1]) (by simp), ?_⟩
  simp [r_i_entry_2]
  refine callQ_v (PCall.arg (i_Arms_text g.arms h4) (by simp)) ?_
  simp
  rw [wrap64 (n := w - 2) (by omega) (by omega)]
  refine callQ_of (PCall.arg (i_wrapped (armsT g.arms) (w - 2) (by omega) (by omega)) (by simp)) rfl (.inl (by simp)) (by simp) ?_
  have hfs := fill_short (a := g.arms) (w := w - 2) (by omega)
  have hfl := fill_len (w - 2) (parts 32 (armsT g.arms))
  have hpl := armsT_words g.arms
  have hes := @entA_succ w g
  have hel := @entA_len w g
  have hea := entA_all w g
  have he0 : entA w g 0 = [headT g] := rfl
  rw [← hea]
  generalize fill (w - 2) (parts 32 (armsT g.arms)) = L at hfs hfl hes hel hea ⊢
  simp
  refine loopK (fun i : Nat => ⟨[(5, .sl 20 0 (i + 1)), (26, .sl 26 0 L.length), (27, I L.length), (28, I i)], [(26, ⟨1, L.map S⟩), (20, ⟨1, (entA w g i).map S⟩)], []⟩) (fun i => L.length - i) (fun i => i ≤ L.length) 0 (Wk.list rfl (by simp) (by simp [he0, headT])) (by simp) ?_
  intro i hi K hN hR hE
  have hli := hel hi
  simp [l_i_entry_7, r_i_entry_3]
  refine ⟨fun hlt => ?_, fun hge => ?_⟩
  · have hx := hfs L[i] (List.getElem_mem _)
    have hsx := hes hlt
    have ht1 : List.take (i + 1) (List.map S (entA w g i)) = List.map S (entA w g i) := List.take_of_length_le (by rw [List.length_map, hli]; omega)
    simp [r_i_entry_4, hlt]
    simp [r_i_entry_5, r_i_entry_6, hli, ht1]
    refine ⟨by omega, by unfold lenBound; omega, ?_⟩
    rw [wrap64 (by omega) (by omega)]
    refine hN (i + 1) _ (by omega) (by omega) (Wk.trans (Wk.ren 36 20 (by decide) (by simp)) (Wk.list rfl ?_ ?_))
    · simp [AS.ren, ren, reN]
    · simp [AS.ren, ren, reN, renB, hsx]
  · obtain rfl : i = L.length := by omega
    refine hE _ _ ?_
    simp only [blockK_exit]
    simp [r_i_entry_8, hli]
end Go.Proofs.YtbeoijlggphklaaGreatDoor

/- Entries of a roll in the reference. -/
set_option linter.unusedVariables false
set_option linter.unusedSimpArgs false
namespace Go.Proofs.YtbeoijlggphklaaGreatDoor
open Go.Abs

def SpecAt (W : Int) (h : List UInt8) (L out : List (List UInt8)) (cur : List UInt8) (i : Nat) : Prop :=
  (i = 0 ∧ cur = [] ∧ out = [h]) ∨ (0 < i ∧ cur ≠ [] ∧ ∃ done, out = h :: done.map (fun x => [32, 32] ++ x) ∧ fill W L = done ++ fillGo W cur (L.drop i))
section
variable {W : Int} {h cur : List UInt8} {L out : List (List UInt8)} {i : Nat}
theorem SpecAt.first (s : SpecAt W h L out [] i) (hi : i < L.length) (hx : L[i] ≠ []) : SpecAt W h L out L[i] (i + 1) := by
  rcases s with ⟨rfl, _, rfl⟩ | ⟨_, h, _⟩
  · refine .inr ⟨by omega, hx, [], rfl, ?_⟩
    cases L with
    | nil => simp at hi
    | cons x L => rfl
  · exact absurd rfl h
theorem SpecAt.fit (s : SpecAt W h L out cur i) (hc : cur ≠ []) (hi : i < L.length) (hf : (cur.length : Int) + 1 + L[i].length ≤ W) : SpecAt W h L out (cur ++ 32 :: L[i]) (i + 1) := by
  rcases s with ⟨_, h, _⟩ | ⟨h0, _, done, e, hd⟩
  · exact absurd h hc
  · exact .inr ⟨by omega, by simp, done, e, by rw [hd, List.drop_eq_getElem_cons hi, fillGo, if_pos hf]⟩
theorem SpecAt.next (s : SpecAt W h L out cur i) (hc : cur ≠ []) (hi : i < L.length) (hx : L[i] ≠ []) (hf : ¬ (cur.length : Int) + 1 + L[i].length ≤ W) : SpecAt W h L (out ++ [[32, 32] ++ cur]) L[i] (i + 1) := by
  rcases s with ⟨_, h, _⟩ | ⟨h0, _, done, e, hd⟩
  · exact absurd h hc
  · exact .inr ⟨by omega, hx, done ++ [cur], by rw [e]; simp, by rw [hd, List.drop_eq_getElem_cons hi, fillGo, if_neg hf]; simp⟩
theorem SpecAt.done (s : SpecAt W h L out cur L.length) (hL : 0 < L.length) : out ++ [[32, 32] ++ cur] = h :: (fill W L).map fun x => [32, 32] ++ x := by
  rcases s with ⟨h0, _⟩ | ⟨h0, _, done, e, hd⟩
  · omega
  · rw [hd, e, List.drop_length, fillGo]; simp
end
set_option maxHeartbeats 1000000 in
theorem s_l25Lines (g : Grant) (w : Int) (hg : grantOk g = true) (hw : 20 ≤ w ∧ w ≤ 60) : PCall Tryz.prog n_s_l25Lines [eGrant g, I w] (.own 1 ((entryL w g).map S)) := by
  obtain ⟨h1, h2, h3, h4⟩ := grantOk_iff hg
  have hnl := nameOk_len h2
  have d1 := digits_len 3 g.number.toNat (by omega)
  have d2 := digits_len 3 g.year.toNat (by omega)
  have ht := armsT_len g.arms
  refine PCall.of fn_s_l25Lines (by simp) ?_
  simp [c_s_l25Lines, r_s_l25Lines_0, r_s_l25Lines_1, p_s_l25Lines_1]
  refine callD_v (PCall.arg (l1Num_int g.number (by omega)) (by simp)) ?_ ?_ ?_
  · simp
  · simp
  simp
  repeat (refine ⟨by omega, ?_⟩)
  refine callD_v (PCall.arg (l1Num_int g.year (by omega)) (by simp)) ?_ ?_ ?_
  · simp
  · simp
  simp
  repeat (refine ⟨by omega, ?_⟩)
  refine ⟨oEnd_of (by simp [p_s_l25Lines_1]) (by simp), ?_⟩
  simp [r_s_l25Lines_2]
  refine callQ_v (PCall.arg (s_l6Text g.arms h4) (by simp)) ?_
  simp
  refine callQ_of (PCall.arg (s_l1Split (armsT g.arms) 32 (by omega)) (by simp)) rfl (.inl (by simp)) (by simp) ?_
  have hne := neat_ne (neat_arms h4)
  have hpl := armsT_words g.arms
  have hsh : ∀ x ∈ parts 32 (armsT g.arms), x.length ≤ 1000 := fun x hx => by have := parts_less hx; omega
  have hp0 : 0 < (parts 32 (armsT g.arms)).length := List.length_pos_iff.2 (parts_ne _)
  have hE : entryL w g = headT g :: (fill (w - 2) (parts 32 (armsT g.arms))).map (fun x => [32, 32] ++ x) := rfl
  have hH : headT g = digits g.number.toNat ++ [46, 32] ++ g.name ++ [44, 32] ++ digits g.year.toNat := rfl
  rw [hE]
  generalize parts 32 (armsT g.arms) = L at hne hpl hsh hp0 ⊢
  simp [r_s_l25Lines_3, r_s_l25Lines_4]
  refine loopK (fun p : List (List UInt8) × List UInt8 × Nat => ⟨[(1, I w), (5, .sl 21 0 p.1.length), (6, .sl 25 0 L.length), (7, S p.2.1), (8, I p.2.2)], [(21, ⟨1, p.1.map S⟩), (25, ⟨1, L.map S⟩)], []⟩) (fun p => L.length - p.2.2) (fun p => p.2.2 ≤ L.length ∧ p.1.length ≤ p.2.2 + 1 ∧ p.2.1.length ≤ 1000 ∧ SpecAt (w - 2) (headT g) L p.1 p.2.1 p.2.2) ([headT g], [], 0) (Wk.list rfl (by simp) (by simp [hH])) (by simp [SpecAt]) ?_
  rintro ⟨out, cur, i⟩ ⟨hi, hol, hcl, hsp⟩ K hN hR hE
  dsimp only at hi hol hcl hsp ⊢
  simp [l_s_l25Lines_13, r_s_l25Lines_5]
  refine ⟨fun hlt => ?_, fun hge => ?_⟩
  · have hx := hsh L[i] (List.getElem_mem _)
    have hxn := hne L[i] (List.getElem_mem _)
    by_cases hc : cur = []
    · subst hc
      simp [r_s_l25Lines_6, r_s_l25Lines_7, hlt]
      simp [r_s_l25Lines_12]
      rw [wrap64 (by omega) (by omega)]
      exact hN (out, L[i], i + 1) _ (by dsimp only; omega) ⟨by dsimp only; omega, by dsimp only; omega, hx, hsp.first hlt hxn⟩ (Wk.list rfl (by simp) (by simp))
    · simp [r_s_l25Lines_6, hc]
      simp [r_s_l25Lines_8, hlt]
      rw [wrap64 (n := (cur.length : Int) + 1) (by omega) (by omega), wrap64 (n := (cur.length : Int) + 1 + _) (by omega) (by omega), wrap64 (n := w - 2) (by omega) (by omega)]
      refine ⟨fun hf => ?_, fun hf => ?_⟩
      · simp [r_s_l25Lines_9, hlt]
        refine ⟨by omega, by omega, ?_⟩
        simp [r_s_l25Lines_12]
        rw [wrap64 (by omega) (by omega)]
        exact hN (out, cur ++ 32 :: L[i], i + 1) _ (by dsimp only; omega) ⟨by dsimp only; omega, by dsimp only; omega, by simp; omega, hsp.fit hc hlt hf⟩ (Wk.list rfl (by simp) (by simp))
      · simp [r_s_l25Lines_10]
        refine ⟨by omega, by unfold lenBound; omega, ?_⟩
        simp [r_s_l25Lines_11, hlt]
        simp [r_s_l25Lines_12]
        rw [wrap64 (by omega) (by omega)]
        have hT : ∀ s, Wk s ⟨[(1, I w), (5, .sl 36 0 (out.length + 1)), (6, .sl 25 0 L.length), (7, S L[i]), (8, I ((i : Int) + 1))], [(36, ⟨1, (out ++ [[32, 32] ++ cur]).map S⟩), (25, ⟨1, L.map S⟩)], []⟩ → Wk s ⟨[(1, I w), (5, .sl 21 0 (out ++ [[32, 32] ++ cur]).length), (6, .sl 25 0 L.length), (7, S L[i]), (8, I ((i + 1 : Nat) : Int))], [(21, ⟨1, (out ++ [[32, 32] ++ cur]).map S⟩), (25, ⟨1, L.map S⟩)], []⟩ :=
          fun s h => Wk.trans h <| Wk.trans (Wk.ren 36 21 (by decide) (by simp)) (Wk.list rfl (by simp [AS.ren, ren, reN]) (by simp [AS.ren, ren, reN, renB]))
        exact hN (out ++ [[32, 32] ++ cur], L[i], i + 1) _ (by dsimp only; omega) ⟨by dsimp only; omega, by simp; omega, hx, hsp.next hc hlt hxn (by omega)⟩ (hT _ (Wk.list rfl (by simp) (by simp)))
  · obtain rfl : i = L.length := by omega
    have hd := congrArg (List.map S) (hsp.done hp0)
    have hlen := congrArg List.length (hsp.done hp0)
    simp at hlen
    refine hE _ _ ?_
    simp only [blockK_exit]
    simp at hd
    simp [r_s_l25Lines_14, hd]
    exact ⟨by omega, by unfold lenBound; omega⟩
end Go.Proofs.YtbeoijlggphklaaGreatDoor

/- The compact code of the functions, and that it is theirs: written by a program of this claim. -/
namespace Go.Proofs.YtbeoijlggphklaaGreatDoor
open Go.Abs
set_option maxRecDepth 100000
def r_i_IsValidRoll_0 : List CO := [⟨none, (some 1), (.box 3 (.t 0))⟩, ⟨none, (some 2), (.mv (.k (.v (.bool false))))⟩]
def r_i_IsValidRoll_1 : List CO := [⟨none, (some 3), (.faddr 0 (.t 1))⟩, ⟨none, (some 4), (.ld false 1 (.t 3))⟩, ⟨none, (some 5), (.call n_i_inside [(.t 4), (.k (.v (.int .i64 (1)))), (.k (.v (.int .i64 (3))))])⟩, ⟨none, (some 6), (.mv (.t 5))⟩, ⟨(some (6, true)), (some 7), (.faddr 1 (.t 1))⟩, ⟨(some (6, true)), (some 8), (.ld false 1 (.t 7))⟩, ⟨(some (6, true)), (some 9), (.call n_i_inside [(.t 8), (.k (.v (.int .i64 (20)))), (.k (.v (.int .i64 (60))))])⟩, ⟨none, (some 10), (.pick (.t 6) (.t 9) (.k (.v (.bool false))))⟩, ⟨none, (some 11), (.mv (.t 10))⟩, ⟨(some (11, true)), (some 12), (.faddr 2 (.t 1))⟩, ⟨(some (11, true)), (some 13), (.ld false 1 (.t 12))⟩, ⟨(some (11, true)), (some 14), (.call n_i_inside [(.t 13), (.k (.v (.int .i64 (4)))), (.k (.v (.int .i64 (20))))])⟩, ⟨none, (some 15), (.pick (.t 11) (.t 14) (.k (.v (.bool false))))⟩, ⟨none, (some 2), (.mv (.t 15))⟩]
/-- loop.example/g00884/impl.IsValidRoll -/
def c_i_IsValidRoll : C := (.seq (.reg r_i_IsValidRoll_0 [1]) (.seq (.reg r_i_IsValidRoll_1 [2]) .ret))
def k_i_IsValidRoll : Nat → List Nat
  | 0 => [1]
  | 1 => [2]
  | _ => []
theorem fn_i_IsValidRoll : FnC Tryz.prog n_i_IsValidRoll c_i_IsValidRoll [(.tmp 2)] 16 :=
  ⟨Tryz.f108, _, k_i_IsValidRoll, Tryz.func108, rfl, by kernel_rfl, by kernel_rfl, by kernel_rfl, rfl⟩
def r_i_paged_0 : List CO := [⟨none, (some 2), (.box 1 (.t 0))⟩, ⟨none, (some 3), (.box 3 (.t 1))⟩, ⟨none, (some 4), (.mv (.k (.v (.slice none 0 0))))⟩, ⟨none, (some 5), (.mv (.k (.v (.slice none 0 0))))⟩, ⟨none, (some 6), (.mv (.k (.v (.bool false))))⟩]
def r_i_paged_1 : List CO := [⟨none, (some 14), (.ld true 1 (.t 2))⟩, ⟨none, (some 15), (.call n_i_IsValidRegister [(.t 14)])⟩, ⟨none, (some 16), (.un .not (.t 15))⟩, ⟨none, (some 17), (.mv (.t 16))⟩, ⟨(some (17, false)), (some 18), (.ld true 3 (.t 3))⟩, ⟨(some (17, false)), (some 19), (.call n_i_IsValidRoll [(.t 18)])⟩, ⟨(some (17, false)), (some 20), (.un .not (.t 19))⟩, ⟨none, (some 21), (.pick (.t 17) (.k (.v (.bool true))) (.t 20))⟩]
def r_i_paged_2 : List CO := [⟨none, (some 4), (.mv (.k (.v (.slice none 0 0))))⟩, ⟨none, (some 5), (.mv (.k (.v (.slice none 0 0))))⟩, ⟨none, (some 6), (.mv (.k (.v (.bool false))))⟩]
def r_i_paged_3 : List CO := [⟨none, (some 22), (.bslice 1 (.v (.slice none 0 0)) 0 [])⟩, ⟨none, (some 23), (.bslice 1 (.v (.int .i64 (0))) 0 [])⟩, ⟨none, (some 7), (.mv (.t 22))⟩, ⟨none, (some 8), (.mv (.t 23))⟩]
def r_i_paged_4 : List CO := [⟨none, (some 24), (.ld true 1 (.t 2))⟩, ⟨none, (some 25), (.faddr 0 (.t 3))⟩, ⟨none, (some 26), (.ld false 1 (.t 25))⟩, ⟨none, (some 27), (.call n_i_Register_ordered [(.t 24), (.t 26)])⟩, ⟨none, (some 28), (.len false (.t 27))⟩, ⟨none, (some 29), (.mv (.k (.v (.int .i64 (0)))))⟩]
def r_i_paged_5 : List CO := [⟨none, (some 30), (.bin .lss .none (.t 29) (.t 28))⟩]
def r_i_paged_6 : List CO := [⟨none, (some 31), (.iaddr 18 (.t 27) (.t 29))⟩, ⟨none, (some 32), (.ld true 18 (.t 31))⟩, ⟨none, (some 10), (.box 18 (.k (.agg [(.v (.int .i64 (0))), (.v (.string (bs []))), (.v (.int .i64 (0))), (.v (.int .i64 (0))), (.v (.int .i64 (0))), (.v (.int .i64 (0))), (.v (.int .i64 (0))), (.v (.int .i64 (0))), (.v (.int .i64 (0))), (.v (.int .i64 (0))), (.v (.int .i64 (0))), (.v (.int .i64 (0))), (.v (.int .i64 (0))), (.v (.int .i64 (0))), (.v (.int .i64 (0))), (.v (.int .i64 (0))), (.v (.int .i64 (0))), (.v (.int .i64 (0)))])))⟩, ⟨none, none, (.st 18 (.t 10) (.t 32))⟩]
def r_i_paged_7 : List CO := [⟨none, (some 33), (.ld true 18 (.t 10))⟩, ⟨none, (some 34), (.faddr 1 (.t 3))⟩, ⟨none, (some 35), (.ld false 1 (.t 34))⟩, ⟨none, (some 36), (.call n_i_entry [(.t 33), (.t 35)])⟩, ⟨none, (some 11), (.mv (.t 36))⟩]
def r_i_paged_8 : List CO := [⟨none, (some 37), (.mv (.t 11))⟩, ⟨none, (some 38), (.len false (.t 37))⟩, ⟨none, (some 39), (.faddr 2 (.t 3))⟩, ⟨none, (some 40), (.ld false 1 (.t 39))⟩, ⟨none, (some 41), (.bin .gtr .none (.t 38) (.t 40))⟩]
def r_i_paged_9 : List CO := [⟨none, (some 4), (.mv (.k (.v (.slice none 0 0))))⟩, ⟨none, (some 5), (.mv (.k (.v (.slice none 0 0))))⟩, ⟨none, (some 6), (.mv (.k (.v (.bool false))))⟩]
def r_i_paged_10 : List CO := [⟨none, (some 42), (.mv (.t 7))⟩, ⟨none, (some 43), (.len false (.t 42))⟩, ⟨none, (some 12), (.mv (.t 43))⟩]
def r_i_paged_11 : List CO := [⟨none, (some 44), (.mv (.t 12))⟩, ⟨none, (some 45), (.bin .eql .none (.t 44) (.k (.v (.int .i64 (0)))))⟩, ⟨none, (some 46), (.mv (.t 45))⟩, ⟨(some (46, false)), (some 47), (.mv (.t 7))⟩, ⟨(some (46, false)), (some 48), (.mv (.t 12))⟩, ⟨(some (46, false)), (some 49), (.bin .sub .none (.t 48) (.k (.v (.int .i64 (1)))))⟩, ⟨(some (46, false)), (some 50), (.iaddr 1 (.t 47) (.t 49))⟩, ⟨(some (46, false)), (some 51), (.ld false 1 (.t 50))⟩, ⟨(some (46, false)), (some 52), (.len false (.t 51))⟩, ⟨(some (46, false)), (some 53), (.mv (.t 11))⟩, ⟨(some (46, false)), (some 54), (.len false (.t 53))⟩, ⟨(some (46, false)), (some 55), (.bin .add .none (.t 52) (.t 54))⟩, ⟨(some (46, false)), (some 56), (.faddr 2 (.t 3))⟩, ⟨(some (46, false)), (some 57), (.ld false 1 (.t 56))⟩, ⟨(some (46, false)), (some 58), (.bin .gtr .none (.t 55) (.t 57))⟩, ⟨none, (some 59), (.pick (.t 46) (.k (.v (.bool true))) (.t 58))⟩]
def p_i_paged_11 : List (List Nat) := [[], [0], [0, 1], [0, 1, 2], [0, 1, 2], [0, 1, 2, 4], [0, 1, 2, 3, 4, 5], [0, 1, 2, 3, 4, 5, 6], [0, 1, 2, 3, 4, 5, 6, 7], [0, 1, 2], [0, 1, 2, 9], [0, 1, 2, 3, 4, 5, 6, 7, 8, 9, 10], [0, 1, 2], [0, 1, 2, 12], [0, 1, 2, 3, 4, 5, 6, 7, 8, 9, 10, 11, 12, 13], [0, 1, 2, 3, 4, 5, 6, 7, 8, 9, 10, 11, 12, 13, 14]]
def r_i_paged_12 : List CO := [⟨none, (some 60), (.mv (.t 7))⟩, ⟨none, (some 61), (.bslice 1 (.v (.slice none 0 0)) 1 [(0, (.k (.v (.slice none 0 0))))])⟩, ⟨none, (some 62), (.app 1 24 (.t 60) (.t 61))⟩, ⟨none, (some 7), (.mv (.t 62))⟩]
def r_i_paged_13 : List CO := [⟨none, (some 63), (.mv (.t 7))⟩, ⟨none, (some 64), (.len false (.t 63))⟩, ⟨none, (some 65), (.bin .sub .none (.t 64) (.k (.v (.int .i64 (1)))))⟩, ⟨none, (some 13), (.mv (.t 65))⟩]
def r_i_paged_14 : List CO := [⟨none, (some 66), (.mv (.t 7))⟩, ⟨none, (some 67), (.mv (.t 13))⟩, ⟨none, (some 68), (.mv (.t 7))⟩, ⟨none, (some 69), (.mv (.t 13))⟩, ⟨none, (some 70), (.iaddr 1 (.t 68) (.t 69))⟩, ⟨none, (some 71), (.ld false 1 (.t 70))⟩, ⟨none, (some 72), (.mv (.t 11))⟩, ⟨none, (some 73), (.app 1 16 (.t 71) (.t 72))⟩, ⟨none, (some 74), (.iaddr 1 (.t 66) (.t 67))⟩, ⟨none, none, (.st 1 (.t 74) (.t 73))⟩]
def r_i_paged_15 : List CO := [⟨none, (some 75), (.mv (.t 8))⟩, ⟨none, (some 76), (.mv (.t 13))⟩, ⟨none, (some 77), (.bin .add .none (.t 76) (.k (.v (.int .i64 (1)))))⟩, ⟨none, (some 78), (.bslice 1 (.v (.int .i64 (0))) 1 [(0, (.t 77))])⟩, ⟨none, (some 79), (.app 1 8 (.t 75) (.t 78))⟩, ⟨none, (some 8), (.mv (.t 79))⟩]
def r_i_paged_16 : List CO := [⟨none, (some 80), (.bin .add .none (.t 29) (.k (.v (.int .i64 (1)))))⟩, ⟨none, (some 29), (.mv (.t 80))⟩]
def l_i_paged_17 : C := (.seq (.reg r_i_paged_5 [3, 7, 8, 27, 28, 29, 30]) (.seq (.cond (.t 30) .skip (.exit 0)) (.seq (.block 1 (.seq (.reg r_i_paged_6 [3, 7, 8, 10, 27, 28, 29]) (.seq (.reg r_i_paged_7 [3, 7, 8, 11, 27, 28, 29]) (.seq (.seq (.reg r_i_paged_8 [3, 7, 8, 11, 27, 28, 29, 41]) (.cond (.t 41) (.seq (.reg r_i_paged_9 [4, 5, 6]) .ret) .skip)) (.seq (.seq (.reg r_i_paged_10 [3, 7, 8, 11, 12, 27, 28, 29]) (.seq (.wk (.regD r_i_paged_11 p_i_paged_11 [3, 7, 8, 11, 27, 28, 29, 59])) (.cond (.t 59) (.reg r_i_paged_12 [3, 7, 8, 11, 27, 28, 29]) .skip))) (.seq (.wk (.reg r_i_paged_13 [3, 7, 8, 11, 13, 27, 28, 29])) (.seq (.reg r_i_paged_14 [3, 7, 8, 13, 27, 28, 29]) (.reg r_i_paged_15 [3, 7, 8, 27, 28, 29])))))))) (.reg r_i_paged_16 [3, 7, 8, 27, 28, 29]))))
def r_i_paged_18 : List CO := [⟨none, (some 81), (.mv (.t 7))⟩, ⟨none, (some 82), (.mv (.t 8))⟩, ⟨none, (some 4), (.mv (.t 81))⟩, ⟨none, (some 5), (.mv (.t 82))⟩, ⟨none, (some 6), (.mv (.k (.v (.bool true))))⟩]
/-- loop.example/g00884/impl.paged -/
def c_i_paged : C := (.seq (.reg r_i_paged_0 [2, 3]) (.seq (.seq (.reg r_i_paged_1 [2, 3, 21]) (.cond (.t 21) (.seq (.reg r_i_paged_2 [4, 5, 6]) .ret) .skip)) (.seq (.reg r_i_paged_3 [2, 3, 7, 8]) (.seq (.seq (.reg r_i_paged_4 [3, 7, 8, 27, 28, 29]) (.block 0 (.loop l_i_paged_17))) (.seq (.reg r_i_paged_18 [4, 5, 6]) .ret)))))
def k_i_paged : Nat → List Nat
  | 0 => [2, 3]
  | 1 => [2, 3, 21]
  | 2 => [4, 5, 6]
  | 3 => [2, 3, 7, 8]
  | 4 => [3, 7, 8, 27, 28, 29]
  | 5 => [3, 7, 8, 27, 28, 29, 30]
  | 6 => [3, 7, 8, 10, 27, 28, 29]
  | 7 => [3, 7, 8, 11, 27, 28, 29]
  | 8 => [3, 7, 8, 11, 27, 28, 29, 41]
  | 9 => [4, 5, 6]
  | 10 => [3, 7, 8, 11, 12, 27, 28, 29]
  | 11 => [999999, 3, 7, 8, 11, 27, 28, 29, 59]
  | 12 => [3, 7, 8, 11, 27, 28, 29]
  | 13 => [999999, 3, 7, 8, 11, 13, 27, 28, 29]
  | 14 => [3, 7, 8, 13, 27, 28, 29]
  | 15 => [3, 7, 8, 27, 28, 29]
  | 16 => [3, 7, 8, 27, 28, 29]
  | 17 => [4, 5, 6]
  | _ => []
theorem fn_i_paged : FnC Tryz.prog n_i_paged c_i_paged [(.tmp 4), (.tmp 5), (.tmp 6)] 83 :=
  ⟨Tryz.f72, _, k_i_paged, Tryz.func72, rfl, by kernel_rfl, by kernel_rfl, by kernel_rfl, rfl⟩
end Go.Proofs.YtbeoijlggphklaaGreatDoor

/- The compact code of the functions, and that it is theirs: written by a program of this claim. -/
namespace Go.Proofs.YtbeoijlggphklaaGreatDoor
open Go.Abs
set_option maxRecDepth 100000
def r_i_Register_ordered_1_0 : List CO := [⟨none, (some 2), (.box 18 (.t 0))⟩, ⟨none, (some 3), (.box 18 (.t 1))⟩, ⟨none, (some 4), (.mv (.k (.v (.int .i64 (0)))))⟩]
def r_i_Register_ordered_1_1 : List CO := [⟨none, (some 5), (.faddr 1 (.t 2))⟩, ⟨none, (some 6), (.ld false 1 (.t 5))⟩, ⟨none, (some 7), (.faddr 1 (.t 3))⟩, ⟨none, (some 8), (.ld false 1 (.t 7))⟩, ⟨none, (some 9), (.call n_strings_Compare [(.t 6), (.t 8)])⟩, ⟨none, (some 4), (.mv (.t 9))⟩]
/-- (loop.example/g00884/impl.Register).ordered$1 -/
def c_i_Register_ordered_1 : C := (.seq (.reg r_i_Register_ordered_1_0 [2, 3]) (.seq (.reg r_i_Register_ordered_1_1 [4]) .ret))
def k_i_Register_ordered_1 : Nat → List Nat
  | 0 => [2, 3]
  | 1 => [4]
  | _ => []
theorem fn_i_Register_ordered_1 : FnC Tryz.prog n_i_Register_ordered_1 c_i_Register_ordered_1 [(.tmp 4)] 10 :=
  ⟨Tryz.f110, _, k_i_Register_ordered_1, Tryz.func110, rfl, by kernel_rfl, by kernel_rfl, by kernel_rfl, rfl⟩
def r_i_Register_ordered_2_0 : List CO := [⟨none, (some 2), (.box 18 (.t 0))⟩, ⟨none, (some 3), (.box 18 (.t 1))⟩, ⟨none, (some 4), (.mv (.k (.v (.int .i64 (0)))))⟩]
def r_i_Register_ordered_2_1 : List CO := [⟨none, (some 5), (.faddr 3 (.t 2))⟩, ⟨none, (some 6), (.ld true 15 (.t 5))⟩, ⟨none, (some 7), (.call n_i_Arms_text [(.t 6)])⟩, ⟨none, (some 8), (.faddr 3 (.t 3))⟩, ⟨none, (some 9), (.ld true 15 (.t 8))⟩, ⟨none, (some 10), (.call n_i_Arms_text [(.t 9)])⟩, ⟨none, (some 11), (.call n_strings_Compare [(.t 7), (.t 10)])⟩, ⟨none, (some 4), (.mv (.t 11))⟩]
def p_i_Register_ordered_2_1 : List (List Nat) := [[], [0], [0, 1], [], [3], [0, 1, 2, 3, 4], [0, 1, 2, 3, 4, 5], [0, 1, 2, 3, 4, 5, 6]]
/-- (loop.example/g00884/impl.Register).ordered$2 -/
def c_i_Register_ordered_2 : C := (.seq (.reg r_i_Register_ordered_2_0 [2, 3]) (.seq (.regD r_i_Register_ordered_2_1 p_i_Register_ordered_2_1 [4]) .ret))
def k_i_Register_ordered_2 : Nat → List Nat
  | 0 => [2, 3]
  | 1 => [4]
  | _ => []
theorem fn_i_Register_ordered_2 : FnC Tryz.prog n_i_Register_ordered_2 c_i_Register_ordered_2 [(.tmp 4)] 12 :=
  ⟨Tryz.f112, _, k_i_Register_ordered_2, Tryz.func112, rfl, by kernel_rfl, by kernel_rfl, by kernel_rfl, rfl⟩
def r_i_Register_ordered_0 : List CO := [⟨none, (some 2), (.box 1 (.t 0))⟩, ⟨none, (some 4), (.mv (.k (.v (.slice none 0 0))))⟩]
def r_i_Register_ordered_1 : List CO := [⟨none, (some 6), (.bslice 18 (.agg [(.v (.int .i64 (0))), (.v (.string (bs []))), (.v (.int .i64 (0))), (.v (.int .i64 (0))), (.v (.int .i64 (0))), (.v (.int .i64 (0))), (.v (.int .i64 (0))), (.v (.int .i64 (0))), (.v (.int .i64 (0))), (.v (.int .i64 (0))), (.v (.int .i64 (0))), (.v (.int .i64 (0))), (.v (.int .i64 (0))), (.v (.int .i64 (0))), (.v (.int .i64 (0))), (.v (.int .i64 (0))), (.v (.int .i64 (0))), (.v (.int .i64 (0)))]) 0 [])⟩, ⟨none, (some 7), (.faddr 0 (.t 2))⟩, ⟨none, (some 8), (.ld false 1 (.t 7))⟩, ⟨none, (some 9), (.app 18 152 (.t 6) (.t 8))⟩, ⟨none, (some 5), (.mv (.t 9))⟩]
def r_i_Register_ordered_2 : List CO := [⟨none, (some 10), (.mv (.t 1))⟩]
def r_i_Register_ordered_3 : List CO := [⟨none, (some 12), (.bin .eql .none (.t 10) (.k (.v (.int .i64 (2)))))⟩, ⟨none, (some 11), (.mv (.t 12))⟩]
def r_i_Register_ordered_4 : List CO := [⟨none, (some 13), (.mv (.t 5))⟩, ⟨none, (some 14), (.call n_slices_SortStableFunc_i_Grant_i_Grant [(.t 13), (.k (.clo n_i_Register_ordered_1 []))])⟩]
def r_i_Register_ordered_5 : List CO := [⟨none, (some 16), (.bin .eql .none (.t 10) (.k (.v (.int .i64 (3)))))⟩, ⟨none, (some 15), (.mv (.t 16))⟩]
def r_i_Register_ordered_6 : List CO := [⟨none, (some 17), (.mv (.t 5))⟩, ⟨none, (some 18), (.call n_slices_SortStableFunc_i_Grant_i_Grant [(.t 17), (.k (.clo n_i_Register_ordered_2 []))])⟩]
def r_i_Register_ordered_7 : List CO := [⟨none, (some 19), (.mv (.t 5))⟩, ⟨none, (some 4), (.mv (.t 19))⟩]
/-- (loop.example/g00884/impl.Register).ordered -/
def c_i_Register_ordered : C := (.seq (.reg r_i_Register_ordered_0 [1, 2]) (.seq (.reg r_i_Register_ordered_1 [1, 5]) (.seq (.seq (.reg r_i_Register_ordered_2 [5, 10]) (.block 0 (.seq (.reg r_i_Register_ordered_3 [5, 10, 11]) (.cond (.t 11) (.reg r_i_Register_ordered_4 [5]) (.seq (.reg r_i_Register_ordered_5 [5, 15]) (.cond (.t 15) (.reg r_i_Register_ordered_6 [5]) .skip)))))) (.seq (.reg r_i_Register_ordered_7 [4]) .ret))))
def k_i_Register_ordered : Nat → List Nat
  | 0 => [1, 2]
  | 1 => [1, 5]
  | 2 => [5, 10]
  | 3 => [5, 10, 11]
  | 4 => [5]
  | 5 => [5, 15]
  | 6 => [5]
  | 7 => [4]
  | _ => []
theorem fn_i_Register_ordered : FnC Tryz.prog n_i_Register_ordered c_i_Register_ordered [(.tmp 4)] 20 :=
  ⟨Tryz.f73, _, k_i_Register_ordered, Tryz.func73, rfl, by kernel_rfl, by kernel_rfl, by kernel_rfl, rfl⟩
def r_s_l25By_0 : List CO := [⟨none, (some 2), (.mv (.k (.v (.bool false))))⟩]
def r_s_l25By_1 : List CO := [⟨none, (some 3), (.mv (.t 0))⟩, ⟨none, (some 4), (.call n_s_l1In [(.t 3), (.k (.v (.int .i64 (1)))), (.k (.v (.int .i64 (3))))])⟩, ⟨none, (some 2), (.mv (.t 4))⟩]
/-- loop.example/g00884/spec.l25By -/
def c_s_l25By : C := (.seq (.reg r_s_l25By_0 [0]) (.seq (.reg r_s_l25By_1 [2]) .ret))
def k_s_l25By : Nat → List Nat
  | 0 => [0]
  | 1 => [2]
  | _ => []
theorem fn_s_l25By : FnC Tryz.prog n_s_l25By c_s_l25By [(.tmp 2)] 5 :=
  ⟨Tryz.f80, _, k_s_l25By, Tryz.func80, rfl, by kernel_rfl, by kernel_rfl, by kernel_rfl, rfl⟩
def r_s_l25Before_0 : List CO := [⟨none, (some 3), (.box 18 (.t 0))⟩, ⟨none, (some 4), (.box 18 (.t 1))⟩, ⟨none, (some 6), (.mv (.k (.v (.bool false))))⟩]
def r_s_l25Before_1 : List CO := [⟨none, (some 7), (.mv (.t 2))⟩]
def r_s_l25Before_2 : List CO := [⟨none, (some 9), (.bin .eql .none (.t 7) (.k (.v (.int .i64 (2)))))⟩, ⟨none, (some 8), (.mv (.t 9))⟩]
def r_s_l25Before_3 : List CO := [⟨none, (some 10), (.faddr 1 (.t 3))⟩, ⟨none, (some 11), (.ld false 1 (.t 10))⟩, ⟨none, (some 12), (.faddr 1 (.t 4))⟩, ⟨none, (some 13), (.ld false 1 (.t 12))⟩, ⟨none, (some 14), (.bin .lss .none (.t 11) (.t 13))⟩, ⟨none, (some 15), (.mv (.t 14))⟩, ⟨(some (15, false)), (some 16), (.faddr 1 (.t 3))⟩, ⟨(some (15, false)), (some 17), (.ld false 1 (.t 16))⟩, ⟨(some (15, false)), (some 18), (.faddr 1 (.t 4))⟩, ⟨(some (15, false)), (some 19), (.ld false 1 (.t 18))⟩, ⟨(some (15, false)), (some 20), (.bin .eql .none (.t 17) (.t 19))⟩, ⟨(some (15, false)), (some 21), (.mv (.t 20))⟩, ⟨(some (21, true)), (some 22), (.faddr 0 (.t 3))⟩, ⟨(some (21, true)), (some 23), (.ld false 1 (.t 22))⟩, ⟨(some (21, true)), (some 24), (.faddr 0 (.t 4))⟩, ⟨(some (21, true)), (some 25), (.ld false 1 (.t 24))⟩, ⟨(some (21, true)), (some 26), (.bin .lss .none (.t 23) (.t 25))⟩, ⟨(some (15, false)), (some 27), (.pick (.t 21) (.t 26) (.k (.v (.bool false))))⟩, ⟨none, (some 28), (.pick (.t 15) (.k (.v (.bool true))) (.t 27))⟩, ⟨none, (some 6), (.mv (.t 28))⟩]
def r_s_l25Before_4 : List CO := [⟨none, (some 30), (.bin .eql .none (.t 7) (.k (.v (.int .i64 (3)))))⟩, ⟨none, (some 29), (.mv (.t 30))⟩]
def r_s_l25Before_5 : List CO := [⟨none, (some 31), (.faddr 3 (.t 3))⟩, ⟨none, (some 32), (.ld true 15 (.t 31))⟩, ⟨none, (some 33), (.call n_s_l6Text [(.t 32)])⟩, ⟨none, (some 34), (.faddr 3 (.t 4))⟩, ⟨none, (some 35), (.ld true 15 (.t 34))⟩, ⟨none, (some 36), (.call n_s_l6Text [(.t 35)])⟩, ⟨none, (some 37), (.bin .lss .none (.t 33) (.t 36))⟩, ⟨none, (some 6), (.mv (.t 37))⟩]
def p_s_l25Before_5 : List (List Nat) := [[], [0], [0, 1], [], [3], [0, 1, 2, 3, 4], [0, 1, 2, 3, 4, 5], [0, 1, 2, 3, 4, 5, 6]]
def r_s_l25Before_6 : List CO := [⟨none, (some 38), (.faddr 0 (.t 3))⟩, ⟨none, (some 39), (.ld false 1 (.t 38))⟩, ⟨none, (some 40), (.faddr 0 (.t 4))⟩, ⟨none, (some 41), (.ld false 1 (.t 40))⟩, ⟨none, (some 42), (.bin .lss .none (.t 39) (.t 41))⟩, ⟨none, (some 6), (.mv (.t 42))⟩]
/-- loop.example/g00884/spec.l25Before -/
def c_s_l25Before : C := (.seq (.reg r_s_l25Before_0 [2, 3, 4]) (.seq (.seq (.reg r_s_l25Before_1 [3, 4, 7]) (.block 0 (.seq (.reg r_s_l25Before_2 [3, 4, 7, 8]) (.cond (.t 8) (.seq (.reg r_s_l25Before_3 [6]) .ret) (.seq (.reg r_s_l25Before_4 [3, 4, 29]) (.cond (.t 29) (.seq (.regD r_s_l25Before_5 p_s_l25Before_5 [6]) .ret) .skip)))))) (.seq (.reg r_s_l25Before_6 [6]) .ret)))
def k_s_l25Before : Nat → List Nat
  | 0 => [2, 3, 4]
  | 1 => [3, 4, 7]
  | 2 => [3, 4, 7, 8]
  | 3 => [6]
  | 4 => [3, 4, 29]
  | 5 => [6]
  | 6 => [6]
  | _ => []
theorem fn_s_l25Before : FnC Tryz.prog n_s_l25Before c_s_l25Before [(.tmp 6)] 43 :=
  ⟨Tryz.f118, _, k_s_l25Before, Tryz.func118, rfl, by kernel_rfl, by kernel_rfl, by kernel_rfl, rfl⟩
def r_s_l25Order_0 : List CO := [⟨none, (some 2), (.box 1 (.t 0))⟩, ⟨none, (some 4), (.mv (.k (.v (.slice none 0 0))))⟩]
def r_s_l25Order_1 : List CO := [⟨none, (some 8), (.bslice 1 (.v (.int .i64 (0))) 0 [])⟩, ⟨none, (some 5), (.mv (.t 8))⟩]
def r_s_l25Order_2 : List CO := [⟨none, (some 6), (.mv (.k (.v (.int .i64 (0)))))⟩]
def r_s_l25Order_3 : List CO := [⟨none, (some 9), (.mv (.t 6))⟩, ⟨none, (some 10), (.faddr 0 (.t 2))⟩, ⟨none, (some 11), (.ld false 1 (.t 10))⟩, ⟨none, (some 12), (.len false (.t 11))⟩, ⟨none, (some 13), (.bin .lss .none (.t 9) (.t 12))⟩]
def r_s_l25Order_4 : List CO := [⟨none, (some 16), (.mv (.t 5))⟩, ⟨none, (some 17), (.len false (.t 16))⟩, ⟨none, (some 7), (.mv (.t 17))⟩]
def r_s_l25Order_5 : List CO := [⟨none, (some 18), (.mv (.t 7))⟩, ⟨none, (some 19), (.bin .gtr .none (.t 18) (.k (.v (.int .i64 (0)))))⟩, ⟨none, (some 20), (.mv (.t 19))⟩, ⟨(some (20, true)), (some 21), (.faddr 0 (.t 2))⟩, ⟨(some (20, true)), (some 22), (.ld false 1 (.t 21))⟩, ⟨(some (20, true)), (some 23), (.mv (.t 6))⟩, ⟨(some (20, true)), (some 24), (.iaddr 18 (.t 22) (.t 23))⟩, ⟨(some (20, true)), (some 25), (.ld true 18 (.t 24))⟩, ⟨(some (20, true)), (some 26), (.faddr 0 (.t 2))⟩, ⟨(some (20, true)), (some 27), (.ld false 1 (.t 26))⟩, ⟨(some (20, true)), (some 28), (.mv (.t 5))⟩, ⟨(some (20, true)), (some 29), (.mv (.t 7))⟩, ⟨(some (20, true)), (some 30), (.bin .sub .none (.t 29) (.k (.v (.int .i64 (1)))))⟩, ⟨(some (20, true)), (some 31), (.iaddr 1 (.t 28) (.t 30))⟩, ⟨(some (20, true)), (some 32), (.ld false 1 (.t 31))⟩, ⟨(some (20, true)), (some 33), (.iaddr 18 (.t 27) (.t 32))⟩, ⟨(some (20, true)), (some 34), (.ld true 18 (.t 33))⟩, ⟨(some (20, true)), (some 35), (.mv (.t 1))⟩, ⟨(some (20, true)), (some 36), (.call n_s_l25Before [(.t 25), (.t 34), (.t 35)])⟩, ⟨none, (some 37), (.pick (.t 20) (.t 36) (.k (.v (.bool false))))⟩]
def p_s_l25Order_5 : List (List Nat) := [[], [0], [0, 1], [0, 1, 2], [0, 1, 2, 3], [0, 1, 2], [0, 1, 2, 3, 4, 5], [0, 1, 2, 3, 4, 5, 6], [0, 1, 2], [0, 1, 2, 8], [0, 1, 2], [0, 1, 2], [0, 1, 2, 11], [0, 1, 2, 10, 11, 12], [0, 1, 2, 10, 11, 12, 13], [0, 1, 2, 8, 9, 10, 11, 12, 13, 14], [0, 1, 2, 8, 9, 10, 11, 12, 13, 14, 15], [0, 1, 2], [0, 1, 2, 3, 4, 5, 6, 7, 8, 9, 10, 11, 12, 13, 14, 15, 16, 17], [0, 1, 2, 3, 4, 5, 6, 7, 8, 9, 10, 11, 12, 13, 14, 15, 16, 17, 18]]
def r_s_l25Order_6 : List CO := [⟨none, (some 38), (.mv (.t 7))⟩, ⟨none, (some 39), (.bin .sub .none (.t 38) (.k (.v (.int .i64 (1)))))⟩, ⟨none, (some 7), (.mv (.t 39))⟩]
def l_s_l25Order_7 : C := (.seq (.seq (.regD r_s_l25Order_5 p_s_l25Order_5 [1, 2, 5, 6, 7, 37]) (.cond (.t 37) .skip (.exit 2))) (.block 3 (.reg r_s_l25Order_6 [1, 2, 5, 6, 7])))
def r_s_l25Order_8 : List CO := [⟨none, (some 40), (.bslice 1 (.v (.int .i64 (0))) 0 [])⟩, ⟨none, (some 41), (.mv (.t 5))⟩, ⟨none, (some 42), (.mv (.t 7))⟩, ⟨none, (some 43), (.slc (some 1) (.t 41) none (some (.t 42)))⟩, ⟨none, (some 44), (.app 1 8 (.t 40) (.t 43))⟩, ⟨none, (some 45), (.mv (.t 6))⟩, ⟨none, (some 46), (.bslice 1 (.v (.int .i64 (0))) 1 [(0, (.t 45))])⟩, ⟨none, (some 47), (.app 1 8 (.t 44) (.t 46))⟩, ⟨none, (some 48), (.mv (.t 5))⟩, ⟨none, (some 49), (.mv (.t 7))⟩, ⟨none, (some 50), (.slc (some 1) (.t 48) (some (.t 49)) none)⟩, ⟨none, (some 51), (.app 1 8 (.t 47) (.t 50))⟩, ⟨none, (some 5), (.mv (.t 51))⟩]
def p_s_l25Order_8 : List (List Nat) := [[], [], [], [1, 2], [0, 1, 2, 3], [], [5], [0, 1, 2, 3, 4, 5, 6], [], [], [8, 9], [0, 1, 2, 3, 4, 5, 6, 7, 8, 9, 10], [0, 1, 2, 3, 4, 5, 6, 7, 8, 9, 10, 11]]
def r_s_l25Order_9 : List CO := [⟨none, (some 14), (.mv (.t 6))⟩, ⟨none, (some 15), (.bin .add .none (.t 14) (.k (.v (.int .i64 (1)))))⟩, ⟨none, (some 6), (.mv (.t 15))⟩]
def l_s_l25Order_10 : C := (.seq (.seq (.reg r_s_l25Order_3 [1, 2, 5, 6, 13]) (.cond (.t 13) .skip (.exit 0))) (.seq (.block 1 (.seq (.reg r_s_l25Order_4 [1, 2, 5, 6, 7]) (.seq (.block 2 (.loop l_s_l25Order_7)) (.regD r_s_l25Order_8 p_s_l25Order_8 [1, 2, 5, 6])))) (.reg r_s_l25Order_9 [1, 2, 5, 6])))
def r_s_l25Order_11 : List CO := [⟨none, (some 52), (.mv (.t 5))⟩, ⟨none, (some 4), (.mv (.t 52))⟩]
/-- loop.example/g00884/spec.l25Order -/
def c_s_l25Order : C := (.seq (.reg r_s_l25Order_0 [1, 2]) (.seq (.reg r_s_l25Order_1 [1, 2, 5]) (.seq (.seq (.reg r_s_l25Order_2 [1, 2, 5, 6]) (.block 0 (.loop l_s_l25Order_10))) (.seq (.reg r_s_l25Order_11 [4]) .ret))))
def k_s_l25Order : Nat → List Nat
  | 0 => [1, 2]
  | 1 => [1, 2, 5]
  | 2 => [1, 2, 5, 6]
  | 3 => [1, 2, 5, 6, 13]
  | 5 => [1, 2, 5, 6, 7]
  | 6 => [1, 2, 5, 6, 7, 37]
  | 7 => [1, 2, 5, 6, 7]
  | 8 => [1, 2, 5, 6]
  | 4 => [1, 2, 5, 6]
  | 9 => [4]
  | _ => []
theorem fn_s_l25Order : FnC Tryz.prog n_s_l25Order c_s_l25Order [(.tmp 4)] 53 :=
  ⟨Tryz.f81, _, k_s_l25Order, Tryz.func81, rfl, by kernel_rfl, by kernel_rfl, by kernel_rfl, rfl⟩
end Go.Proofs.YtbeoijlggphklaaGreatDoor

/- The compact code of the functions, and that it is theirs: written by a program of this claim. -/
namespace Go.Proofs.YtbeoijlggphklaaGreatDoor
open Go.Abs
set_option maxRecDepth 100000
def r_slices_insertionSortCmpFunc_i_Grant_0 : List CO := [⟨none, (some 10), (.mv (.t 1))⟩, ⟨none, (some 11), (.bin .add .none (.t 10) (.k (.v (.int .i64 (1)))))⟩, ⟨none, (some 8), (.mv (.t 11))⟩]
def r_slices_insertionSortCmpFunc_i_Grant_1 : List CO := [⟨none, (some 12), (.mv (.t 8))⟩, ⟨none, (some 13), (.mv (.t 2))⟩, ⟨none, (some 14), (.bin .lss .none (.t 12) (.t 13))⟩]
def r_slices_insertionSortCmpFunc_i_Grant_2 : List CO := [⟨none, (some 17), (.mv (.t 8))⟩, ⟨none, (some 9), (.mv (.t 17))⟩]
def r_slices_insertionSortCmpFunc_i_Grant_3 : List CO := [⟨none, (some 18), (.mv (.t 9))⟩, ⟨none, (some 19), (.mv (.t 1))⟩, ⟨none, (some 20), (.bin .gtr .none (.t 18) (.t 19))⟩, ⟨none, (some 21), (.mv (.t 20))⟩, ⟨(some (21, true)), (some 22), (.mv (.t 3))⟩, ⟨(some (21, true)), (some 23), (.mv (.t 0))⟩, ⟨(some (21, true)), (some 24), (.mv (.t 9))⟩, ⟨(some (21, true)), (some 25), (.iaddr 18 (.t 23) (.t 24))⟩, ⟨(some (21, true)), (some 26), (.ld true 18 (.t 25))⟩, ⟨(some (21, true)), (some 27), (.mv (.t 0))⟩, ⟨(some (21, true)), (some 28), (.mv (.t 9))⟩, ⟨(some (21, true)), (some 29), (.bin .sub .none (.t 28) (.k (.v (.int .i64 (1)))))⟩, ⟨(some (21, true)), (some 30), (.iaddr 18 (.t 27) (.t 29))⟩, ⟨(some (21, true)), (some 31), (.ld true 18 (.t 30))⟩, ⟨(some (21, true)), (some 32), (.callv (.t 22) [(.t 26), (.t 31)])⟩, ⟨(some (21, true)), (some 33), (.bin .lss .none (.t 32) (.k (.v (.int .i64 (0)))))⟩, ⟨none, (some 34), (.pick (.t 21) (.t 33) (.k (.v (.bool false))))⟩]
def p_slices_insertionSortCmpFunc_i_Grant_3 : List (List Nat) := [[], [], [0, 1], [0, 1, 2], [0, 1, 2, 3], [0, 1, 2, 3], [0, 1, 2, 3], [0, 1, 2, 3, 5, 6], [0, 1, 2, 3, 5, 6, 7], [0, 1, 2, 3], [0, 1, 2, 3], [0, 1, 2, 3, 10], [0, 1, 2, 3, 9, 10, 11], [0, 1, 2, 3, 9, 10, 11, 12], [0, 1, 2, 3, 4, 5, 6, 7, 8, 9, 10, 11, 12, 13], [0, 1, 2, 3, 4, 5, 6, 7, 8, 9, 10, 11, 12, 13, 14], [0, 1, 2, 3, 4, 5, 6, 7, 8, 9, 10, 11, 12, 13, 14, 15]]
def r_slices_insertionSortCmpFunc_i_Grant_4 : List CO := [⟨none, (some 37), (.mv (.t 0))⟩, ⟨none, (some 38), (.mv (.t 9))⟩, ⟨none, (some 39), (.mv (.t 0))⟩, ⟨none, (some 40), (.mv (.t 9))⟩, ⟨none, (some 41), (.bin .sub .none (.t 40) (.k (.v (.int .i64 (1)))))⟩, ⟨none, (some 42), (.mv (.t 0))⟩, ⟨none, (some 43), (.mv (.t 9))⟩, ⟨none, (some 44), (.bin .sub .none (.t 43) (.k (.v (.int .i64 (1)))))⟩, ⟨none, (some 45), (.iaddr 18 (.t 42) (.t 44))⟩, ⟨none, (some 46), (.ld true 18 (.t 45))⟩, ⟨none, (some 47), (.mv (.t 0))⟩, ⟨none, (some 48), (.mv (.t 9))⟩, ⟨none, (some 49), (.iaddr 18 (.t 47) (.t 48))⟩, ⟨none, (some 50), (.ld true 18 (.t 49))⟩, ⟨none, (some 51), (.iaddr 18 (.t 37) (.t 38))⟩, ⟨none, none, (.st 18 (.t 51) (.t 46))⟩, ⟨none, (some 52), (.iaddr 18 (.t 39) (.t 41))⟩, ⟨none, none, (.st 18 (.t 52) (.t 50))⟩]
def p_slices_insertionSortCmpFunc_i_Grant_4 : List (List Nat) := [[], [], [], [], [3], [], [], [6], [5, 6, 7], [5, 6, 7, 8], [], [], [10, 11], [10, 11, 12], [0, 1, 5, 6, 7, 8, 9, 10, 11, 12, 13], [0, 1, 5, 6, 7, 8, 9, 10, 11, 12, 13, 14], [0, 1, 2, 3, 4, 5, 6, 7, 8, 9, 10, 11, 12, 13, 14, 15], [0, 1, 2, 3, 4, 5, 6, 7, 8, 9, 10, 11, 12, 13, 14, 15, 16]]
def r_slices_insertionSortCmpFunc_i_Grant_5 : List CO := [⟨none, (some 35), (.mv (.t 9))⟩, ⟨none, (some 36), (.bin .sub .none (.t 35) (.k (.v (.int .i64 (1)))))⟩, ⟨none, (some 9), (.mv (.t 36))⟩]
def l_slices_insertionSortCmpFunc_i_Grant_6 : C := (.seq (.seq (.regD r_slices_insertionSortCmpFunc_i_Grant_3 p_slices_insertionSortCmpFunc_i_Grant_3 [0, 1, 2, 3, 8, 9, 34]) (.cond (.t 34) .skip (.exit 2))) (.seq (.block 3 (.regD r_slices_insertionSortCmpFunc_i_Grant_4 p_slices_insertionSortCmpFunc_i_Grant_4 [0, 1, 2, 3, 8, 9])) (.reg r_slices_insertionSortCmpFunc_i_Grant_5 [0, 1, 2, 3, 8, 9])))
def r_slices_insertionSortCmpFunc_i_Grant_7 : List CO := [⟨none, (some 15), (.mv (.t 8))⟩, ⟨none, (some 16), (.bin .add .none (.t 15) (.k (.v (.int .i64 (1)))))⟩, ⟨none, (some 8), (.mv (.t 16))⟩]
def l_slices_insertionSortCmpFunc_i_Grant_8 : C := (.seq (.seq (.reg r_slices_insertionSortCmpFunc_i_Grant_1 [0, 1, 2, 3, 8, 14]) (.cond (.t 14) .skip (.exit 0))) (.seq (.block 1 (.seq (.reg r_slices_insertionSortCmpFunc_i_Grant_2 [0, 1, 2, 3, 8, 9]) (.block 2 (.loop l_slices_insertionSortCmpFunc_i_Grant_6)))) (.reg r_slices_insertionSortCmpFunc_i_Grant_7 [0, 1, 2, 3, 8])))
/-- slices.insertionSortCmpFunc[loop.example/g00884/impl.Grant] -/
def c_slices_insertionSortCmpFunc_i_Grant : C := (.seq (.reg r_slices_insertionSortCmpFunc_i_Grant_0 [0, 1, 2, 3, 8]) (.block 0 (.loop l_slices_insertionSortCmpFunc_i_Grant_8)))
def k_slices_insertionSortCmpFunc_i_Grant : Nat → List Nat
  | 0 => [0, 1, 2, 3, 8]
  | 1 => [0, 1, 2, 3, 8, 14]
  | 3 => [0, 1, 2, 3, 8, 9]
  | 4 => [0, 1, 2, 3, 8, 9, 34]
  | 6 => [0, 1, 2, 3, 8, 9]
  | 5 => [0, 1, 2, 3, 8, 9]
  | 2 => [0, 1, 2, 3, 8]
  | _ => []
theorem fn_slices_insertionSortCmpFunc_i_Grant : FnC Tryz.prog n_slices_insertionSortCmpFunc_i_Grant c_slices_insertionSortCmpFunc_i_Grant [] 53 :=
  ⟨Tryz.f200, _, k_slices_insertionSortCmpFunc_i_Grant, Tryz.func200, rfl, by kernel_rfl, by kernel_rfl, by kernel_rfl, rfl⟩
def r_slices_stableCmpFunc_i_Grant_0 : List CO := [⟨none, (some 6), (.mv (.k (.v (.int .i64 (20)))))⟩]
def r_slices_stableCmpFunc_i_Grant_1 : List CO := [⟨none, (some 10), (.mv (.t 6))⟩, ⟨none, (some 7), (.mv (.k (.v (.int .i64 (0)))))⟩, ⟨none, (some 8), (.mv (.t 10))⟩]
def r_slices_stableCmpFunc_i_Grant_2 : List CO := [⟨none, (some 11), (.mv (.t 8))⟩, ⟨none, (some 12), (.mv (.t 1))⟩, ⟨none, (some 13), (.bin .leq .none (.t 11) (.t 12))⟩]
def r_slices_stableCmpFunc_i_Grant_3 : List CO := [⟨none, (some 14), (.mv (.t 0))⟩, ⟨none, (some 15), (.mv (.t 7))⟩, ⟨none, (some 16), (.mv (.t 8))⟩, ⟨none, (some 17), (.mv (.t 2))⟩, ⟨none, (some 18), (.call n_slices_insertionSortCmpFunc_i_Grant [(.t 14), (.t 15), (.t 16), (.t 17)])⟩]
def r_slices_stableCmpFunc_i_Grant_4 : List CO := [⟨none, (some 19), (.mv (.t 8))⟩, ⟨none, (some 7), (.mv (.t 19))⟩]
def r_slices_stableCmpFunc_i_Grant_5 : List CO := [⟨none, (some 20), (.mv (.t 8))⟩, ⟨none, (some 21), (.mv (.t 6))⟩, ⟨none, (some 22), (.bin .add .none (.t 20) (.t 21))⟩, ⟨none, (some 8), (.mv (.t 22))⟩]
def l_slices_stableCmpFunc_i_Grant_6 : C := (.seq (.seq (.reg r_slices_stableCmpFunc_i_Grant_2 [0, 1, 2, 6, 7, 8, 13]) (.cond (.t 13) .skip (.exit 0))) (.block 1 (.seq (.reg r_slices_stableCmpFunc_i_Grant_3 [0, 1, 2, 6, 8]) (.seq (.reg r_slices_stableCmpFunc_i_Grant_4 [0, 1, 2, 6, 7, 8]) (.reg r_slices_stableCmpFunc_i_Grant_5 [0, 1, 2, 6, 7, 8])))))
def r_slices_stableCmpFunc_i_Grant_7 : List CO := [⟨none, (some 23), (.mv (.t 0))⟩, ⟨none, (some 24), (.mv (.t 7))⟩, ⟨none, (some 25), (.mv (.t 1))⟩, ⟨none, (some 26), (.mv (.t 2))⟩, ⟨none, (some 27), (.call n_slices_insertionSortCmpFunc_i_Grant [(.t 23), (.t 24), (.t 25), (.t 26)])⟩]
def r_slices_stableCmpFunc_i_Grant_8 : List CO := [⟨none, (some 28), (.mv (.t 6))⟩, ⟨none, (some 29), (.mv (.t 1))⟩, ⟨none, (some 30), (.bin .lss .none (.t 28) (.t 29))⟩]
def r_slices_stableCmpFunc_i_Grant_9 : List CO := [⟨none, (some 31), (.mv (.t 6))⟩, ⟨none, (some 32), (.bin .mul .none (.k (.v (.int .i64 (2)))) (.t 31))⟩, ⟨none, (some 7), (.mv (.k (.v (.int .i64 (0)))))⟩, ⟨none, (some 8), (.mv (.t 32))⟩]
def r_slices_stableCmpFunc_i_Grant_10 : List CO := [⟨none, (some 33), (.mv (.t 8))⟩, ⟨none, (some 34), (.mv (.t 1))⟩, ⟨none, (some 35), (.bin .leq .none (.t 33) (.t 34))⟩]
def r_slices_stableCmpFunc_i_Grant_11 : List CO := [⟨none, (some 36), (.mv (.t 0))⟩, ⟨none, (some 37), (.mv (.t 7))⟩, ⟨none, (some 38), (.mv (.t 7))⟩, ⟨none, (some 39), (.mv (.t 6))⟩, ⟨none, (some 40), (.bin .add .none (.t 38) (.t 39))⟩, ⟨none, (some 41), (.mv (.t 8))⟩, ⟨none, (some 42), (.mv (.t 2))⟩, ⟨none, (some 43), (.call n_slices_symMergeCmpFunc_i_Grant [(.t 36), (.t 37), (.t 40), (.t 41), (.t 42)])⟩]
def r_slices_stableCmpFunc_i_Grant_12 : List CO := [⟨none, (some 44), (.mv (.t 8))⟩, ⟨none, (some 7), (.mv (.t 44))⟩]
def r_slices_stableCmpFunc_i_Grant_13 : List CO := [⟨none, (some 45), (.mv (.t 8))⟩, ⟨none, (some 46), (.mv (.t 6))⟩, ⟨none, (some 47), (.bin .mul .none (.k (.v (.int .i64 (2)))) (.t 46))⟩, ⟨none, (some 48), (.bin .add .none (.t 45) (.t 47))⟩, ⟨none, (some 8), (.mv (.t 48))⟩]
def l_slices_stableCmpFunc_i_Grant_14 : C := (.seq (.seq (.reg r_slices_stableCmpFunc_i_Grant_10 [0, 1, 2, 6, 7, 8, 35]) (.cond (.t 35) .skip (.exit 4))) (.block 5 (.seq (.reg r_slices_stableCmpFunc_i_Grant_11 [0, 1, 2, 6, 8]) (.seq (.reg r_slices_stableCmpFunc_i_Grant_12 [0, 1, 2, 6, 7, 8]) (.reg r_slices_stableCmpFunc_i_Grant_13 [0, 1, 2, 6, 7, 8])))))
def r_slices_stableCmpFunc_i_Grant_15 : List CO := [⟨none, (some 49), (.mv (.t 7))⟩, ⟨none, (some 50), (.mv (.t 6))⟩, ⟨none, (some 51), (.bin .add .none (.t 49) (.t 50))⟩, ⟨none, (some 9), (.mv (.t 51))⟩]
def r_slices_stableCmpFunc_i_Grant_16 : List CO := [⟨none, (some 52), (.mv (.t 9))⟩, ⟨none, (some 53), (.mv (.t 1))⟩, ⟨none, (some 54), (.bin .lss .none (.t 52) (.t 53))⟩]
def r_slices_stableCmpFunc_i_Grant_17 : List CO := [⟨none, (some 55), (.mv (.t 0))⟩, ⟨none, (some 56), (.mv (.t 7))⟩, ⟨none, (some 57), (.mv (.t 9))⟩, ⟨none, (some 58), (.mv (.t 1))⟩, ⟨none, (some 59), (.mv (.t 2))⟩, ⟨none, (some 60), (.call n_slices_symMergeCmpFunc_i_Grant [(.t 55), (.t 56), (.t 57), (.t 58), (.t 59)])⟩]
def r_slices_stableCmpFunc_i_Grant_18 : List CO := [⟨none, (some 61), (.mv (.t 6))⟩, ⟨none, (some 62), (.bin .mul .none (.t 61) (.k (.v (.int .i64 (2)))))⟩, ⟨none, (some 6), (.mv (.t 62))⟩]
def l_slices_stableCmpFunc_i_Grant_19 : C := (.seq (.seq (.reg r_slices_stableCmpFunc_i_Grant_8 [0, 1, 2, 6, 30]) (.cond (.t 30) .skip (.exit 2))) (.block 3 (.seq (.reg r_slices_stableCmpFunc_i_Grant_9 [0, 1, 2, 6, 7, 8]) (.seq (.block 4 (.loop l_slices_stableCmpFunc_i_Grant_14)) (.seq (.seq (.reg r_slices_stableCmpFunc_i_Grant_15 [0, 1, 2, 6, 7, 9]) (.seq (.reg r_slices_stableCmpFunc_i_Grant_16 [0, 1, 2, 6, 7, 9, 54]) (.cond (.t 54) (.reg r_slices_stableCmpFunc_i_Grant_17 [0, 1, 2, 6]) .skip))) (.reg r_slices_stableCmpFunc_i_Grant_18 [0, 1, 2, 6]))))))
/-- slices.stableCmpFunc[loop.example/g00884/impl.Grant] -/
def c_slices_stableCmpFunc_i_Grant : C := (.seq (.reg r_slices_stableCmpFunc_i_Grant_0 [0, 1, 2, 6]) (.seq (.reg r_slices_stableCmpFunc_i_Grant_1 [0, 1, 2, 6, 7, 8]) (.seq (.block 0 (.loop l_slices_stableCmpFunc_i_Grant_6)) (.seq (.reg r_slices_stableCmpFunc_i_Grant_7 [0, 1, 2, 6]) (.block 2 (.loop l_slices_stableCmpFunc_i_Grant_19))))))
def k_slices_stableCmpFunc_i_Grant : Nat → List Nat
  | 0 => [0, 1, 2, 6]
  | 1 => [0, 1, 2, 6, 7, 8]
  | 2 => [0, 1, 2, 6, 7, 8, 13]
  | 3 => [0, 1, 2, 6, 8]
  | 4 => [0, 1, 2, 6, 7, 8]
  | 5 => [0, 1, 2, 6, 7, 8]
  | 6 => [0, 1, 2, 6]
  | 7 => [0, 1, 2, 6, 30]
  | 8 => [0, 1, 2, 6, 7, 8]
  | 9 => [0, 1, 2, 6, 7, 8, 35]
  | 10 => [0, 1, 2, 6, 8]
  | 11 => [0, 1, 2, 6, 7, 8]
  | 12 => [0, 1, 2, 6, 7, 8]
  | 13 => [0, 1, 2, 6, 7, 9]
  | 14 => [0, 1, 2, 6, 7, 9, 54]
  | 15 => [0, 1, 2, 6]
  | 16 => [0, 1, 2, 6]
  | _ => []
theorem fn_slices_stableCmpFunc_i_Grant : FnC Tryz.prog n_slices_stableCmpFunc_i_Grant c_slices_stableCmpFunc_i_Grant [] 63 :=
  ⟨Tryz.f151, _, k_slices_stableCmpFunc_i_Grant, Tryz.func151, rfl, by kernel_rfl, by kernel_rfl, by kernel_rfl, rfl⟩
def r_slices_SortStableFunc_i_Grant_i_Grant_0 : List CO := [⟨none, (some 4), (.mv (.t 0))⟩, ⟨none, (some 5), (.mv (.t 0))⟩, ⟨none, (some 6), (.len false (.t 5))⟩, ⟨none, (some 7), (.mv (.t 1))⟩, ⟨none, (some 8), (.call n_slices_stableCmpFunc_i_Grant [(.t 4), (.t 6), (.t 7)])⟩]
/-- slices.SortStableFunc[[]loop.example/g00884/impl.Grant,loop.example/g00884/impl.Grant] -/
def c_slices_SortStableFunc_i_Grant_i_Grant : C := (.reg r_slices_SortStableFunc_i_Grant_i_Grant_0 [])
def k_slices_SortStableFunc_i_Grant_i_Grant : Nat → List Nat
  | 0 => []
  | _ => []
theorem fn_slices_SortStableFunc_i_Grant_i_Grant : FnC Tryz.prog n_slices_SortStableFunc_i_Grant_i_Grant c_slices_SortStableFunc_i_Grant_i_Grant [] 9 :=
  ⟨Tryz.f109, _, k_slices_SortStableFunc_i_Grant_i_Grant, Tryz.func109, rfl, by kernel_rfl, by kernel_rfl, by kernel_rfl, rfl⟩
end Go.Proofs.YtbeoijlggphklaaGreatDoor

/- Library: a short row of grants that is sorted, stable. -/
set_option linter.unusedVariables false
set_option linter.unusedSimpArgs false
namespace Go.Proofs.YtbeoijlggphklaaGreatDoor
open Go.Abs

/-- The row while x is on its way to the left: at the place j. -/
def onWay (P R : List Grant) (x : Grant) (j : Nat) : List Grant := P.take j ++ x :: (P.drop j ++ R)
theorem onWay_len {P R : List Grant} {x : Grant} {j : Nat} (hj : j ≤ P.length) : (onWay P R x j).length = P.length + 1 + R.length := by
  simp [onWay]; omega
theorem onWay_at {P R : List Grant} {x : Grant} {j : Nat} (hj : j ≤ P.length) : (onWay P R x j)[j]? = some x := by
  unfold onWay
  rw [List.getElem?_append_right (by rw [List.length_take]; omega), List.length_take, Nat.min_eq_left hj, Nat.sub_self]; rfl
theorem onWay_before {P R : List Grant} {x : Grant} {j : Nat} (hj : j ≤ P.length) (h0 : 0 < j) : (onWay P R x j)[j - 1]? = some (P[j - 1]'(by omega)) := by
  unfold onWay
  rw [List.getElem?_append_left (by simp; omega), List.getElem?_take, if_pos (by omega), List.getElem?_eq_getElem (by omega)]
theorem onWay_swap {P R : List Grant} {x : Grant} {j : Nat} (hj : j ≤ P.length) (h0 : 0 < j) : ((onWay P R x j).set j (P[j - 1]'(by omega))).set (j - 1) x = onWay P R x (j - 1) := by
  obtain ⟨k, rfl⟩ : ∃ k, j = k + 1 := ⟨j - 1, by omega⟩
  simp only [Nat.add_sub_cancel]
  have hk : k < P.length := by omega
  have e1 : P.take (k + 1) = P.take k ++ [P[k]] := take_succ' hk
  have e2 : P.drop k = P[k] :: P.drop (k + 1) := List.drop_eq_getElem_cons hk
  have hl : (P.take k).length = k := by rw [List.length_take]; omega
  unfold onWay
  rw [e1, e2, List.append_assoc, List.singleton_append, List.set_append_right _ _ (by omega), hl, show k + 1 - k = 1 by omega]
  rw [List.set_append_right _ _ (by omega), hl, Nat.sub_self]
  rfl
theorem onWay_none {P R : List Grant} {x : Grant} : onWay P R x P.length = P ++ x :: R := by simp [onWay]
theorem onWay_ins {P R : List Grant} {x : Grant} {j : Nat} : onWay P R x j = (P.take j ++ x :: P.drop j) ++ R := by simp [onWay]
def rowI (lt : Grant → Grant → Bool) (l : List Grant) (i : Nat) : List Grant := sortR lt (l.take i) ++ l.drop i
theorem rowI_one (lt : Grant → Grant → Bool) (l : List Grant) : rowI lt l 1 = l := by
  cases l with
  | nil => rfl
  | cons x l => rfl
theorem rowI_end (lt : Grant → Grant → Bool) (l : List Grant) {i : Nat} (h : l.length ≤ i) : rowI lt l i = sortR lt l := by
  rw [rowI, List.take_of_length_le h, List.drop_of_length_le h, List.append_nil]
set_option maxHeartbeats 1000000 in
theorem insertionSort_grants (l : List Grant) (lt : Grant → Grant → Bool) (c : Grant → Grant → Int) (g : Nat) (hl : l.length ≤ 20) (hg : ∀ x ∈ l, ∀ y ∈ l, PCall Tryz.prog g [eGrant x, eGrant y] (I (c x y))) (hc : ∀ x ∈ l, ∀ y ∈ l, (c x y < 0 ↔ lt x y = true)) :
    MCall Tryz.prog n_slices_insertionSortCmpFunc_i_Grant [⟨18, l.map eGrant⟩] [.sl (mid 0) 0 l.length, I 0, I l.length, .clo g []] (.tup []) [some ⟨18, (sortR lt l).map eGrant⟩] := by
  refine MCall.of fn_slices_insertionSortCmpFunc_i_Grant (by simp) rfl (by simp) ?_
  have h0 := rowI_one lt l
  simp [c_slices_insertionSortCmpFunc_i_Grant, r_slices_insertionSortCmpFunc_i_Grant_0]
  rw [wrap64 (n := 1) (by omega) (by omega)]
  refine loopK (fun i : Nat => ⟨[(0, .sl 1000000 0 l.length), (1, I 0), (2, I l.length), (3, .clo g []), (8, I i)], [(1000000, ⟨18, (rowI lt l i).map eGrant⟩)], [1000000]⟩) (fun i => l.length - i) (fun i => 1 ≤ i ∧ (i ≤ l.length ∨ i = 1)) 1 (Wk.list rfl (by simp) (by simp [h0])) (by simp) ?_
  rintro i ⟨hi0, hi⟩ K hN hR hE
  simp [l_slices_insertionSortCmpFunc_i_Grant_8, r_slices_insertionSortCmpFunc_i_Grant_1]
  refine ⟨fun hlt => ?_, fun hge => ?_⟩
  · obtain ⟨P, hP⟩ : ∃ P, sortR lt (l.take i) = P := ⟨_, rfl⟩
    obtain ⟨R, hR'⟩ : ∃ R, l.drop (i + 1) = R := ⟨_, rfl⟩
    obtain ⟨x, hx⟩ : ∃ x, l[i] = x := ⟨_, rfl⟩
    have hPl : P.length = i := by rw [← hP, sortR_len, List.length_take]; omega
    have hRl : R.length = l.length - (i + 1) := by rw [← hR', List.length_drop]
    have hrow : rowI lt l i = onWay P R x i := by
      have e := onWay_none (P := P) (R := R) (x := x)
      rw [hPl] at e
      rw [e, rowI, hP, ← hx, ← hR', List.drop_eq_getElem_cons hlt]
    have hxm : x ∈ l := hx ▸ List.getElem_mem _
    have hPm : ∀ y ∈ P, y ∈ l := fun y hy => List.mem_of_mem_take (sortR_mem.1 (by rw [hP]; exact hy))
    have hnext : ∀ j, insR (lt x) x P = P.take j ++ x :: P.drop j → rowI lt l (i + 1) = onWay P R x j := fun j e => by
      rw [onWay_ins, ← e, rowI, take_succ' hlt, sortR_snoc, hP, hx, hR']
    rw [hrow]
    simp [r_slices_insertionSortCmpFunc_i_Grant_2]
    refine loopK (fun j : Nat => ⟨[(0, .sl 1000000 0 l.length), (1, I 0), (2, I l.length), (3, .clo g []), (8, I i), (9, I j)], [(1000000, ⟨18, (onWay P R x j).map eGrant⟩)], [1000000]⟩) (fun j => j) (fun j => j ≤ i ∧ ∀ q (h : q < P.length), j ≤ q → lt x P[q] = true) i (Wk.list rfl (by simp) (by simp)) ⟨Nat.le_refl _, fun q h h' => by omega⟩ ?_
    rintro j ⟨hj, hpj⟩ K2 hN2 hR2 hE2
    have hlen : (onWay P R x j).length = l.length := by rw [onWay_len (by omega)]; omega
    have hat := onWay_at (P := P) (R := R) (x := x) (j := j) (by omega)
    simp [l_slices_insertionSortCmpFunc_i_Grant_6, r_slices_insertionSortCmpFunc_i_Grant_3, p_slices_insertionSortCmpFunc_i_Grant_3]
    refine ⟨fun h1 => ?_, fun h1 => ?_⟩
    · have hlj : j < l.length := by omega
      have hwr : IntKind.i64.wrap ((j : Int) - 1) = ((j - 1 : Nat) : Int) := by rw [wrap64 (by omega) (by omega)]; omega
      have hbf := onWay_before (R := R) (x := x) (show j ≤ P.length by omega) h1
      have hj1 : j - 1 < l.length := by omega
      have hjP : j - 1 < P.length := by omega
      have hcc := hc x hxm P[j - 1] (hPm _ (List.getElem_mem _))
      simp [hat, hlj, hwr, hbf, hj1]
      refine callD_v (PCall.arg (hg x hxm P[j - 1] (hPm _ (List.getElem_mem _))) (by simp)) ?_ ?_ ?_
      · simp
      · simp
      simp
      refine ⟨oEnd_of (by simp [p_slices_insertionSortCmpFunc_i_Grant_3]) (by simp), fun hneg => ?_, fun hpos => ?_⟩
      · have hatE : ∀ h, (onWay P R x j)[j]'h = x := fun h => by rw [List.getElem_eq_iff]; exact hat
        have hbfE : ∀ h, (onWay P R x j)[j - 1]'h = P[j - 1] := fun h => by rw [List.getElem_eq_iff]; exact hbf
        have hne : ¬ j = j - 1 := by omega
        simp [r_slices_insertionSortCmpFunc_i_Grant_4, p_slices_insertionSortCmpFunc_i_Grant_4, hlj, hwr, hj1, hlen, hatE, hbfE, List.getElem_set, hne]
        have hsw := onWay_swap (R := R) (x := x) (show j ≤ P.length by omega) h1
        refine ⟨oEnd_of (by simp [p_slices_insertionSortCmpFunc_i_Grant_4]) (by simp), ?_⟩
        simp [r_slices_insertionSortCmpFunc_i_Grant_5]
        rw [hwr]
        refine hN2 (j - 1) _ (by omega) ⟨by omega, fun q h h' => ?_⟩ (Wk.list rfl (by simp) (by simp [← hsw]))
        by_cases e : q = j - 1
        · subst e; exact hcc.1 hneg
        · exact hpj q h (by omega)
      · have hF : lt x P[j - 1] = false := Bool.eq_false_iff.2 fun e => by have := hcc.2 e; omega
        have hins : insR (lt x) x P = P.take j ++ x :: P.drop j := insR_at (by omega) (fun q h h' => hpj q h h') (fun _ => hF)
        refine hE2 _ _ ?_
        simp only [blockK_exit]
        simp [r_slices_insertionSortCmpFunc_i_Grant_7]
        rw [wrap64 (by omega) (by omega)]
        refine hN (i + 1) _ (by omega) ⟨by omega, .inl (by omega)⟩ (Wk.list rfl (by simp) (by simp [hnext j hins]))
    · subst h1
      have hins : insR (lt x) x P = P.take 0 ++ x :: P.drop 0 := insR_at (by omega) (fun q h h' => hpj q h h') (fun h => by omega)
      refine ⟨oEnd_of (by simp [p_slices_insertionSortCmpFunc_i_Grant_3]) (by simp), ?_⟩
      refine hE2 _ _ ?_
      simp only [blockK_exit]
      simp [r_slices_insertionSortCmpFunc_i_Grant_7]
      rw [wrap64 (by omega) (by omega)]
      refine hN (i + 1) _ (by omega) ⟨by omega, .inl (by omega)⟩ (Wk.list rfl (by simp) (by simp [hnext 0 hins]))
  · refine hE _ _ ?_
    simp only [blockK_exit]
    simp [rowI_end lt l hge]
theorem stableCmp_grants (l : List Grant) (lt : Grant → Grant → Bool) (c : Grant → Grant → Int) (g : Nat) (hl : l.length < 20) (hg : ∀ x ∈ l, ∀ y ∈ l, PCall Tryz.prog g [eGrant x, eGrant y] (I (c x y))) (hc : ∀ x ∈ l, ∀ y ∈ l, (c x y < 0 ↔ lt x y = true)) :
    MCall Tryz.prog n_slices_stableCmpFunc_i_Grant [⟨18, l.map eGrant⟩] [.sl (mid 0) 0 l.length, I l.length, .clo g []] (.tup []) [some ⟨18, (sortR lt l).map eGrant⟩] := by
  refine MCall.of fn_slices_stableCmpFunc_i_Grant (by simp) rfl (by simp) ?_
  have h1 : ¬ (20 : Int) ≤ l.length := by omega
  have h2 : ¬ (20 : Int) < l.length := by omega
  simp [c_slices_stableCmpFunc_i_Grant, r_slices_stableCmpFunc_i_Grant_0, r_slices_stableCmpFunc_i_Grant_1]
  refine loopK (fun _ : Unit => ⟨[(0, .sl 1000000 0 l.length), (1, I l.length), (2, .clo g []), (6, I 20), (7, I 0), (8, I 20)], [(1000000, ⟨18, l.map eGrant⟩)], [1000000]⟩) (fun _ => 0) (fun _ => True) () (Wk.list rfl (by simp) (by simp)) trivial ?_
  rintro _ _ K hN hR hE
  simp [l_slices_stableCmpFunc_i_Grant_6, r_slices_stableCmpFunc_i_Grant_2, h1]
  refine hE _ _ ?_
  simp only [blockK_exit]
  simp [r_slices_stableCmpFunc_i_Grant_7]
  refine callQ_M [1000000] (MCall.arg (insertionSort_grants l lt c g (by omega) hg hc) (by simp)) (by simp) (by simp) (by simp) (by simp) rfl rfl (by simp) ?_
  simp
  refine loopK (fun _ : Unit => ⟨[(0, .sl 1000000 0 l.length), (1, I l.length), (2, .clo g []), (6, I 20)], [(1000000, ⟨18, (sortR lt l).map eGrant⟩)], [1000000]⟩) (fun _ => 0) (fun _ => True) () (Wk.list rfl (by simp) (by simp)) trivial ?_
  rintro _ _ K hN hR hE
  simp [l_slices_stableCmpFunc_i_Grant_19, r_slices_stableCmpFunc_i_Grant_8, h2]
  refine hE _ _ ?_
  simp only [blockK_exit]
  simp
theorem sortStable_grants (l : List Grant) (lt : Grant → Grant → Bool) (c : Grant → Grant → Int) (g : Nat) (hl : l.length < 20) (hg : ∀ x ∈ l, ∀ y ∈ l, PCall Tryz.prog g [eGrant x, eGrant y] (I (c x y))) (hc : ∀ x ∈ l, ∀ y ∈ l, (c x y < 0 ↔ lt x y = true)) :
    MCall Tryz.prog n_slices_SortStableFunc_i_Grant_i_Grant [⟨18, l.map eGrant⟩] [.sl (mid 0) 0 l.length, .clo g []] (.tup []) [some ⟨18, (sortR lt l).map eGrant⟩] := by
  refine MCall.of fn_slices_SortStableFunc_i_Grant_i_Grant (by simp) rfl (by simp) ?_
  simp [c_slices_SortStableFunc_i_Grant_i_Grant, r_slices_SortStableFunc_i_Grant_i_Grant_0]
  refine callQ_M [1000000] (MCall.arg (stableCmp_grants l lt c g hl hg hc) (by simp)) (by simp) (by simp) (by simp) (by simp) rfl rfl (by simp) ?_
  simp
end Go.Proofs.YtbeoijlggphklaaGreatDoor

/- The order of a roll: program, reference. -/
set_option linter.unusedVariables false
set_option linter.unusedSimpArgs false
namespace Go.Proofs.YtbeoijlggphklaaGreatDoor
open Go.Abs

theorem compare_lt : ∀ (a b : List UInt8), Lib.compareBytes a b < 0 ↔ a < b
  | [], [] => by simp [Lib.compareBytes]
  | [], _ :: _ => by simp [Lib.compareBytes]
  | _ :: _, [] => by simp [Lib.compareBytes]
  | a :: xs, b :: ys => by
    have ih := compare_lt xs ys
    rw [Lib.compareBytes, List.cons_lt_cons_iff]
    by_cases h1 : a < b
    · simp [h1]
    · by_cases h2 : b < a
      · have : a ≠ b := by rintro rfl; exact h1 h2
        simp [h1, h2, this]
      · have : a = b := UInt8.le_antisymm (UInt8.not_lt.1 h2) (UInt8.not_lt.1 h1)
        subst this
        simp [h1, ih]
theorem less_iff : ∀ {x y : List UInt8}, Op.bytesLess x y = true ↔ x < y
  | [], [] => by simp [Op.bytesLess]
  | [], y :: ys => by simp [Op.bytesLess]
  | x :: xs, [] => by simp [Op.bytesLess]
  | x :: xs, y :: ys => by
    have ih := @less_iff xs ys
    rw [Op.bytesLess]
    rw [List.cons_lt_cons_iff]
    simp [ih]
theorem less_eq (x y : List UInt8) : Op.bytesLess x y = decide (x < y) := by rw [Bool.eq_iff_iff, less_iff, decide_eq_true_iff]
theorem strings_Compare (a b : List UInt8) : PCall Tryz.prog n_strings_Compare [S a, S b] (I (Lib.compareBytes a b)) :=
  PCall.same (vs := [.string (bs a), .string (bs b)]) (y := .int .i64 (Lib.compareBytes a b)) (by kernel_rfl) (fun _ _ => CV_mkv rfl) (fun w _ _ => Tryz.strings_Compare (bs a) (bs b) w)
theorem i_Register_ordered_1 (a b : Grant) : PCall Tryz.prog n_i_Register_ordered_1 [eGrant a, eGrant b] (I (Lib.compareBytes a.name b.name)) := by
  refine PCall.of fn_i_Register_ordered_1 (by simp) ?_
  simp [c_i_Register_ordered_1, r_i_Register_ordered_1_0, r_i_Register_ordered_1_1]
  refine callQ_v (PCall.arg (strings_Compare a.name b.name) (by simp)) ?_
  simp
theorem i_Register_ordered_2 (a b : Grant) (ha : arms a.arms = true) (hb : arms b.arms = true) : PCall Tryz.prog n_i_Register_ordered_2 [eGrant a, eGrant b] (I (Lib.compareBytes (armsT a.arms) (armsT b.arms))) := by
  refine PCall.of fn_i_Register_ordered_2 (by simp) ?_
  simp [c_i_Register_ordered_2, r_i_Register_ordered_2_0, r_i_Register_ordered_2_1, p_i_Register_ordered_2_1]
  refine callD_v (PCall.arg (i_Arms_text a.arms ha) (by simp)) ?_ ?_ ?_
  · simp
  · simp
  simp
  refine callD_v (PCall.arg (i_Arms_text b.arms hb) (by simp)) ?_ ?_ ?_
  · simp
  · simp
  simp
  refine callD_v (PCall.arg (strings_Compare (armsT a.arms) (armsT b.arms)) (by simp)) ?_ ?_ ?_
  · simp
  · simp
  simp
  exact oEnd_of (by simp [p_i_Register_ordered_2_1]) (by simp)
theorem i_Register_ordered (l : Register) (y : Int) (h : register l = true) : PCall Tryz.prog n_i_Register_ordered [eRegister l, I y] (.own 18 ((rollOrd y l).map eGrant)) := by
  have hl := register_len h
  have harm : ∀ g ∈ l, arms g.arms = true := fun g hg => (grantOk_iff (register_grant h g hg)).2.2.2
  refine PCall.of fn_i_Register_ordered (by simp) ?_
  simp [c_i_Register_ordered, r_i_Register_ordered_0, r_i_Register_ordered_1, r_i_Register_ordered_2]
  refine ⟨by unfold lenBound; omega, ?_⟩
  by_cases h2 : y = 2
  · have e : rollOrd y l = sortR (fun a b => decide (a.name < b.name)) l := by rw [rollOrd]; congr 1; funext a b; simp [ordLt, h2]
    rw [e]
    simp [r_i_Register_ordered_3, r_i_Register_ordered_4, h2]
    refine callQ_M [9] (MCall.arg (sortStable_grants l (fun a b => decide (a.name < b.name)) (fun a b => Lib.compareBytes a.name b.name) n_i_Register_ordered_1 (by omega) (fun x _ y _ => i_Register_ordered_1 x y) (fun x _ y _ => by simp [compare_lt])) (by simp)) (by simp) (by simp) (by simp) (by simp) rfl rfl (by simp) ?_
    simp [r_i_Register_ordered_7, sortR_len]
  · by_cases h3 : y = 3
    · have e : rollOrd y l = sortR (fun a b => decide (armsT a.arms < armsT b.arms)) l := by rw [rollOrd]; congr 1; funext a b; simp [ordLt, h3]
      rw [e]
      simp [r_i_Register_ordered_3, r_i_Register_ordered_5, r_i_Register_ordered_6, h3]
      refine callQ_M [9] (MCall.arg (sortStable_grants l (fun a b => decide (armsT a.arms < armsT b.arms)) (fun a b => Lib.compareBytes (armsT a.arms) (armsT b.arms)) n_i_Register_ordered_2 (by omega) (fun x hx y hy => i_Register_ordered_2 x y (harm x hx) (harm y hy)) (fun x _ y _ => by simp [compare_lt])) (by simp)) (by simp) (by simp) (by simp) (by simp) rfl rfl (by simp) ?_
      simp [r_i_Register_ordered_7, sortR_len]
    · have e : rollOrd y l = l := sortR_none (fun a b => by simp [ordLt, h2, h3]) l
      rw [e]
      simp [r_i_Register_ordered_3, r_i_Register_ordered_5, r_i_Register_ordered_7, h2, h3]
theorem s_l25By (y : Int) : PCall Tryz.prog n_s_l25By [I y] (B (inR y 1 3)) := by
  refine PCall.of fn_s_l25By (by simp) ?_
  simp [c_s_l25By, r_s_l25By_0, r_s_l25By_1]
  exact callQ_v (s_l1In ..) (by simp)
theorem s_l25Before (a b : Grant) (y : Int) (ha : arms a.arms = true) (hb : arms b.arms = true) : PCall Tryz.prog n_s_l25Before [eGrant a, eGrant b, I y] (B (beforeS y a b)) := by
  refine PCall.of fn_s_l25Before (by simp) ?_
  simp [c_s_l25Before, r_s_l25Before_0, r_s_l25Before_1]
  by_cases h2 : y = 2
  · simp [r_s_l25Before_2, r_s_l25Before_3, h2, less_eq, beforeS]
    refine ⟨fun hle => ⟨fun e => ?_, fun e => ⟨hle, fun h => absurd h e⟩⟩, fun h => .inl h⟩
    have hn : ¬ a.name < b.name := List.not_lt.2 hle
    rw [decide_eq_false hn, decide_eq_true e, Bool.false_or, Bool.true_and]
  · by_cases h3 : y = 3
    · simp [r_s_l25Before_2, r_s_l25Before_4, r_s_l25Before_5, p_s_l25Before_5, h3, beforeS]
      refine callD_v (PCall.arg (s_l6Text a.arms ha) (by simp)) ?_ ?_ ?_
      · simp
      · simp
      simp
      refine callD_v (PCall.arg (s_l6Text b.arms hb) (by simp)) ?_ ?_ ?_
      · simp
      · simp
      simp [less_eq]
      exact ⟨oEnd_of (by simp [p_s_l25Before_5]) (by simp), by simp [beforeS, h3]⟩
    · simp [r_s_l25Before_2, r_s_l25Before_4, r_s_l25Before_6, h2, h3, beforeS]
abbrev eIx (i : Nat) : V := I (i : Int)
def ixR (y : Int) (l : List Grant) (i : Nat) : List Nat := sortR (fun i j => beforeS y (l.getD i g00) (l.getD j g00)) (List.range i)
theorem ixR_len (y : Int) (l : List Grant) (i : Nat) : (ixR y l i).length = i := by rw [ixR, sortR_len, List.length_range]
theorem ixR_lt {y : Int} {l : List Grant} {i : Nat} : ∀ q ∈ ixR y l i, q < i := fun q hq => List.mem_range.1 (sortR_mem.1 hq)
theorem ixR_succ {y : Int} {l : List Grant} {i k : Nat} (hk : k ≤ i) (h1 : ∀ q (h : q < (ixR y l i).length), k ≤ q → beforeS y (l.getD i g00) (l.getD (ixR y l i)[q] g00) = true)
    (h2 : ∀ h : 0 < k, beforeS y (l.getD i g00) (l.getD ((ixR y l i)[k - 1]'(by rw [ixR_len]; omega)) g00) = false) : ixR y l (i + 1) = (ixR y l i).take k ++ i :: (ixR y l i).drop k := by
  have e : ixR y l (i + 1) = insR ((fun i j => beforeS y (l.getD i g00) (l.getD j g00)) i) i (ixR y l i) := by rw [ixR, List.range_succ, sortR_snoc]; rfl
  rw [e]
  exact insR_at (by rw [ixR_len]; exact hk) h1 h2
theorem ins_row {R : List Nat} {k i : Nat} (hk : k ≤ R.length) (hi : R.length = i) : List.take (k + 1) (List.take k (List.take k (List.map eIx R)) ++ [I i]) ++ List.take (i - k) (List.drop k (List.map eIx R)) = (R.take k ++ i :: R.drop k).map eIx := by
  have e1 : List.take (k + 1) (List.take k (List.map eIx R) ++ [I i]) = List.take k (List.map eIx R) ++ [I i] := List.take_of_length_le (by simp only [List.length_append, List.length_take, List.length_map, List.length_singleton]; omega)
  have e2 : List.take (i - k) (List.drop k (List.map eIx R)) = List.drop k (List.map eIx R) := List.take_of_length_le (by simp only [List.length_drop, List.length_map]; omega)
  rw [List.take_take, Nat.min_self, e1, e2, List.map_append, List.map_cons, List.map_take, List.map_drop, List.append_assoc]
  rfl
set_option maxHeartbeats 1000000 in
theorem s_l25Order (l : Register) (y : Int) (h : register l = true) : PCall Tryz.prog n_s_l25Order [eRegister l, I y] (.own 1 ((rollIx y l).map eIx)) := by
  have hl := register_len h
  have harm : ∀ g ∈ l, arms g.arms = true := fun g hg => (grantOk_iff (register_grant h g hg)).2.2.2
  refine PCall.of fn_s_l25Order (by simp) ?_
  simp [c_s_l25Order, r_s_l25Order_0, r_s_l25Order_1, r_s_l25Order_2]
  refine loopK (fun i : Nat => ⟨[(1, I y), (2, .ref 2 0 0), (5, .sl 8 0 i), (6, I i)], [(2, ⟨1, [eRegister l]⟩), (8, ⟨1, (ixR y l i).map eIx⟩)], []⟩) (fun i => l.length - i) (fun i => i ≤ l.length) 0 (Wk.list rfl (by simp) (by simp [ixR, sortR])) (by simp) ?_
  intro i hi K hN hR hE
  have hxl := ixR_len y l i
  simp [l_s_l25Order_10, r_s_l25Order_3]
  refine ⟨fun hlt => ?_, fun hge => ?_⟩
  · simp [r_s_l25Order_4]
    refine loopK (fun k : Nat => ⟨[(1, I y), (2, .ref 2 0 0), (5, .sl 8 0 i), (6, I i), (7, I k)], [(2, ⟨1, [eRegister l]⟩), (8, ⟨1, (ixR y l i).map eIx⟩)], []⟩) (fun k => k) (fun k => k ≤ i ∧ ∀ q (h : q < (ixR y l i).length), k ≤ q → beforeS y (l.getD i g00) (l.getD (ixR y l i)[q] g00) = true) i (Wk.list rfl (by simp) (by simp)) ⟨Nat.le_refl _, fun q h h' => by omega⟩ ?_
    rintro k ⟨hk, hq⟩ K2 hN2 hR2 hE2
    simp [l_s_l25Order_7, r_s_l25Order_5, p_s_l25Order_5]
    have fin : (ixR y l (i + 1) = (ixR y l i).take k ++ i :: (ixR y l i).drop k) → K2 (.exit 2) ⟨[(1, I y), (2, .ref 2 0 0), (5, .sl 8 0 i), (6, I i), (7, I k), (37, B false)], [(2, ⟨1, [eRegister l]⟩), (8, ⟨1, (ixR y l i).map eIx⟩)], []⟩ := fun e => by
      refine hE2 _ _ ?_
      simp only [blockK_exit]
      have hk' : k ≤ (ixR y l i).length := by omega
      simp [r_s_l25Order_8, p_s_l25Order_8, r_s_l25Order_9, hxl, hk]
      have hm : ∀ d, ments d (List.take k (List.take k (List.map eIx (ixR y l i)))) = false := fun d => ments_take (ments_take (by simp))
      refine ⟨by unfold lenBound; omega, by unfold lenBound; omega, noOwns_take (noOwns_drop (by simp)), by unfold lenBound; omega, oEnd_of (by simp [p_s_l25Order_8, hm]) (by simp), ?_⟩
      rw [wrap64 (by omega) (by omega), ins_row hk' hxl, ← e, show k + 1 + (i - k) = i + 1 by omega]
      have hT : ∀ s, Wk s ⟨[(1, I y), (2, .ref 2 0 0), (5, .sl 51 0 (i + 1)), (6, I ((i : Int) + 1))], [(51, ⟨1, (ixR y l (i + 1)).map eIx⟩), (2, ⟨1, [eRegister l]⟩)], []⟩ → Wk s ⟨[(1, I y), (2, .ref 2 0 0), (5, .sl 8 0 (i + 1)), (6, I ((i + 1 : Nat) : Int))], [(2, ⟨1, [eRegister l]⟩), (8, ⟨1, (ixR y l (i + 1)).map eIx⟩)], []⟩ :=
        fun s h => Wk.trans h <| Wk.trans (Wk.ren 51 8 (by decide) (by simp)) (Wk.list rfl (by simp [AS.ren, ren, reN]) (by simp [AS.ren, ren, reN, renB]))
      exact hN (i + 1) _ (by omega) (by omega) (hT _ (Wk.list rfl (by simp) (by simp)))
    refine ⟨fun h1 => ⟨hlt, ?_⟩, fun h1 => ?_⟩
    · have hwr : IntKind.i64.wrap ((k : Int) - 1) = ((k - 1 : Nat) : Int) := by rw [wrap64 (by omega) (by omega)]; omega
      have hqk : k - 1 < (ixR y l i).length := by omega
      obtain ⟨q, hqd⟩ : ∃ q, (ixR y l i)[k - 1] = q := ⟨_, rfl⟩
      have hqi : q < i := ixR_lt q (hqd ▸ List.getElem_mem _)
      have hql : q < List.length l := by omega
      have hgi : List.getD l i g00 = l[i] := by simp [hlt]
      have hgq : List.getD l q g00 = l[q] := by simp [hql]
      have hki : k - 1 < i := by omega
      have hqE : (ixR y l i)[k - 1]? = some q := by rw [List.getElem?_eq_getElem hqk, hqd]
      simp [hlt, hwr, hqE, hql, hki]
      refine callD_v (PCall.arg (s_l25Before l[i] l[q] y (harm _ (List.getElem_mem _)) (harm _ (List.getElem_mem _))) (by simp)) ?_ ?_ ?_
      · simp
      · simp
      cases hb : beforeS y l[i] l[q] with
      | true =>
        simp
        refine ⟨oEnd_of (by simp [p_s_l25Order_5]) (by simp), ?_⟩
        simp [r_s_l25Order_6]
        rw [hwr]
        refine hN2 (k - 1) _ (by omega) ⟨by omega, fun p hp h' => ?_⟩ (Wk.list rfl (by simp) (by simp))
        by_cases e : p = k - 1
        · subst e; rw [hqd, hgi, hgq]; exact hb
        · exact hq p hp (by omega)
      | false =>
        simp
        exact ⟨oEnd_of (by simp [p_s_l25Order_5]) (by simp), fin (ixR_succ hk hq fun _ => by rw [hqd, hgi, hgq]; exact hb)⟩
    · subst h1
      exact ⟨oEnd_of (by simp [p_s_l25Order_5]) (by simp), fin (ixR_succ hk hq fun h => by omega)⟩
  · obtain rfl : i = List.length l := by omega
    refine hE _ _ ?_
    simp only [blockK_exit]
    simp [r_s_l25Order_11, hxl]
    rfl
end Go.Proofs.YtbeoijlggphklaaGreatDoor

/- The compact code of the functions, and that it is theirs: written by a program of this claim. -/
namespace Go.Proofs.YtbeoijlggphklaaGreatDoor
open Go.Abs
set_option maxRecDepth 100000
end Go.Proofs.YtbeoijlggphklaaGreatDoor

/- The compact code of the functions, and that it is theirs: written by a program of this claim. -/
namespace Go.Proofs.YtbeoijlggphklaaGreatDoor
open Go.Abs
set_option maxRecDepth 100000
end Go.Proofs.YtbeoijlggphklaaGreatDoor

/- The texts by which the laws mark memory. -/
set_option linter.unusedVariables false
set_option linter.unusedSimpArgs false
namespace Go.Proofs.YtbeoijlggphklaaGreatDoor
open Go.Abs

end Go.Proofs.YtbeoijlggphklaaGreatDoor

/- Rows of rows of texts: equality, marks; helpers of the laws. -/
set_option linter.unusedVariables false
set_option linter.unusedSimpArgs false
namespace Go.Proofs.YtbeoijlggphklaaGreatDoor
open Go.Abs

abbrev ownS (p : List (List UInt8)) : V := .own 1 (p.map S)
abbrev roS (p : List (List UInt8)) : V := .ro 1 (p.map S)
@[simp] theorem map_borrow_ownS (hp : Nat → Option Blk) (k : Nat) (l : List (List (List UInt8))) : List.map (borrow hp (k + 2) ∘ ownS) l = l.map roS := by simp [Function.comp_def]
@[simp] theorem map_borrow_roS (hp : Nat → Option Blk) (k : Nat) (l : List (List (List UInt8))) : List.map (borrow hp (k + 1) ∘ roS) l = l.map roS := by simp [Function.comp_def]
end Go.Proofs.YtbeoijlggphklaaGreatDoor

/- The pages of a roll in the program. -/
set_option linter.unusedVariables false
set_option linter.unusedSimpArgs false
namespace Go.Proofs.YtbeoijlggphklaaGreatDoor
open Go.Abs

theorem i_IsValidRoll (x : Roll) : PCall Tryz.prog n_i_IsValidRoll [eRoll x] (B (rollOk x)) := by
  refine PCall.of fn_i_IsValidRoll (by simp) ?_
  simp [c_i_IsValidRoll, r_i_IsValidRoll_0, r_i_IsValidRoll_1]
  refine callQ_v (i_inside ..) ?_
  cases h1 : inR x.by_ 1 3 with
  | false => simp [rollOk, h1]
  | true =>
  simp
  refine callQ_v (i_inside ..) ?_
  cases h2 : inR x.width 20 60 with
  | false => simp [rollOk, h1, h2]
  | true =>
  simp
  refine callQ_v (i_inside ..) ?_
  simp [rollOk, h1, h2]
def ofI (P : List (List Grant)) : List Int := (ofGo 0 P).map fun k : Nat => (k : Int)
theorem ofI_len (P : List (List Grant)) : (ofI P).length = P.flatten.length := by rw [ofI, List.length_map, ofGo_len]
theorem ofI_snoc (D : List (List Grant)) (C : List Grant) (g : Grant) : ofI (D ++ [C ++ [g]]) = ofI (D ++ [C]) ++ [((D.length + 1 : Nat) : Int)] := by
  unfold ofI
  rw [ofGo_append, ofGo_append]
  simp [ofGo, List.replicate_succ']
theorem ofI_empty (D : List (List Grant)) : ofI (D ++ [[]]) = ofI D := by
  unfold ofI
  rw [ofGo_append]
  simp [ofGo]
def ofL (l : List Grant) (x : Roll) : List Int := ofI ((asked l x).getD [])
abbrev pageV (x : Roll) (p : List Grant) : V := ownS (linesP x p)
theorem linesP_snoc (x : Roll) (p : List Grant) (g : Grant) : linesP x (p ++ [g]) = linesP x p ++ entryL x.width g := by simp [linesP]
def szE (x : Roll) (g : Grant) : Nat := (entryL x.width g).length
theorem leVs_snoc {u v : V} (h : leV u v) : ∀ xs : List V, (∀ a ∈ xs, leV a a) → leVs (xs ++ [u]) (xs ++ [v])
  | [], _ => by simp [h]
  | a :: xs, ha => by
    have ih := leVs_snoc h xs fun b hb => ha b (by simp [hb])
    simp [ha a (by simp), ih]
/-- Where the page is that is being filled. -/
def pagedSt (x : Roll) (L : List Grant) (k : Nat) (D : List (List Grant)) (C E : List (List UInt8)) (F : List Int) : AS :=
  ⟨[(3, .ref 3 0 0), (7, .sl 22 0 (D.length + 1)), (8, .sl 23 0 k), (11, .sl 36 0 E.length), (27, .sl 27 0 L.length), (28, I L.length), (29, I k)], [(3, ⟨3, [eRoll x]⟩), (22, ⟨1, D.map (pageV x) ++ [.sl 500 0 C.length]⟩), (500, ⟨1, C.map S⟩), (23, ⟨1, ints F⟩), (36, ⟨1, E.map S⟩), (27, ⟨18, L.map eGrant⟩)], []⟩
theorem pagedSt_new {x : Roll} {L : List Grant} {k : Nat} {P : List (List Grant)} {E : List (List UInt8)} {F : List Int} {s : AS}
    (h : Wk s ⟨[(3, .ref 3 0 0), (7, .sl 62 0 (P.length + 1)), (8, .sl 23 0 k), (11, .sl 36 0 E.length), (27, .sl 27 0 L.length), (28, I L.length), (29, I k)], [(62, ⟨1, P.map (pageV x) ++ [.v (.slice none 0 0)]⟩), (3, ⟨3, [eRoll x]⟩), (23, ⟨1, ints F⟩), (36, ⟨1, E.map S⟩), (27, ⟨18, L.map eGrant⟩)], []⟩) :
    Wk s (pagedSt x L k P [] E F) := by
  have hl : (P.map (pageV x)).length = P.length := List.length_map ..
  refine Wk.trans h <| Wk.trans (Wk.le 62 (P.map (pageV x) ++ [.own 1 []]) (by rfl) (leVs_snoc (u := .v (.slice none 0 0)) (v := .own 1 []) (by simp) _ fun a ha => ?_)) <| Wk.trans (Wk.unfold1 62 P.length 500 (sz := 1) (es := []) (by rfl) (app_get hl) (by simp)) <| Wk.trans (Wk.ren 62 22 (by decide) ?_) (Wk.list rfl ?_ ?_)
  · obtain ⟨p, _, rfl⟩ := List.mem_map.1 ha
    simp
  · simp [app_set hl]
  · simp [pagedSt, AS.ren, ren, reN]
  · simp [pagedSt, AS.ren, ren, reN, renB, app_set hl]
structure Fill (x : Roll) (L : List Grant) (k : Nat) (g : Grant) (D : List (List Grant)) (C : List Grant) (F : List Int) : Prop where
  num : F = ofI (D ++ [C])
  at_ : PagedAt (szE x) x.height.toNat L (k + 1) (D ++ [C ++ [g]])
  flat : (D ++ [C ++ [g]]).flatten.length = k + 1
  few : D.length ≤ k
  low : ∀ q ∈ D ++ [C ++ [g]], (linesP x q).length ≤ x.height.toNat
set_option maxHeartbeats 4000000 in
theorem i_paged (l : Register) (x : Roll) : PCall Tryz.prog n_i_paged [eRegister l, eRoll x] (.tup [.own 1 ((pagesL l x).map ownS), .own 1 (ints (ofL l x)), B (textOk l x)]) := by
  refine PCall.ofN fn_i_paged (by simp) ?_
  simp [c_i_paged, r_i_paged_0, r_i_paged_1]
  refine callQ_v (PCall.arg (i_IsValidRegister l) (by simp)) ?_
  cases h1 : register l with
  | false => simp [r_i_paged_2, pagesL, ofL, ofI, ofGo, textOk, asked, askedOk, h1]
  | true =>
  simp
  refine callQ_v (PCall.arg (i_IsValidRoll x) (by simp)) ?_
  cases h2 : rollOk x with
  | false => simp [r_i_paged_2, pagesL, ofL, ofI, ofGo, textOk, asked, askedOk, h1, h2]
  | true =>
  obtain ⟨k1, k2, k3⟩ := rollOk_iff h2
  have hl := register_len h1
  have hL := rollOrd_len x.by_ l
  have hLg : ∀ g ∈ rollOrd x.by_ l, grantOk g = true := fun g hg => register_grant h1 g (rollOrd_mem.1 hg)
  have hask : asked l x = packs (szE x) x.height.toNat (rollOrd x.by_ l) := by simp only [asked, askedOk, h1, h2]; rfl
  have hpl : pagesL l x = ((packs (szE x) x.height.toNat (rollOrd x.by_ l)).getD []).map (linesP x) := by rw [pagesL, hask]
  have hol : ofL l x = ofI ((packs (szE x) x.height.toNat (rollOrd x.by_ l)).getD []) := by rw [ofL, hask]
  have htk : textOk l x = (packs (szE x) x.height.toNat (rollOrd x.by_ l)).isSome := by rw [textOk, hask]
  simp [r_i_paged_3, r_i_paged_4]
  refine callQ_of (PCall.arg (i_Register_ordered l x.by_ h1) (by simp)) rfl (.inl (by simp)) (by simp) ?_
  rw [hpl, hol, htk]
  generalize rollOrd x.by_ l = L at hL hLg ⊢
  simp
  refine loopK (fun p : List (List Grant) × Nat => ⟨[(3, .ref 3 0 0), (7, .sl 22 0 p.1.length), (8, .sl 23 0 p.2), (27, .sl 27 0 L.length), (28, I L.length), (29, I p.2)], [(3, ⟨3, [eRoll x]⟩), (22, ⟨1, p.1.map (pageV x)⟩), (23, ⟨1, ints (ofI p.1)⟩), (27, ⟨18, L.map eGrant⟩)], []⟩) (fun p => L.length - p.2)
    (fun p => p.2 ≤ L.length ∧ PagedAt (szE x) x.height.toNat L p.2 p.1 ∧ p.1.flatten.length = p.2 ∧ p.1.length ≤ p.2 ∧ ∀ q ∈ p.1, (linesP x q).length ≤ x.height.toNat) ([], 0) (Wk.list rfl (by simp) (by simp [ofI, ofGo])) (by simp [PagedAt]) ?_
  rintro ⟨P, k⟩ ⟨hk, hP, hfl, hPl, hPs⟩ K hN hR hE
  dsimp only at hk hP hfl hPl hPs ⊢
  have hof := ofI_len P
  simp [l_i_paged_17, r_i_paged_5]
  refine ⟨fun hlt => ?_, fun hge => ?_⟩
  · obtain ⟨g, hg⟩ : ∃ g, L[k] = g := ⟨_, rfl⟩
    have hgo : grantOk g = true := hLg g (hg ▸ List.getElem_mem _)
    have hEl := entryL_len x.width g
    simp [r_i_paged_6, hlt, hg]
    simp [r_i_paged_7]
    refine callQ_of (PCall.arg (i_entry g x.width hgo k2) (by simp)) rfl (.inl (by simp)) (by simp) ?_
    have hsz : szE x g = (entryL x.width g).length := rfl
    have hls := linesP_snoc x
    obtain ⟨E, hEe⟩ : ∃ E, entryL x.width g = E := ⟨_, rfl⟩
    rw [hEe] at hEl hsz ⊢
    simp [r_i_paged_8]
    refine ⟨fun hbig => ?_, fun hfit => ?_⟩
    · have hnone := hP.fail hlt (by rw [hg, hsz]; omega)
      simp [r_i_paged_9]
      refine hR _ ?_
      simp [hnone, ofI, ofGo]
    · simp [r_i_paged_10]
      have hcase : P = [] ∨ ∃ done cur, P = done ++ [cur] := by
        rcases hP with ⟨_, h⟩ | ⟨d, c, h, _⟩
        · exact .inl h
        · exact .inr ⟨d, c, h⟩
      have hfitL : ¬ x.height.toNat < szE x L[k] := by rw [hg, hsz]; omega
      rcases hcase with rfl | ⟨done, cur, rfl⟩
      case' inl =>
        refine wk_of _ (Wk.refl _) ?_
        simp [r_i_paged_11, p_i_paged_11]
        refine ⟨oEnd_of (by simp [p_i_paged_11]) (by simp), ?_⟩
        simp [r_i_paged_12]
        refine ⟨by unfold lenBound; omega, ?_⟩
        have hfill : Fill x L k g [] [] (ofI []) := ⟨rfl, by have := hP.new hlt hfitL (.inl rfl); rw [hg] at this; simpa using this, by simp at hfl; simp [← hfl], by simp, by
          intro q hq
          simp at hq
          subst hq
          rw [show ([g] : List Grant) = [] ++ [g] from rfl, hls, List.length_append, hEe, show linesP x [] = [] from rfl, List.length_nil]; omega⟩
        have hl0 : linesP x [] = [] := rfl
        refine wk_of (pagedSt x L k [] (linesP x []) E (ofI [])) (pagedSt_new (Wk.list rfl (by simp) (by simp))) ?_
        generalize ([] : List (List Grant)) = D at hfill ⊢
        generalize ofI _ = F at hfill ⊢
        generalize ([] : List Grant) = C at hfill ⊢
      case' inr =>
        have hdl : (done.map (pageV x)).length = done.length := List.length_map ..
        simp only [List.map_append, List.map_cons, List.map_nil]
        refine wk_of _ (Wk.unfold1 22 done.length 500 (sz := 1) (es := (linesP x cur).map S) (by rfl) (app_get hdl) (by simp)) ?_
        have hdb : done.length + 1 ≤ k := by simpa using hPl
        have hw : IntKind.i64.wrap (done.length : Int) = done.length := wrap64 (by omega) (by omega)
        have hnz : ¬ ((done.length : Int) + 1 = 0) := by omega
        have hcl := hPs cur (by simp)
        have hsc : sizeB (szE x) cur = (linesP x cur).length := (linesP_len x cur).symm
        simp [r_i_paged_11, p_i_paged_11, app_set hdl, app_get hdl, hw, hnz]
        rw [wrap64 (n := ((linesP x cur).length : Int) + E.length) (by omega) (by omega)]
        refine ⟨by omega, oEnd_of (by simp [p_i_paged_11]) (by simp), fun hover => ?over, fun hfits => ?fits⟩
        case' over =>
          simp [r_i_paged_12, app_get hdl]
          have hfill : Fill x L k g (done ++ [cur]) [] (ofI (done ++ [cur])) := ⟨(ofI_empty _).symm, by have := hP.new hlt hfitL (.inr ⟨done, cur, rfl, by rw [hsc, hg, hsz]; omega⟩); rw [hg] at this; simpa using this, by simp at hfl; simp; omega, by simpa using hPl, by
            intro q hq
            rcases List.mem_append.1 hq with hq | hq
            · exact hPs q hq
            simp at hq
            subst hq
            rw [show ([g] : List Grant) = [] ++ [g] from rfl, hls, List.length_append, hEe, show linesP x [] = [] from rfl, List.length_nil]; omega⟩
          have ht2 : List.take (done.length + 1) (List.map (pageV x) done ++ [V.sl 500 0 (linesP x cur).length]) = List.map (pageV x) done ++ [V.sl 500 0 (linesP x cur).length] := List.take_of_length_le (by simp)
          rw [ht2]
          refine ⟨by unfold lenBound; omega, ?_⟩
          have hl0 : linesP x [] = [] := rfl
          refine wk_of (pagedSt x L k (done ++ [cur]) (linesP x []) E (ofI (done ++ [cur]))) (pagedSt_new (Wk.trans (Wk.fold1 62 done.length 500 (n := (linesP x cur).length) (by rfl) (by rfl) (by rw [List.append_assoc]; exact app_get hdl) (by simp) (by simp) (by simp)) (Wk.list rfl (by simp) (by simp [app_set hdl])))) ?_
          generalize ofI _ = F at hfill ⊢
          generalize done ++ [cur] = D at hfill ⊢
          generalize ([] : List Grant) = C at hfill ⊢
        case' fits =>
          have hfill : Fill x L k g done cur (ofI (done ++ [cur])) := ⟨rfl, by have := hP.add hlt hfitL (by rw [hsc, hg, hsz]; omega); rw [hg] at this; exact this, by simp at hfl; simp; omega, by omega, by
            intro q hq
            rcases List.mem_append.1 hq with hq | hq
            · exact hPs q (by simp [hq])
            simp at hq
            subst hq
            rw [hls, List.length_append, hEe]; omega⟩
          refine wk_of (pagedSt x L k done (linesP x cur) E (ofI (done ++ [cur]))) (Wk.list rfl (by simp [pagedSt]) (by simp [pagedSt])) ?_
          generalize ofI _ = F at hfill ⊢
          generalize done = D at hfill ⊢
          generalize cur = C at hfill ⊢
      all_goals
        have hFl : F.length = k := by
          have h1 := hfill.flat
          rw [hfill.num, ofI_len]
          simp at h1 ⊢
          omega
        have hfew := hfill.few
        have hCl := hfill.low (C ++ [g]) (by simp)
        rw [hls, List.length_append, hEe] at hCl
        have hdl2 : (D.map (pageV x)).length = D.length := List.length_map ..
        have hw2 : IntKind.i64.wrap (D.length : Int) = D.length := wrap64 (by omega) (by omega)
        simp [pagedSt, r_i_paged_13]
        simp [r_i_paged_14, hw2, app_get hdl2]
        refine ⟨by omega, by unfold lenBound; omega, by omega, ?_⟩
        have htF : List.take k (ints F) = ints F := List.take_of_length_le (by rw [List.length_map]; omega)
        have hoi : ofI (D ++ [C ++ [g]]) = F ++ [((D.length + 1 : Nat) : Int)] := by rw [ofI_snoc, hfill.num]
        simp [r_i_paged_15, hFl, htF]
        refine ⟨by unfold lenBound; omega, ?_⟩
        simp [r_i_paged_16]
        rw [wrap64 (n := (D.length : Int) + 1) (by omega) (by omega), wrap64 (n := (k : Int) + 1) (by omega) (by omega)]
        have hT : ∀ s, Wk s ⟨[(3, .ref 3 0 0), (7, .sl 22 0 (D.length + 1)), (8, .sl 79 0 (k + 1)), (27, .sl 27 0 L.length), (28, I L.length), (29, I ((k : Int) + 1))], [(3, ⟨3, [eRoll x]⟩), (22, ⟨1, D.map (pageV x) ++ [.sl 73 0 ((linesP x C).length + E.length)]⟩), (73, ⟨1, (linesP x C).map S ++ E.map S⟩), (79, ⟨1, ints F ++ [I ((D.length : Int) + 1)]⟩), (27, ⟨18, L.map eGrant⟩)], []⟩ →
            Wk s ⟨[(3, .ref 3 0 0), (7, .sl 22 0 (D ++ [C ++ [g]]).length), (8, .sl 23 0 (k + 1)), (27, .sl 27 0 L.length), (28, I L.length), (29, I ((k + 1 : Nat) : Int))], [(3, ⟨3, [eRoll x]⟩), (22, ⟨1, (D ++ [C ++ [g]]).map (pageV x)⟩), (23, ⟨1, ints (ofI (D ++ [C ++ [g]]))⟩), (27, ⟨18, L.map eGrant⟩)], []⟩ := fun s h =>
          Wk.trans h <| Wk.trans (Wk.fold1 22 D.length 73 (n := (linesP x C).length + E.length) (by rfl) (by rfl) (app_get hdl2) (by simp) (by simp) (by simp)) <| Wk.trans (Wk.ren 79 23 (by decide) (by simp [app_set hdl2])) (Wk.list rfl (by simp [AS.ren, ren, reN]) (by simp [AS.ren, ren, reN, renB, app_set hdl2, hoi, hls, hEe]))
        exact hN (D ++ [C ++ [g]], k + 1) _ (by dsimp only; omega) ⟨by dsimp only; omega, hfill.at_, hfill.flat, by simp; omega, hfill.low⟩ (hT _ (Wk.list rfl (by simp) (by simp)))
  · obtain rfl : k = L.length := by omega
    refine hE _ _ ?_
    simp only [blockK_exit]
    simp [r_i_paged_18, hP.done, hof, hfl]
end Go.Proofs.YtbeoijlggphklaaGreatDoor
