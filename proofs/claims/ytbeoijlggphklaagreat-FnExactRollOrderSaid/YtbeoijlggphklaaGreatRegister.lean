/- Registers: the test, a copy; in the program and in the reference. -/
import Derived.Test.YtbeoijlggphklaaGreatCodeRegister
import Derived.Test.YtbeoijlggphklaaGreatDiff
import Derived.Test.YtbeoijlggphklaaGreatGrant
set_option linter.unusedVariables false
set_option linter.unusedSimpArgs false
namespace Go.Proofs.YtbeoijlggphklaaGreat
open Go.Abs

def g00 : Grant := ⟨0, [], 0, ⟨⟨0, 0, 0, 0⟩, 0, 0, 0, ⟨0, 0, 0, 0⟩, ⟨0, 0, 0, 0⟩⟩⟩
def upB (b : UInt8) : Bool := decide (65 ≤ b.toNat) && decide (b.toNat ≤ 90)
def lowB (b : UInt8) : Bool := decide (97 ≤ b.toNat) && decide (b.toNat ≤ 122)
def chOk (s : List UInt8) (i : Nat) : Bool := if i = 0 then upB (s.getD i 0) else lowB (s.getD i 0)
def nameOk (s : List UInt8) : Bool := inR s.length 1 12 && (List.range s.length).all (chOk s)
def grantOk (g : Grant) : Bool := inR g.number 1 999 && (nameOk g.name && (inR g.year 1000 2999 && arms g.arms))
def pairOk (p g : Grant) : Bool := decide (p.number < g.number) && decide (p.year ≤ g.year)
def stepOk (l : List Grant) (i : Nat) : Bool := grantOk (l.getD i g00) && ((decide (i = 0) || pairOk (l.getD (i - 1) g00) (l.getD i g00)) && (l.take i).all fun k => !decide (diffs k.arms (l.getD i g00).arms < 2))
def register (l : List Grant) : Bool := decide (l.length ≤ 12) && (List.range l.length).all (stepOk l)
theorem arms_field {a : Arms} (h : arms a = true) : fieldOk a.field = true := by
  simp only [arms, Bool.and_eq_true] at h
  exact h.1.1

theorem chOk_iff {s : List UInt8} {i : Nat} (h : i < s.length) : chOk s i = true ↔ (i = 0 → 65 ≤ s[i].toNat ∧ s[i].toNat ≤ 90) ∧ (i ≠ 0 → 97 ≤ s[i].toNat ∧ s[i].toNat ≤ 122) := by
  have hg : s.getD i 0 = s[i] := by simp [h]
  unfold chOk
  rw [hg]
  split
  · rename_i e; simp [upB, e]
  · rename_i e; simp [lowB, e]
theorem i_isName (s : List UInt8) : PCall Tryz.prog n_i_isName [S s] (B (nameOk s)) := by
  refine PCall.ofL fn_i_isName (by simp) fun hl => ?_
  simp at hl
  simp [c_i_isName, r_i_isName_0, r_i_isName_1, r_i_isName_8]
  refine loopK (fun i : Nat => ⟨[(0, S s), (5, I s.length), (6, I i)], [], []⟩) (fun i => s.length - i) (fun i => i ≤ s.length ∧ (List.range i).all (chOk s) = true) 0 (Wk.list rfl (by simp) (by simp)) (by simp) ?_
  rintro i ⟨hi, hj⟩ K hN hR hE
  simp [r_i_isName_2, l_i_isName_7]
  refine ⟨fun hlt => ?_, fun hge => ?_⟩
  · have hc := chOk_iff hlt
    simp [r_i_isName_3, r_i_isName_4, hlt]
    refine ⟨fun e => ⟨fun a => ⟨fun b => ⟨fun c => by omega, fun _ => ?_⟩, fun b => ?_⟩, fun a => ?_⟩, fun e => ⟨fun c => ⟨fun a => ⟨fun b => ?_, fun b => ?_⟩, fun a => ?_⟩, fun e' => absurd e' e⟩⟩
    all_goals first
      | (have h : chOk s i = true := by rw [hc]; omega
         simp [r_i_isName_6]
         rw [wrap64 (by omega) (by omega)]
         refine hN (i + 1) _ (by omega) ⟨by omega, ?_⟩ (Wk.list rfl (by simp) (by simp))
         rw [allIx_succ, hj, h]; rfl)
      | (have h : ¬ chOk s i = true := by rw [hc]; omega
         simp [r_i_isName_5]
         refine hR _ ?_
         have : nameOk s = false := by
           unfold nameOk
           rw [allIx_false hlt (by simpa using h), Bool.and_false]
         simp [this])
  · refine hE _ _ ?_
    obtain rfl : i = s.length := by omega
    simp
    refine callQ_v (i_inside ..) ?_
    simp [nameOk, hj]
theorem s_l16Name (s : List UInt8) : PCall Tryz.prog n_s_l16Name [S s] (B (nameOk s)) := by
  refine PCall.ofL fn_s_l16Name (by simp) fun hl => ?_
  simp at hl
  simp [c_s_l16Name, r_s_l16Name_0, r_s_l16Name_1]
  refine callQ_v (s_l1In ..) ?_
  cases h1 : inR s.length 1 12 with
  | false => simp [r_s_l16Name_2, nameOk, h1]
  | true =>
  have h1' := inR_iff.1 h1
  have h0 : 0 < s.length := by omega
  have hc := chOk_iff h0
  have bad : ∀ i, i < s.length → ¬ chOk s i = true → nameOk s = false := fun i hlt h => by
    unfold nameOk
    rw [allIx_false hlt (by simpa using h), Bool.and_false]
  simp [h0]
  refine ⟨fun a => ⟨fun b => ?_, fun b => ?_⟩, fun a => ?_⟩
  · have := bad 0 h0 (by rw [hc]; omega)
    simp [r_s_l16Name_2, this]
  rotate_left
  · have := bad 0 h0 (by rw [hc]; omega)
    simp [r_s_l16Name_2, this]
  have hc0 : chOk s 0 = true := by rw [hc]; omega
  simp [r_s_l16Name_3, r_s_l16Name_9]
  refine loopK (fun i : Nat => ⟨[(0, S s), (3, I i)], [], []⟩) (fun i => s.length - i) (fun i => (1 ≤ i ∧ i ≤ s.length) ∧ (List.range i).all (chOk s) = true) 1 (Wk.list rfl (by simp) (by simp)) ⟨by omega, by simp [hc0]⟩ ?_
  rintro i ⟨⟨h1i, hi⟩, hj⟩ K hN hR hE
  simp [r_s_l16Name_4, l_s_l16Name_8]
  refine ⟨fun hlt => ?_, fun hge => ?_⟩
  · have hc := chOk_iff hlt
    simp [r_s_l16Name_5, hlt]
    refine ⟨fun a => ⟨fun b => ?_, fun b => ?_⟩, fun a => ?_⟩
    all_goals first
      | (have h : chOk s i = true := by rw [hc]; omega
         simp [r_s_l16Name_7]
         rw [wrap64 (by omega) (by omega)]
         refine hN (i + 1) _ (by omega) ⟨by omega, ?_⟩ (Wk.list rfl (by simp) (by simp))
         rw [allIx_succ, hj, h]; rfl)
      | (have h : ¬ chOk s i = true := by rw [hc]; omega
         simp [r_s_l16Name_6]
         refine hR _ ?_
         simp [bad i hlt h])
  · refine hE _ _ ?_
    obtain rfl : i = s.length := by omega
    simp [nameOk, h1, hj]
theorem s_l16Grant (g : Grant) : PCall Tryz.prog n_s_l16Grant [eGrant g] (B (grantOk g)) := by
  refine PCall.of fn_s_l16Grant (by simp) ?_
  simp [c_s_l16Grant, r_s_l16Grant_0, r_s_l16Grant_1]
  refine callQ_v (s_l1In ..) ?_
  cases h1 : inR g.number 1 999 with
  | false => simp [grantOk, h1]
  | true =>
  simp
  refine callQ_v (s_l16Name ..) ?_
  cases h2 : nameOk g.name with
  | false => simp [grantOk, h2]
  | true =>
  simp
  refine callQ_v (s_l1In ..) ?_
  cases h3 : inR g.year 1000 2999 with
  | false => simp [grantOk, h3]
  | true =>
  simp
  refine callQ_v (PCall.arg (s_l5Good g.arms) (by simp)) ?_
  simp [grantOk, h1, h2, h3]
theorem step_false {l : List Grant} {i : Nat} (h : i < l.length) (hs : stepOk l i = false) : register l = false := by
  unfold register
  rw [allIx_false h hs, Bool.and_false]
theorem s_l16Good (l : Register) : PCall Tryz.prog n_s_l16Good [eRegister l] (B (register l)) := by
  refine PCall.of fn_s_l16Good (by simp) ?_
  simp [c_s_l16Good, r_s_l16Good_0, r_s_l16Good_1]
  refine ⟨fun h => ?_, fun h12 => ?_⟩
  · have : register l = false := by simp [register]; omega
    simp [r_s_l16Good_2, this]
  simp [r_s_l16Good_3, r_s_l16Good_15]
  refine loopK (fun i : Nat => ⟨[(1, .ref 1 0 0), (3, I i)], [(1, ⟨1, [eRegister l]⟩)], []⟩) (fun i => l.length - i) (fun i => i ≤ l.length ∧ (List.range i).all (stepOk l) = true) 0 (Wk.list rfl (by simp) (by simp)) (by simp) ?_
  rintro i ⟨hi, hj⟩ K hN hR hE
  simp [r_s_l16Good_4, l_s_l16Good_14]
  refine ⟨fun hlt => ?_, fun hge => ?_⟩
  · have hg : l.getD i g00 = l[i] := by simp [hlt]
    simp [r_s_l16Good_5, p_s_l16Good_5, hlt]
    refine callD_v (s_l16Grant l[i]) ?_ ?_ ?_
    · simp
    · simp
    cases h1 : grantOk l[i] with
    | false =>
      simp
      refine ⟨oEnd_of (by first | kernel_rfl | simp) (by first | kernel_rfl | simp), ?_⟩
      simp [r_s_l16Good_6]
      refine hR _ ?_
      have : stepOk l i = false := by rw [stepOk, hg, h1]; rfl
      simp [step_false hlt this]
    | true =>
      simp
      have hk : i ≠ 0 → IntKind.i64.wrap ((i : Int) - 1) = ((i - 1 : Nat) : Int) := fun e => by rw [wrap64 (by omega) (by omega)]; omega
      have hil : i - 1 < l.length := by omega
      have hgl : l.getD (i - 1) g00 = l[i - 1] := by simp [hil]
      have hpr : (decide (i = 0) || pairOk (l.getD (i - 1) g00) (l.getD i g00)) = true ↔ i = 0 ∨ (l[i - 1].number < l[i].number ∧ l[i - 1].year ≤ l[i].year) := by
        rw [hg, hgl]; simp [pairOk]
      have hst : stepOk l i = ((decide (i = 0) || pairOk (l.getD (i - 1) g00) (l.getD i g00)) && (l.take i).all fun k => !decide (diffs k.arms l[i].arms < 2)) := by
        rw [stepOk, hg, h1, Bool.true_and]
      refine ⟨fun e => ?_, fun e => ?_⟩
      · have e' : i ≠ 0 := by omega
        simp [hk e', hlt, hil]
        refine ⟨fun a => ⟨oEnd_of (by first | kernel_rfl | simp) (by first | kernel_rfl | simp), fun b => ?_, fun b => ?_⟩, fun a => ⟨oEnd_of (by first | kernel_rfl | simp) (by first | kernel_rfl | simp), ?_⟩⟩
        all_goals first
          | (have hp : (decide (i = 0) || pairOk (l.getD (i - 1) g00) (l.getD i g00)) = true := hpr.2 (by omega)
             simp [r_s_l16Good_7, r_s_l16Good_13]
             refine loopK (fun k : Nat => ⟨[(1, .ref 1 0 0), (3, I i), (4, I k)], [(1, ⟨1, [eRegister l]⟩)], []⟩) (fun k => i - k) (fun k => k ≤ i ∧ ((l.take k).all fun k => !decide (diffs k.arms l[i].arms < 2)) = true) 0 (Wk.list rfl (by simp) (by simp)) (by simp) ?_
             rintro k ⟨hki, hkj⟩ K' hN' hR' hE'
             have hkl : k ≤ l.length := by omega
             simp [r_s_l16Good_8, l_s_l16Good_12]
             refine ⟨fun hlk => ?_, fun hgk => ?_⟩
             · have hkl' : k < l.length := by omega
               simp [r_s_l16Good_9, p_s_l16Good_9, hlt, hkl']
               refine callD_v (PCall.arg (s_l15Conflict l[k].arms l[i].arms) (by simp)) ?_ ?_ ?_
               · simp
               · simp
               cases hd : decide (diffs l[k].arms l[i].arms < 2) with
               | true =>
                 simp
                 refine ⟨oEnd_of (by first | kernel_rfl | simp) (by first | kernel_rfl | simp), ?_⟩
                 simp [r_s_l16Good_10]
                 refine hR' _ ?_
                 have hgk : k < (l.take i).length := by rw [List.length_take]; omega
                 have : stepOk l i = false := by
                   rw [hst, hp, Bool.true_and]
                   refine all_false hgk ?_
                   rw [List.getElem_take, hd]; rfl
                 simp
                 refine hR _ ?_
                 simp [step_false hlt this]
               | false =>
                 simp
                 refine ⟨oEnd_of (by first | kernel_rfl | simp) (by first | kernel_rfl | simp), ?_⟩
                 simp [r_s_l16Good_11]
                 rw [wrap64 (by omega) (by omega)]
                 refine hN' (k + 1) _ (by omega) ⟨by omega, ?_⟩ (Wk.list rfl (by simp) (by simp))
                 rw [all_take_succ hkl', hkj, hd]; rfl
             · obtain rfl : k = i := by omega
               refine hE' _ _ ?_
               simp
               rw [wrap64 (by omega) (by omega)]
               refine hN (k + 1) _ (by omega) ⟨by omega, ?_⟩ (Wk.list rfl (by simp) (by simp))
               rw [allIx_succ, hj, hst, hp, hkj]; rfl)
          | (have hp : ¬ (decide (i = 0) || pairOk (l.getD (i - 1) g00) (l.getD i g00)) = true := by rw [hpr]; omega
             simp [r_s_l16Good_6]
             refine hR _ ?_
             have : stepOk l i = false := by rw [hst, Bool.eq_false_iff.2 hp, Bool.false_and]
             simp [step_false hlt this])
      · have hp : (decide (i = 0) || pairOk (l.getD (i - 1) g00) (l.getD i g00)) = true := hpr.2 (by omega)
        refine ⟨oEnd_of (by first | kernel_rfl | simp) (by first | kernel_rfl | simp), ?_⟩
        simp [r_s_l16Good_7, r_s_l16Good_13]
        refine loopK (fun k : Nat => ⟨[(1, .ref 1 0 0), (3, I i), (4, I k)], [(1, ⟨1, [eRegister l]⟩)], []⟩) (fun k => i - k) (fun k => k ≤ i ∧ ((l.take k).all fun k => !decide (diffs k.arms l[i].arms < 2)) = true) 0 (Wk.list rfl (by simp) (by simp)) (by simp) ?_
        rintro k ⟨hki, hkj⟩ K' hN' hR' hE'
        have hkl : k ≤ l.length := by omega
        simp [r_s_l16Good_8, l_s_l16Good_12]
        refine ⟨fun hlk => ?_, fun hgk => ?_⟩
        · have hkl' : k < l.length := by omega
          simp [r_s_l16Good_9, p_s_l16Good_9, hlt, hkl']
          refine callD_v (PCall.arg (s_l15Conflict l[k].arms l[i].arms) (by simp)) ?_ ?_ ?_
          · simp
          · simp
          cases hd : decide (diffs l[k].arms l[i].arms < 2) with
          | true =>
            simp
            refine ⟨oEnd_of (by first | kernel_rfl | simp) (by first | kernel_rfl | simp), ?_⟩
            simp [r_s_l16Good_10]
            refine hR' _ ?_
            have hgk : k < (l.take i).length := by rw [List.length_take]; omega
            have : stepOk l i = false := by
              rw [hst, hp, Bool.true_and]
              refine all_false hgk ?_
              rw [List.getElem_take, hd]; rfl
            simp
            refine hR _ ?_
            simp [step_false hlt this]
          | false =>
            simp
            refine ⟨oEnd_of (by first | kernel_rfl | simp) (by first | kernel_rfl | simp), ?_⟩
            simp [r_s_l16Good_11]
            rw [wrap64 (by omega) (by omega)]
            refine hN' (k + 1) _ (by omega) ⟨by omega, ?_⟩ (Wk.list rfl (by simp) (by simp))
            rw [all_take_succ hkl', hkj, hd]; rfl
        · obtain rfl : k = i := by omega
          refine hE' _ _ ?_
          simp
          rw [wrap64 (by omega) (by omega)]
          refine hN (k + 1) _ (by omega) ⟨by omega, ?_⟩ (Wk.list rfl (by simp) (by simp))
          rw [allIx_succ, hj, hst, hp, hkj]; rfl
  · refine hE _ _ ?_
    obtain rfl : i = l.length := by omega
    have : l.length ≤ 12 := by omega
    simp [register, this, hj]
theorem slices_IndexFunc_i_Grant_i_Grant (l : List Grant) (p : Grant → Bool) (g : Nat) (caps : List V) (hc : ∀ hp, caps.map (borrow hp 6) = caps) (hp : ∀ x ∈ l, PCall Tryz.prog g (eGrant x :: caps) (B (p x))) :
    PCall Tryz.prog n_slices_IndexFunc_i_Grant_i_Grant [.ro 18 (l.map eGrant), .clo g caps] (I (idx p l)) := by
  refine PCall.ofL fn_slices_IndexFunc_i_Grant_i_Grant (by simp) fun hl => ?_
  simp at hl
  simp [c_slices_IndexFunc_i_Grant_i_Grant, r_slices_IndexFunc_i_Grant_i_Grant_0, r_slices_IndexFunc_i_Grant_i_Grant_1, r_slices_IndexFunc_i_Grant_i_Grant_8]
  refine loopQ_ix (fun i : Nat => ⟨[(0, .ro 18 (l.map eGrant)), (1, .clo g caps), (7, I l.length), (8, I i)], [], []⟩) (fun i => l.length - i) (fun i => i ≤ l.length ∧ ∀ j (_ : j < i) (hj : j < l.length), p l[j] = false) 0 (Wk.list rfl (by simp) (by simp)) (by simp) ?_
  rintro i ⟨hi, hj⟩
  simp [r_slices_IndexFunc_i_Grant_i_Grant_2, l_slices_IndexFunc_i_Grant_i_Grant_7]
  refine ⟨fun hlt => ?_, fun hge => ?_⟩
  · simp [r_slices_IndexFunc_i_Grant_i_Grant_3, r_slices_IndexFunc_i_Grant_i_Grant_4, hlt]
    refine callQ_v (PCall.arg (hp l[i] (List.getElem_mem _)) (by simp [hc])) ?_
    simp
    refine ⟨fun ht => ?_, fun hf => ?_⟩
    · simp [r_slices_IndexFunc_i_Grant_i_Grant_5]
      exact (idx_at hlt (fun j h => hj j h (by omega)) ht).symm
    · simp [r_slices_IndexFunc_i_Grant_i_Grant_6]
      rw [wrap64 (by omega) (by omega)]
      refine roundA_of (i + 1) (by omega) ⟨by omega, fun j h h' => ?_⟩ (Wk.list rfl (by simp) (by simp))
      by_cases e : j = i
      · subst e; exact hf
      · exact hj j (by omega) h'
  · have : idx p l = -1 := idx_none fun j h => hj j (by omega) h
    simp [this]
theorem slices_ContainsFunc_i_Grant_i_Grant (l : List Grant) (p : Grant → Bool) (g : Nat) (caps : List V) (hc : ∀ hp, caps.map (borrow hp 6) = caps) (hc5 : ∀ hp, caps.map (borrow hp 5) = caps) (hp : ∀ x ∈ l, PCall Tryz.prog g (eGrant x :: caps) (B (p x))) :
    PCall Tryz.prog n_slices_ContainsFunc_i_Grant_i_Grant [.ro 18 (l.map eGrant), .clo g caps] (B (l.any p)) := by
  refine PCall.of fn_slices_ContainsFunc_i_Grant_i_Grant (by simp) ?_
  simp [c_slices_ContainsFunc_i_Grant_i_Grant, r_slices_ContainsFunc_i_Grant_i_Grant_0, r_slices_ContainsFunc_i_Grant_i_Grant_1]
  refine callQ_v (PCall.arg (slices_IndexFunc_i_Grant_i_Grant l p g caps hc hp) (by simp [hc5])) ?_
  simp [← idx_any]
theorem i_IsValidRegister_1 (g : Grant) (x : Grant) (hx : fieldOk x.arms.field = true) (hg : fieldOk g.arms.field = true) : PCall Tryz.prog n_i_IsValidRegister_1 [eGrant x, .rp 18 [eGrant g] 0 0] (B (decide (diffs x.arms g.arms < 2))) := by
  refine PCall.of fn_i_IsValidRegister_1 (by simp) ?_
  simp [c_i_IsValidRegister_1, r_i_IsValidRegister_1_0, r_i_IsValidRegister_1_1]
  refine callQ_v (PCall.arg (i_conflict x.arms g.arms hx hg) (by simp)) ?_
  simp
theorem ok_field {g : Grant} (h : grantOk g = true) : fieldOk g.arms.field = true := by
  simp only [grantOk, Bool.and_eq_true] at h
  exact arms_field h.2.2.2
theorem take_field {l : List Grant} {i : Nat} (hi : i ≤ l.length) (hj : (List.range i).all (stepOk l) = true) : ∀ x ∈ l.take i, fieldOk x.arms.field = true := by
  intro x hx
  obtain ⟨j, hjl, rfl⟩ := List.getElem_of_mem hx
  rw [List.getElem_take]
  rw [List.length_take] at hjl
  have := List.all_eq_true.1 hj j (List.mem_range.2 (by omega))
  have hgj : l.getD j g00 = l[j] := by
    have : j < l.length := by omega
    simp [this]
  rw [stepOk, hgj] at this
  simp only [Bool.and_eq_true] at this
  exact ok_field this.1
theorem i_IsValidRegister (l : Register) : PCall Tryz.prog n_i_IsValidRegister [eRegister l] (B (register l)) := by
  refine PCall.ofL fn_i_IsValidRegister (by simp) fun hl => ?_
  simp at hl
  simp [c_i_IsValidRegister, r_i_IsValidRegister_0, r_i_IsValidRegister_1, r_i_IsValidRegister_12]
  refine loopK (fun i : Nat => ⟨[(1, .ref 1 0 0), (6, .ro 18 (l.map eGrant)), (7, I l.length), (8, I i)], [(1, ⟨1, [eRegister l]⟩)], []⟩) (fun i => l.length - i) (fun i => i ≤ l.length ∧ (List.range i).all (stepOk l) = true) 0 (Wk.list rfl (by simp) (by simp)) (by simp) ?_
  rintro i ⟨hi, hj⟩ K hN hR hE
  simp [r_i_IsValidRegister_2, l_i_IsValidRegister_11]
  refine ⟨fun hlt => ?_, fun hge => ?_⟩
  · have hg : l.getD i g00 = l[i] := by simp [hlt]
    simp [r_i_IsValidRegister_3, hlt]
    simp [r_i_IsValidRegister_4]
    have no : grantOk l[i] = false → stepOk l i = false := fun h => by rw [stepOk, hg, h]; rfl
    refine callQ_v (i_inside ..) ?_
    cases h1 : inR l[i].number 1 999 with
    | false =>
      simp [r_i_IsValidRegister_5]
      refine hR _ ?_
      simp [step_false hlt (no (by simp [grantOk, h1]))]
    | true =>
    simp
    refine callQ_v (i_isName ..) ?_
    cases h2 : nameOk l[i].name with
    | false =>
      simp [r_i_IsValidRegister_5]
      refine hR _ ?_
      simp [step_false hlt (no (by simp [grantOk, h2]))]
    | true =>
    simp
    refine callQ_v (i_inside ..) ?_
    cases h3 : inR l[i].year 1000 2999 with
    | false =>
      simp [r_i_IsValidRegister_5]
      refine hR _ ?_
      simp [step_false hlt (no (by simp [grantOk, h3]))]
    | true =>
    simp
    refine callQ_v (PCall.arg (i_IsValidArms l[i].arms) (by simp)) ?_
    cases h4 : arms l[i].arms with
    | false =>
      simp [r_i_IsValidRegister_5]
      refine hR _ ?_
      simp [step_false hlt (no (by simp [grantOk, h4]))]
    | true =>
    have hok : grantOk l[i] = true := by simp [grantOk, h1, h2, h3, h4]
    have hk : i ≠ 0 → IntKind.i64.wrap ((i : Int) - 1) = ((i - 1 : Nat) : Int) := fun e => by rw [wrap64 (by omega) (by omega)]; omega
    have hil : i - 1 < l.length := by omega
    have hgl : l.getD (i - 1) g00 = l[i - 1] := by simp [hil]
    have hpr : (decide (i = 0) || pairOk (l.getD (i - 1) g00) (l.getD i g00)) = true ↔ i = 0 ∨ (l[i - 1].number < l[i].number ∧ l[i - 1].year ≤ l[i].year) := by
      rw [hg, hgl]; simp [pairOk]
    have hst : stepOk l i = ((decide (i = 0) || pairOk (l.getD (i - 1) g00) (l.getD i g00)) && (l.take i).all fun k => !decide (diffs k.arms l[i].arms < 2)) := by
      rw [stepOk, hg, hok, Bool.true_and]
    have hany : ((l.take i).any fun k => decide (diffs k.arms l[i].arms < 2)) = !((l.take i).all fun k => !decide (diffs k.arms l[i].arms < 2)) := by
      rw [List.all_eq_not_any_not]; simp
    simp [r_i_IsValidRegister_6, p_i_IsValidRegister_6]
    refine ⟨fun e => ?_, fun e => ?_⟩
    · have e' : i ≠ 0 := by omega
      simp [hk e', hlt, hil]
      refine ⟨fun a => ⟨oEnd_of (by first | kernel_rfl | simp) (by first | kernel_rfl | simp), fun b => ?_, fun b => ?_⟩, fun a => ⟨oEnd_of (by first | kernel_rfl | simp) (by first | kernel_rfl | simp), ?_⟩⟩
      all_goals first
        | (have hp : (decide (i = 0) || pairOk (l.getD (i - 1) g00) (l.getD i g00)) = true := hpr.2 (by omega)
           have hi' : i ≤ l.length := by omega
           have hf := take_field hi' hj
           have hfi := ok_field hok
           simp [r_i_IsValidRegister_8, hi']
           refine callQ_v (PCall.arg (slices_ContainsFunc_i_Grant_i_Grant (l.take i) (fun k => decide (diffs k.arms l[i].arms < 2)) n_i_IsValidRegister_1 [.rp 18 [eGrant l[i]] 0 0] (by simp) (by simp) (fun x hx => i_IsValidRegister_1 l[i] x (hf x hx) hfi)) (by simp)) ?_
           rw [hany]
           cases hd : (l.take i).all fun k => !decide (diffs k.arms l[i].arms < 2) with
           | false =>
             simp [r_i_IsValidRegister_9]
             refine hR _ ?_
             have : stepOk l i = false := by rw [hst, hd, Bool.and_false]
             simp [step_false hlt this]
           | true =>
             simp [r_i_IsValidRegister_10]
             rw [wrap64 (by omega) (by omega)]
             refine hN (i + 1) _ (by omega) ⟨by omega, ?_⟩ (Wk.list rfl (by simp) (by simp))
             rw [allIx_succ, hj, hst, hp, hd]; rfl)
        | (have hp : ¬ (decide (i = 0) || pairOk (l.getD (i - 1) g00) (l.getD i g00)) = true := by rw [hpr]; omega
           simp [r_i_IsValidRegister_7]
           refine hR _ ?_
           have : stepOk l i = false := by rw [hst, Bool.eq_false_iff.2 hp, Bool.false_and]
           simp [step_false hlt this])
    · have hp : (decide (i = 0) || pairOk (l.getD (i - 1) g00) (l.getD i g00)) = true := hpr.2 (by omega)
      refine ⟨oEnd_of (by first | kernel_rfl | simp) (by first | kernel_rfl | simp), ?_⟩
      have hi' : i ≤ l.length := by omega
      have hf := take_field hi' hj
      have hfi := ok_field hok
      simp [r_i_IsValidRegister_8, hi']
      refine callQ_v (PCall.arg (slices_ContainsFunc_i_Grant_i_Grant (l.take i) (fun k => decide (diffs k.arms l[i].arms < 2)) n_i_IsValidRegister_1 [.rp 18 [eGrant l[i]] 0 0] (by simp) (by simp) (fun x hx => i_IsValidRegister_1 l[i] x (hf x hx) hfi)) (by simp)) ?_
      rw [hany]
      cases hd : (l.take i).all fun k => !decide (diffs k.arms l[i].arms < 2) with
      | false =>
        simp [r_i_IsValidRegister_9]
        refine hR _ ?_
        have : stepOk l i = false := by rw [hst, hd, Bool.and_false]
        simp [step_false hlt this]
      | true =>
        simp [r_i_IsValidRegister_10]
        rw [wrap64 (by omega) (by omega)]
        refine hN (i + 1) _ (by omega) ⟨by omega, ?_⟩ (Wk.list rfl (by simp) (by simp))
        rw [allIx_succ, hj, hst, hp, hd]; rfl
  · refine hE _ _ ?_
    obtain rfl : i = l.length := by omega
    simp [register, hj]
    omega
theorem register_len {l : Register} (h : register l = true) : l.length ≤ 12 := by
  simp only [register, Bool.and_eq_true, decide_eq_true_iff] at h
  exact h.1
end Go.Proofs.YtbeoijlggphklaaGreat
