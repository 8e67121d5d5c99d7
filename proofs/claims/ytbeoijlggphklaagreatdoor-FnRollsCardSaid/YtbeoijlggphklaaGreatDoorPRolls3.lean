/- Parts of the proof, merged: SPaged, CodeConsoleT, CodeGrantRow, GrantRow, CodeEqLog, LogT, EqLog, ConsoleT, WPages, WPageOf, CodeWCount, WCount, CodeWEntry, WEntry, RollsLaw, CodeDrawRoll, CodeDrawReg3, CodeDrawReg2, CodeDrawReg, CodeDrawArms, CodeCursor, Cursor, DrawArms, CodeDrawText, DrawText, DrawReg, Iter, DrawReg2, DrawReg3, DrawRoll, CodeRT0, RT0, CodeRint, Rint, CodeRollOrd2, RollOrd2. -/
import Derived.Test.YtbeoijlggphklaaGreatDoorAbs4
import Derived.Test.YtbeoijlggphklaaGreatDoorPRolls2
/- The pages of a roll in the reference. -/
set_option linter.unusedVariables false
set_option linter.unusedSimpArgs false
namespace Go.Proofs.YtbeoijlggphklaaGreatDoor
open Go.Abs

abbrev ownX (p : List Nat) : V := .own 1 (p.map eIx)
abbrev roX (p : List Nat) : V := .ro 1 (p.map eIx)
theorem s_l25Good (x : Roll) : PCall Tryz.prog n_s_l25Good [eRoll x] (B (rollOk x)) := by
  refine PCall.of fn_s_l25Good (by simp) ?_
  simp [c_s_l25Good, r_s_l25Good_0, r_s_l25Good_1]
  refine callQ_v (s_l25By ..) ?_
  cases h1 : inR x.by_ 1 3 with
  | false => simp [rollOk, h1]
  | true =>
  simp
  refine callQ_v (s_l1In ..) ?_
  cases h2 : inR x.width 20 60 with
  | false => simp [rollOk, h1, h2]
  | true =>
  simp
  refine callQ_v (s_l1In ..) ?_
  simp [rollOk, h1, h2]
def szX (x : Roll) (l : Register) (i : Nat) : Nat := (entryL x.width (List.getD l i g00)).length
def usedX (x : Roll) (l : Register) (P : List (List Nat)) : Nat := sizeB (szX x l) (P.getLast?.getD [])
theorem usedX_snoc (x : Roll) (l : Register) (D : List (List Nat)) (C : List Nat) : usedX x l (D ++ [C]) = sizeB (szX x l) C := by simp [usedX]
theorem pagesIx_def (x : Roll) (l : Register) : pagesIx x l = packs (szX x l) x.height.toNat (rollIx x.by_ l) := rfl
/-- Where the page is that is being filled. -/
def spagedSt (x : Roll) (l : Register) (L : List Nat) (k : Nat) (D : List (List Nat)) (C : List Nat) (u m : Int) : AS :=
  ⟨[(2, .ref 2 0 0), (3, .ref 3 0 0), (6, .sl 12 0 (D.length + 1)), (7, I u), (8, .sl 16 0 L.length), (9, I k), (10, I m)], [(2, ⟨1, [eRegister l]⟩), (3, ⟨3, [eRoll x]⟩), (12, ⟨1, D.map ownX ++ [.sl 500 0 C.length]⟩), (500, ⟨1, C.map eIx⟩), (16, ⟨1, L.map eIx⟩)], []⟩
theorem spagedSt_new {x : Roll} {l : Register} {L : List Nat} {k : Nat} {P : List (List Nat)} {m : Int} {s : AS}
    (h : Wk s ⟨[(2, .ref 2 0 0), (3, .ref 3 0 0), (6, .sl 54 0 (P.length + 1)), (7, I 0), (8, .sl 16 0 L.length), (9, I k), (10, I m)], [(54, ⟨1, P.map ownX ++ [.sl 52 0 0]⟩), (52, ⟨1, []⟩), (2, ⟨1, [eRegister l]⟩), (3, ⟨3, [eRoll x]⟩), (16, ⟨1, L.map eIx⟩)], []⟩) : Wk s (spagedSt x l L k P [] 0 m) := by
  refine Wk.trans h <| Wk.trans (Wk.ren 54 12 (by decide) ?_) <| Wk.trans (Wk.ren 52 500 (by decide) ?_) (Wk.list rfl ?_ ?_)
  · simp
  · simp [AS.ren, ren, reN, renB]
  · simp [spagedSt, AS.ren, ren, reN]
  · simp [spagedSt, AS.ren, ren, reN, renB]
structure FillX (x : Roll) (l : Register) (L : List Nat) (k q : Nat) (D : List (List Nat)) (C : List Nat) (u : Nat) : Prop where
  num : u = sizeB (szX x l) C
  at_ : PagedAt (szX x l) x.height.toNat L (k + 1) (D ++ [C ++ [q]])
  flat : (D ++ [C ++ [q]]).flatten.length = k + 1
  few : D.length ≤ k
  low : u + szX x l q ≤ x.height.toNat
set_option maxHeartbeats 4000000 in
theorem s_l25Pages (l : Register) (x : Roll) (h1 : register l = true) (h2 : rollOk x = true) : PCall Tryz.prog n_s_l25Pages [eRegister l, eRoll x] (.tup [.own 1 (((pagesIx x l).getD []).map ownX), B (pagesIx x l).isSome]) := by
  obtain ⟨k1, k2, k3⟩ := rollOk_iff h2
  have hl := register_len h1
  have hL := rollIx_len x.by_ l
  have hLm : ∀ q ∈ rollIx x.by_ l, q < List.length l := rollIx_lt
  refine PCall.of fn_s_l25Pages (by simp) ?_
  simp [c_s_l25Pages, r_s_l25Pages_0, r_s_l25Pages_1, r_s_l25Pages_2, r_s_l25Pages_3]
  refine callQ_of (PCall.arg (s_l25Order l x.by_ h1) (by simp)) rfl (.inl (by simp)) (by simp) ?_
  rw [pagesIx_def]
  generalize rollIx x.by_ l = L at hL hLm ⊢
  simp [r_s_l25Pages_4]
  refine loopK (fun p : List (List Nat) × Nat => ⟨[(2, .ref 2 0 0), (3, .ref 3 0 0), (6, .sl 12 0 p.1.length), (7, I (usedX x l p.1)), (8, .sl 16 0 L.length), (9, I p.2)], [(2, ⟨1, [eRegister l]⟩), (3, ⟨3, [eRoll x]⟩), (12, ⟨1, p.1.map ownX⟩), (16, ⟨1, L.map eIx⟩)], []⟩) (fun p => L.length - p.2)
    (fun p => p.2 ≤ L.length ∧ PagedAt (szX x l) x.height.toNat L p.2 p.1 ∧ p.1.flatten.length = p.2 ∧ p.1.length ≤ p.2 ∧ usedX x l p.1 ≤ x.height.toNat) ([], 0) (Wk.list rfl (by simp [usedX, sizeB]) (by simp)) (by simp [PagedAt, usedX, sizeB]) ?_
  rintro ⟨P, k⟩ ⟨hk, hP, hfl, hPl, hu⟩ K hN hR hE
  dsimp only at hk hP hfl hPl hu ⊢
  simp [l_s_l25Pages_16, r_s_l25Pages_5]
  refine ⟨fun hlt => ?_, fun hge => ?_⟩
  · obtain ⟨q, hq⟩ : ∃ q, L[k] = q := ⟨_, rfl⟩
    have hql : q < List.length l := hLm q (hq ▸ List.getElem_mem _)
    have hqd : List.getD l q g00 = l[q] := by simp [hql]
    have hgo : grantOk l[q] = true := register_grant h1 _ (List.getElem_mem _)
    have hEl := entryL_len x.width l[q]
    have hsz : szX x l q = (entryL x.width l[q]).length := by rw [szX, hqd]
    simp [r_s_l25Pages_6, p_s_l25Pages_6, hlt, hq, hql]
    refine callD_of (PCall.arg (s_l25Lines l[q] x.width hgo k2) (by simp)) rfl (.inl (by simp)) ?_ ?_ ?_
    · simp
    · simp
    simp
    refine ⟨oEnd_of (by simp [p_s_l25Pages_6]) (by simp), ?_⟩
    generalize (entryL x.width l[q]).length = m at hEl hsz ⊢
    simp [r_s_l25Pages_7]
    refine ⟨fun hbig => ?_, fun hfit => ?_⟩
    · have hnone := hP.fail hlt (by rw [hq, hsz]; omega)
      simp [r_s_l25Pages_8]
      refine hR _ ?_
      simp [hnone]
    · have hcase : P = [] ∨ ∃ done cur, P = done ++ [cur] := by
        rcases hP with ⟨_, h⟩ | ⟨d, c, h, _⟩
        · exact .inl h
        · exact .inr ⟨d, c, h⟩
      have hfitL : ¬ x.height.toNat < szX x l L[k] := by rw [hq, hsz]; omega
      rcases hcase with rfl | ⟨done, cur, rfl⟩
      case' inl =>
        have hu0 : usedX x l [] = 0 := rfl
        obtain ⟨C, hC0⟩ : ∃ C : List Nat, C = [] := ⟨_, rfl⟩
        obtain ⟨u, hu1⟩ : ∃ u : Nat, u = 0 := ⟨_, rfl⟩
        have hfill : FillX x l L k q [] C u := by subst hC0 hu1; exact ⟨rfl, by have := hP.new hlt hfitL (.inl rfl); rw [hq] at this; simpa using this, by simp at hfl; simp [← hfl], by simp, by rw [hsz]; omega⟩
        simp [r_s_l25Pages_9]
        simp [r_s_l25Pages_10, r_s_l25Pages_11]
        refine ⟨by unfold lenBound; omega, ?_⟩
        refine wk_of (spagedSt x l L k [] C u m) (by subst hC0 hu1; exact spagedSt_new (Wk.list rfl (by simp) (by simp))) ?_
        generalize ([] : List (List Nat)) = D at hfill ⊢
      case' inr =>
        have hdl : (done.map ownX).length = done.length := List.length_map ..
        have hdb : done.length + 1 ≤ k := by simpa using hPl
        have hus := usedX_snoc x l done cur
        have hub : sizeB (szX x l) cur ≤ x.height.toNat := by rw [← hus]; exact hu
        have hnz : ¬ ((done.length : Int) + 1 = 0) := by omega
        simp [r_s_l25Pages_9, hus, hnz]
        rw [wrap64 (n := (sizeB (szX x l) cur : Int) + m) (by omega) (by omega)]
        refine ⟨fun hover => ?over, fun hfits => ?fits⟩
        case' over =>
          obtain ⟨C, hC0⟩ : ∃ C : List Nat, C = [] := ⟨_, rfl⟩
          obtain ⟨u, hu1⟩ : ∃ u : Nat, u = 0 := ⟨_, rfl⟩
          have hfill : FillX x l L k q (done ++ [cur]) C u := by subst hC0 hu1; exact ⟨rfl, by have := hP.new hlt hfitL (.inr ⟨done, cur, rfl, by rw [hq, hsz]; omega⟩); rw [hq] at this; simpa using this, by simp at hfl; simp; omega, by simpa using hPl, by rw [hsz]; omega⟩
          simp [r_s_l25Pages_10, r_s_l25Pages_11]
          have ht2 : List.take (done.length + 1) (List.map ownX done ++ [ownX cur]) = List.map ownX done ++ [ownX cur] := List.take_of_length_le (by simp)
          rw [ht2]
          refine ⟨by unfold lenBound; omega, ?_⟩
          refine wk_of (spagedSt x l L k (done ++ [cur]) C u m) (by subst hC0 hu1; exact spagedSt_new (Wk.list rfl (by simp) (by simp))) ?_
          generalize done ++ [cur] = D at hfill ⊢
        case' fits =>
          have hfill : FillX x l L k q done cur (sizeB (szX x l) cur) := ⟨rfl, by have := hP.add hlt hfitL (by rw [hq, hsz]; omega); rw [hq] at this; exact this, by simp at hfl; simp; omega, by omega, by rw [hsz]; omega⟩
          refine wk_of (spagedSt x l L k done cur (sizeB (szX x l) cur) m) (Wk.trans (Wk.unfold1 12 done.length 500 (sz := 1) (es := cur.map eIx) (by rfl) (app_get hdl) (by simp)) (Wk.list rfl (by simp [spagedSt]) (by simp [spagedSt, app_set hdl]))) ?_
          generalize sizeB (szX x l) cur = u at hfill ⊢
          generalize done = D at hfill ⊢
          generalize cur = C at hfill ⊢
      all_goals
        have hfew := hfill.few
        have hlow := hfill.low
        have hCk : C.length ≤ k := by
          have h1 := hfill.flat
          simp at h1
          omega
        have hdl2 : (D.map ownX).length = D.length := List.length_map ..
        have hw2 : IntKind.i64.wrap (D.length : Int) = D.length := wrap64 (by omega) (by omega)
        simp [spagedSt, r_s_l25Pages_12]
        simp [r_s_l25Pages_13, p_s_l25Pages_13, hw2, app_get hdl2, app_set hdl2, hlt, hq]
        refine ⟨by omega, by unfold lenBound; omega, by omega, oEnd_of (by simp [p_s_l25Pages_13, app_set hdl2, app_get hdl2]) (by simp [app_set hdl2, app_get hdl2]), ?_⟩
        have hus2 : usedX x l (D ++ [C ++ [q]]) = u + m := by rw [usedX_snoc, sizeB_snoc, ← hfill.num, hsz]
        simp [r_s_l25Pages_14, r_s_l25Pages_15]
        rw [wrap64 (n := (u : Int) + m) (by omega) (by omega), wrap64 (n := (k : Int) + 1) (by omega) (by omega)]
        have hT : ∀ s, Wk s ⟨[(2, .ref 2 0 0), (3, .ref 3 0 0), (6, .sl 12 0 (D.length + 1)), (7, I ((u : Int) + m)), (8, .sl 16 0 L.length), (9, I ((k : Int) + 1))], [(2, ⟨1, [eRegister l]⟩), (3, ⟨3, [eRoll x]⟩), (12, ⟨1, D.map ownX ++ [.sl 69 0 (C.length + 1)]⟩), (69, ⟨1, C.map eIx ++ [eIx q]⟩), (16, ⟨1, L.map eIx⟩)], []⟩ →
            Wk s ⟨[(2, .ref 2 0 0), (3, .ref 3 0 0), (6, .sl 12 0 (D ++ [C ++ [q]]).length), (7, I (usedX x l (D ++ [C ++ [q]]))), (8, .sl 16 0 L.length), (9, I ((k + 1 : Nat) : Int))], [(2, ⟨1, [eRegister l]⟩), (3, ⟨3, [eRoll x]⟩), (12, ⟨1, (D ++ [C ++ [q]]).map ownX⟩), (16, ⟨1, L.map eIx⟩)], []⟩ := fun s h =>
          Wk.trans h <| Wk.trans (Wk.fold1 12 D.length 69 (n := C.length + 1) (by rfl) (by rfl) (app_get hdl2) (by simp) (by simp) (by simp)) (Wk.list rfl (by simp [hus2]) (by simp [app_set hdl2]))
        exact hN (D ++ [C ++ [q]], k + 1) _ (by dsimp only; omega) ⟨by dsimp only; omega, hfill.at_, hfill.flat, by simp; omega, by dsimp only; omega⟩ (hT _ (Wk.list rfl (by simp) (by simp)))
  · obtain rfl : k = L.length := by omega
    refine hE _ _ ?_
    simp only [blockK_exit]
    simp [r_s_l25Pages_17, hP.done]
theorem s_l25Asked (l : Register) (x : Roll) : PCall Tryz.prog n_s_l25Asked [eRegister l, eRoll x] (.tup [.own 1 (((askedIx l x).getD []).map ownX), B (askedIx l x).isSome]) := by
  refine PCall.of fn_s_l25Asked (by simp) ?_
  simp [c_s_l25Asked, r_s_l25Asked_0, r_s_l25Asked_1]
  refine callQ_v (PCall.arg (s_l16Good l) (by simp)) ?_
  cases h1 : register l with
  | false => simp [r_s_l25Asked_2, askedIx, askedOk, h1]
  | true =>
  simp
  refine callQ_v (PCall.arg (s_l25Good x) (by simp)) ?_
  cases h2 : rollOk x with
  | false => simp [r_s_l25Asked_2, askedIx, askedOk, h1, h2]
  | true =>
  simp [r_s_l25Asked_3]
  refine callQ_of (PCall.arg (s_l25Pages l x h1 h2) (by simp)) rfl (.inl (by simp)) (by simp) ?_
  simp [askedIx, askedOk, h1, h2]
end Go.Proofs.YtbeoijlggphklaaGreatDoor

/- The compact code of the functions, and that it is theirs: written by a program of this claim. -/
namespace Go.Proofs.YtbeoijlggphklaaGreatDoor
open Go.Abs
set_option maxRecDepth 100000
end Go.Proofs.YtbeoijlggphklaaGreatDoor

/- The compact code of the functions, and that it is theirs: written by a program of this claim. -/
namespace Go.Proofs.YtbeoijlggphklaaGreatDoor
open Go.Abs
set_option maxRecDepth 100000
end Go.Proofs.YtbeoijlggphklaaGreatDoor

/- Rows of grants: the laws' marks (written by wip/tools/grantgen.py). -/
set_option linter.unusedVariables false
set_option linter.unusedSimpArgs false
namespace Go.Proofs.YtbeoijlggphklaaGreatDoor
open Go.Abs

end Go.Proofs.YtbeoijlggphklaaGreatDoor

/- The compact code of the functions, and that it is theirs: written by a program of this claim. -/
namespace Go.Proofs.YtbeoijlggphklaaGreatDoor
open Go.Abs
set_option maxRecDepth 100000
end Go.Proofs.YtbeoijlggphklaaGreatDoor

/- What a log is. No program in sight. -/
set_option linter.unusedVariables false
set_option linter.unusedSimpArgs false
namespace Go.Proofs.YtbeoijlggphklaaGreatDoor

structure Log where
  durable : List UInt8
  pending : List UInt8
  count : Int
  deriving DecidableEq
end Go.Proofs.YtbeoijlggphklaaGreatDoor

/- Two equal logs. -/
set_option linter.unusedVariables false
set_option linter.unusedSimpArgs false
namespace Go.Proofs.YtbeoijlggphklaaGreatDoor
open Go.Abs

end Go.Proofs.YtbeoijlggphklaaGreatDoor

/- Consoles: how they lie, the laws' helpers. -/
set_option linter.unusedVariables false
set_option linter.unusedSimpArgs false
namespace Go.Proofs.YtbeoijlggphklaaGreatDoor
open Go.Abs

structure Console where
  grants : List Grant
  log : Log
  deriving DecidableEq
end Go.Proofs.YtbeoijlggphklaaGreatDoor

/- RollPages: program, reference. -/
set_option linter.unusedVariables false
set_option linter.unusedSimpArgs false
namespace Go.Proofs.YtbeoijlggphklaaGreatDoor
open Go.Abs

def firstL (x : Roll) (l : Register) (ps : List (List Nat)) (i : Nat) : List (List (List UInt8)) := (ps.take i).map (linesX x l)
theorem firstL_len (x : Roll) (l : Register) {ps : List (List Nat)} {i : Nat} (h : i ≤ ps.length) : (firstL x l ps i).length = i := by rw [firstL, List.length_map, List.length_take]; omega
theorem firstL_succ (x : Roll) (l : Register) {ps : List (List Nat)} {i : Nat} (h : i < ps.length) : firstL x l ps (i + 1) = firstL x l ps i ++ [linesX x l ps[i]] := by rw [firstL, take_succ' h, List.map_append]; rfl
theorem linesX_many (x : Roll) (l : Register) : ∀ p : List Nat, p.length ≤ (linesX x l p).length
  | [] => by simp
  | q :: p => by
    have ih := linesX_many x l p
    have := entryL_pos x.width (List.getD l q g00)
    simp only [linesX, List.flatMap_cons, List.length_append, List.length_cons] at ih ⊢
    omega
theorem i_RollPages (l : Register) (x : Roll) : PCall Tryz.prog n_i_RollPages [eRegister l, eRoll x] (.tup [.own 1 ((pagesL l x).map ownS), B (textOk l x)]) := by
  refine PCall.of fn_i_RollPages (by simp) ?_
  simp [c_i_RollPages, r_i_RollPages_0, r_i_RollPages_1]
  refine callQ_of (PCall.arg (i_paged l x) (by simp)) rfl (.inl (by simp)) (by simp) ?_
  simp [r_i_RollPages_2]
set_option maxHeartbeats 4000000 in
theorem s_RollPages (l : Register) (x : Roll) : PCall Tryz.prog n_s_RollPages [eRegister l, eRoll x] (.tup [.own 1 ((pagesL l x).map ownS), B (textOk l x)]) := by
  refine PCall.of fn_s_RollPages (by simp) ?_
  simp [c_s_RollPages, r_s_RollPages_0, r_s_RollPages_1, r_s_RollPages_2]
  refine callQ_of (PCall.arg (s_l25Asked l x) (by simp)) rfl (.inl (by simp)) (by simp) ?_
  rw [textOk_ix]
  cases hx : askedIx l x with
  | none => simp [r_s_RollPages_3, r_s_RollPages_4, pagesL_none hx]
  | some ps =>
  obtain ⟨h1, h2, hq, hn, hls, _⟩ := askedIx_iff hx
  obtain ⟨k1, k2, k3⟩ := rollOk_iff h2
  have hl := register_len h1
  rw [pagesL_ix hx]
  simp [r_s_RollPages_3, r_s_RollPages_5]
  refine loopK (fun i : Nat => ⟨[(2, .ref 2 0 0), (3, .ref 3 0 0), (6, .sl 12 0 i), (7, .sl 16 0 ps.length), (9, I i)], [(2, ⟨1, [eRegister l]⟩), (3, ⟨3, [eRoll x]⟩), (12, ⟨1, (firstL x l ps i).map ownS⟩), (16, ⟨1, ps.map roX⟩)], []⟩) (fun i => ps.length - i) (fun i => i ≤ ps.length) 0
    (Wk.trans (Wk.roes 16 3 (by rfl) (by simp)) (Wk.list rfl (by simp) (by simp [firstL]))) (by simp) ?_
  intro i hi K hN hR hE
  have hfl := firstL_len x l hi
  simp [l_s_RollPages_15, r_s_RollPages_6]
  refine ⟨fun hlt => ?_, fun hge => ?_⟩
  · obtain ⟨p, hp⟩ : ∃ p, ps[i] = p := ⟨_, rfl⟩
    have hpm : p ∈ ps := hp ▸ List.getElem_mem _
    have hpl := hls p hpm
    have hpq := hq p hpm
    have hpm2 := linesX_many x l p
    have hfs := firstL_succ x l hlt
    rw [hp] at hfs
    simp [r_s_RollPages_7, r_s_RollPages_8]
    refine loopK (fun k : Nat => ⟨[(2, .ref 2 0 0), (3, .ref 3 0 0), (6, .sl 12 0 i), (7, .sl 16 0 ps.length), (9, I i), (10, .sl 28 0 (linesX x l (p.take k)).length), (11, I k)], [(2, ⟨1, [eRegister l]⟩), (3, ⟨3, [eRoll x]⟩), (12, ⟨1, (firstL x l ps i).map ownS⟩), (16, ⟨1, ps.map roX⟩), (28, ⟨1, (linesX x l (p.take k)).map S⟩)], []⟩) (fun k => p.length - k) (fun k => k ≤ p.length) 0
      (Wk.list rfl (by simp [linesX]) (by simp [linesX])) (by simp) ?_
    intro k hk K2 hN2 hR2 hE2
    simp [l_s_RollPages_12, r_s_RollPages_9, hlt, hp]
    refine ⟨fun hklt => ?_, fun hkge => ?_⟩
    · obtain ⟨q, hqd⟩ : ∃ q, p[k] = q := ⟨_, rfl⟩
      have hql : q < List.length l := hpq q (hqd ▸ List.getElem_mem _)
      have hgo : grantOk l[q] = true := register_grant h1 _ (List.getElem_mem _)
      have hgd : List.getD l q g00 = l[q] := by simp [hql]
      have hlt2 := linesX_take (x := x) (l := l) hklt
      have hle := linesX_le x l p (k + 1)
      have hle0 := linesX_le x l p k
      rw [hqd, hgd] at hlt2
      simp [r_s_RollPages_10, p_s_RollPages_10, hlt, hp, hklt, hqd, hql]
      refine callD_of (PCall.arg (s_l25Lines l[q] x.width hgo k2) (by simp)) rfl (.inl (by simp)) ?_ ?_ ?_
      · simp
      · simp
      rw [hlt2, List.length_append] at hle
      simp
      refine ⟨by unfold lenBound; omega, oEnd_of (by simp [p_s_RollPages_10]) (by simp), ?_⟩
      simp [r_s_RollPages_11]
      rw [wrap64 (by omega) (by omega)]
      refine hN2 (k + 1) _ (by omega) (by omega) (Wk.trans (Wk.ren 53 28 (by decide) (by simp)) (Wk.list rfl ?_ ?_))
      · simp [AS.ren, ren, reN, hlt2]
      · simp [AS.ren, ren, reN, renB, hlt2]
    · obtain rfl : k = p.length := by omega
      refine hE2 _ _ ?_
      simp only [blockK_exit]
      rw [List.take_length]
      have hml : ((firstL x l ps i).map ownS).length = i := by rw [List.length_map, hfl]
      have ht1 : List.take i ((firstL x l ps i).map ownS) = (firstL x l ps i).map ownS := List.take_of_length_le (by omega)
      simp [r_s_RollPages_13, r_s_RollPages_14, hfl, ht1]
      refine ⟨by unfold lenBound; omega, ?_⟩
      rw [wrap64 (by omega) (by omega)]
      refine hN (i + 1) _ (by omega) (by omega) (Wk.trans (Wk.fold1 57 i 28 (n := (linesX x l p).length) (by rfl) (by rfl) (app_get hml) (by simp) (by simp) (by simp)) (Wk.trans (Wk.ren 57 12 (by decide) ?_) (Wk.list rfl ?_ ?_)))
      · simp [app_set hml]
      · simp [AS.ren, ren, reN]
      · simp [AS.ren, ren, reN, renB, app_set hml, hfs]
  · obtain rfl : i = ps.length := by omega
    refine hE _ _ ?_
    simp only [blockK_exit]
    simp [r_s_RollPages_16, firstL, List.take_length]
end Go.Proofs.YtbeoijlggphklaaGreatDoor

/- PageOf: program, reference, law. -/
set_option linter.unusedVariables false
set_option linter.unusedSimpArgs false
namespace Go.Proofs.YtbeoijlggphklaaGreatDoor
open Go.Abs

theorem pageI_flat {ps : List (List Grant)} {n : Int} {i : Nat} (h : i < ps.flatten.length) (h1 : ps.flatten[i].number = n) (h2 : ∀ j (hj : j < i), ps.flatten[j].number ≠ n) : ∃ q, pageI ps n = some q ∧ (ofI ps)[i]? = some ((q + 1 : Nat) : Int) := by
  obtain ⟨q, e1, e2⟩ := of_first (p := fun g : Grant => decide (g.number = n)) 0 ps i h (by simpa using h1) fun j hj => by simpa using h2 j hj
  refine ⟨q, e1, ?_⟩
  rw [ofI, List.getElem?_map, e2]; simp
theorem pageI_none {ps : List (List Grant)} {n : Int} (h : ∀ i (h : i < ps.flatten.length), ps.flatten[i].number ≠ n) : pageI ps n = none :=
  of_none ps fun y hy => by
    obtain ⟨i, hi, rfl⟩ := List.getElem_of_mem hy
    simpa using h i hi
theorem pageN_some {l : Register} {x : Roll} {n : Int} {ps : List (List Grant)} {q : Nat} (h : asked l x = some ps) (e : pageI ps n = some q) : pageN l x n = ((q + 1 : Nat) : Int) ∧ pageOk l x n = true := by simp [pageN, pageOk, h, e]
theorem pageN_none {l : Register} {x : Roll} {n : Int} {ps : List (List Grant)} (h : asked l x = some ps) (e : pageI ps n = none) : pageN l x n = 0 ∧ pageOk l x n = false := by simp [pageN, pageOk, h, e]
theorem pageN_no {l : Register} {x : Roll} {n : Int} (h : asked l x = none) : pageN l x n = 0 ∧ pageOk l x n = false := by simp [pageN, pageOk, h]
theorem i_PageOf (l : Register) (x : Roll) (n : Int) : PCall Tryz.prog n_i_PageOf [eRegister l, eRoll x, I n] (.tup [I (pageN l x n), B (pageOk l x n)]) := by
  have hP := i_paged l x
  have hno := @pageN_no l x n
  have hso := @pageN_some l x n
  have hne := @pageN_none l x n
  generalize pageN l x n = m at hno hso hne ⊢
  generalize pageOk l x n = b at hno hso hne ⊢
  refine PCall.of fn_i_PageOf (by simp) ?_
  simp [c_i_PageOf, r_i_PageOf_0, r_i_PageOf_1]
  refine callQ_of (PCall.arg hP (by simp)) rfl (.inl (by simp)) (by simp) ?_
  unfold textOk ofL
  cases hx : asked l x with
  | none =>
    obtain ⟨rfl, rfl⟩ := hno hx
    simp [r_i_PageOf_2, r_i_PageOf_3, ofI, ofGo]
  | some ps =>
  obtain ⟨h1, h2, _⟩ := asked_iff hx
  have hf := asked_flat hx
  have hl := register_len h1
  have hL := rollOrd_len x.by_ l
  have hol := ofI_len ps
  simp [r_i_PageOf_2, r_i_PageOf_4]
  refine callQ_of (PCall.arg (i_Register_ordered l x.by_ h1) (by simp)) rfl (.inl (by simp)) (by simp) ?_
  have hget : ∀ (i : Nat) (h : i < (rollOrd x.by_ l).length) (h' : i < ps.flatten.length), ps.flatten[i] = (rollOrd x.by_ l)[i] := fun i h h' => by simp only [hf]
  have hfl : ps.flatten.length = (rollOrd x.by_ l).length := by rw [hf]
  have hpf := @pageI_flat ps n
  have hpn := @pageI_none ps n
  generalize rollOrd x.by_ l = L at hL hget hfl ⊢
  generalize ofI ps = F at hol hpf ⊢
  simp
  refine loopK (fun i : Nat => ⟨[(2, I n), (9, .sl 1016 0 F.length), (25, .sl 25 0 L.length), (26, I L.length), (27, I i)], [(25, ⟨18, L.map eGrant⟩), (1016, ⟨1, ints F⟩)], []⟩) (fun i => L.length - i) (fun i => i ≤ L.length ∧ ∀ j (_ : j < i) (h : j < L.length), L[j].number ≠ n) 0 (Wk.list rfl (by simp) (by simp)) (by simp) ?_
  rintro i ⟨hi, hj⟩ K hN hR hE
  simp [l_i_PageOf_10, r_i_PageOf_5]
  refine ⟨fun hlt => ?_, fun hge => ?_⟩
  · have hiF : i < F.length := by omega
    have hif : i < ps.flatten.length := by omega
    simp [r_i_PageOf_6, hlt]
    simp [r_i_PageOf_7]
    refine ⟨fun he => ?_, fun hn => ?_⟩
    · obtain ⟨q, e1, e2⟩ := hpf hif (by rw [hget i hlt]; exact he) fun j hji => by rw [hget j (by omega)]; exact hj j hji (by omega)
      obtain ⟨rfl, rfl⟩ := hso hx e1
      rw [List.getElem?_eq_getElem hiF, Option.some.injEq] at e2
      simp [r_i_PageOf_8, hiF]
      refine hR _ ?_
      simp [e2]
    · simp [r_i_PageOf_9]
      rw [wrap64 (by omega) (by omega)]
      refine hN (i + 1) _ (by omega) ⟨by omega, fun j h1 h2 => ?_⟩ (Wk.list rfl (by simp) (by simp))
      by_cases e : j = i
      · subst e; exact hn
      · exact hj j (by omega) h2
  · obtain ⟨rfl, rfl⟩ := hne hx (hpn fun i h => by rw [hget i (by omega)]; exact hj i (by omega) (by omega))
    refine hE _ _ ?_
    simp only [blockK_exit]
    simp [r_i_PageOf_11]
end Go.Proofs.YtbeoijlggphklaaGreatDoor

/- The compact code of the functions, and that it is theirs: written by a program of this claim. -/
namespace Go.Proofs.YtbeoijlggphklaaGreatDoor
open Go.Abs
set_option maxRecDepth 100000
def r_i_CountLines_0 : List CO := [⟨none, (some 2), (.box 1 (.t 0))⟩, ⟨none, (some 3), (.box 3 (.t 1))⟩, ⟨none, (some 4), (.mv (.k (.v (.int .i64 (0)))))⟩, ⟨none, (some 5), (.mv (.k (.v (.int .i64 (0)))))⟩, ⟨none, (some 6), (.mv (.k (.v (.bool false))))⟩]
def r_i_CountLines_1 : List CO := [⟨none, (some 14), (.ld true 1 (.t 2))⟩, ⟨none, (some 15), (.ld true 3 (.t 3))⟩, ⟨none, (some 16), (.call n_i_paged [(.t 14), (.t 15)])⟩, ⟨none, (some 13), (.mv (.t 16))⟩, ⟨none, (some 17), (.ext (.t 13) 0)⟩, ⟨none, (some 18), (.ext (.t 13) 1)⟩, ⟨none, (some 19), (.ext (.t 13) 2)⟩, ⟨none, (some 7), (.mv (.t 17))⟩, ⟨none, (some 8), (.mv (.t 18))⟩, ⟨none, (some 9), (.mv (.t 19))⟩]
def r_i_CountLines_2 : List CO := [⟨none, (some 10), (.mv (.k (.v (.int .i64 (0)))))⟩]
def r_i_CountLines_3 : List CO := [⟨none, (some 20), (.mv (.t 7))⟩, ⟨none, (some 21), (.len false (.t 20))⟩, ⟨none, (some 22), (.mv (.k (.v (.int .i64 (0)))))⟩]
def r_i_CountLines_4 : List CO := [⟨none, (some 23), (.bin .lss .none (.t 22) (.t 21))⟩]
def r_i_CountLines_5 : List CO := [⟨none, (some 24), (.iaddr 1 (.t 20) (.t 22))⟩, ⟨none, (some 25), (.ld false 1 (.t 24))⟩, ⟨none, (some 12), (.mv (.t 25))⟩]
def r_i_CountLines_6 : List CO := [⟨none, (some 26), (.mv (.t 10))⟩, ⟨none, (some 27), (.mv (.t 12))⟩, ⟨none, (some 28), (.len false (.t 27))⟩, ⟨none, (some 29), (.bin .add .none (.t 26) (.t 28))⟩, ⟨none, (some 10), (.mv (.t 29))⟩]
def r_i_CountLines_7 : List CO := [⟨none, (some 30), (.bin .add .none (.t 22) (.k (.v (.int .i64 (1)))))⟩, ⟨none, (some 22), (.mv (.t 30))⟩]
def l_i_CountLines_8 : C := (.seq (.reg r_i_CountLines_4 [7, 9, 10, 20, 21, 22, 23]) (.seq (.cond (.t 23) .skip (.exit 0)) (.seq (.block 1 (.seq (.reg r_i_CountLines_5 [7, 9, 10, 12, 20, 21, 22]) (.reg r_i_CountLines_6 [7, 9, 10, 20, 21, 22]))) (.reg r_i_CountLines_7 [7, 9, 10, 20, 21, 22]))))
def r_i_CountLines_9 : List CO := [⟨none, (some 31), (.mv (.t 7))⟩, ⟨none, (some 32), (.len false (.t 31))⟩, ⟨none, (some 33), (.mv (.t 10))⟩, ⟨none, (some 34), (.mv (.t 9))⟩, ⟨none, (some 4), (.mv (.t 32))⟩, ⟨none, (some 5), (.mv (.t 33))⟩, ⟨none, (some 6), (.mv (.t 34))⟩]
/-- loop.example/g00884/impl.CountLines -/
def c_i_CountLines : C := (.seq (.reg r_i_CountLines_0 [2, 3]) (.seq (.reg r_i_CountLines_1 [7, 9]) (.seq (.reg r_i_CountLines_2 [7, 9, 10]) (.seq (.seq (.reg r_i_CountLines_3 [7, 9, 10, 20, 21, 22]) (.block 0 (.loop l_i_CountLines_8))) (.seq (.reg r_i_CountLines_9 [4, 5, 6]) .ret)))))
def k_i_CountLines : Nat → List Nat
  | 0 => [2, 3]
  | 1 => [7, 9]
  | 2 => [7, 9, 10]
  | 3 => [7, 9, 10, 20, 21, 22]
  | 4 => [7, 9, 10, 20, 21, 22, 23]
  | 5 => [7, 9, 10, 12, 20, 21, 22]
  | 6 => [7, 9, 10, 20, 21, 22]
  | 7 => [7, 9, 10, 20, 21, 22]
  | 8 => [4, 5, 6]
  | _ => []
theorem fn_i_CountLines : FnC Tryz.prog n_i_CountLines c_i_CountLines [(.tmp 4), (.tmp 5), (.tmp 6)] 35 :=
  ⟨Tryz.f31, _, k_i_CountLines, Tryz.func31, rfl, by kernel_rfl, by kernel_rfl, by kernel_rfl, rfl⟩
end Go.Proofs.YtbeoijlggphklaaGreatDoor

/- CountLines: program, reference, law. -/
set_option linter.unusedVariables false
set_option linter.unusedSimpArgs false
namespace Go.Proofs.YtbeoijlggphklaaGreatDoor
open Go.Abs

def cntP (l : List Grant) (x : Roll) : Int := (pagesL l x).length
def cntL (l : List Grant) (x : Roll) : Int := total (pagesL l x)
theorem total_20 : ∀ L : List (List (List UInt8)), (∀ p ∈ L, p.length ≤ 20) → total L ≤ 20 * L.length
  | [], _ => by simp
  | p :: L, h => by
    have h1 := h p (by simp)
    have h2 := total_20 L fun q hq => h q (by simp [hq])
    rw [total_cons, List.length_cons]; omega
theorem pagesL_total (l : List Grant) (x : Roll) : (pagesL l x).length ≤ 12 ∧ total (pagesL l x) ≤ 240 := by
  obtain ⟨hn, hp⟩ := pagesL_ok (l := l) (x := x)
  have := total_20 _ fun p h => (hp p h).2.1
  omega
theorem total_step {L : List (List (List UInt8))} {i : Nat} (h : i < L.length) : total (L.take (i + 1)) = total (L.take i) + L[i].length := by
  rw [take_succ' h, total_append, total_cons, total_nil]; omega
theorem i_CountLines (l : Register) (x : Roll) : PCall Tryz.prog n_i_CountLines [eRegister l, eRoll x] (.tup [I (cntP l x), I (cntL l x), B (textOk l x)]) := by
  obtain ⟨hn, ht⟩ := pagesL_total l x
  have hP := i_paged l x
  unfold cntP cntL
  generalize pagesL l x = L at hn ht hP
  refine PCall.of fn_i_CountLines (by simp) ?_
  simp [c_i_CountLines, r_i_CountLines_0, r_i_CountLines_1]
  refine callQ_of (PCall.arg hP (by simp)) rfl (.inl (by simp)) (by simp) ?_
  simp [r_i_CountLines_2, r_i_CountLines_3]
  refine loopK (fun i : Nat => ⟨[(7, .sl 16 0 L.length), (9, B (textOk l x)), (10, I (total (L.take i))), (20, .sl 16 0 L.length), (21, I L.length), (22, I i)], [(16, ⟨1, L.map roS⟩)], []⟩) (fun i => L.length - i) (fun i => i ≤ L.length) 0
    (Wk.trans (Wk.roes 16 3 (by rfl) (by simp)) (Wk.list rfl (by simp) (by simp))) (by simp) ?_
  intro i hi K hN hR hE
  simp [l_i_CountLines_8, r_i_CountLines_4]
  refine ⟨fun hlt => ?_, fun hge => ?_⟩
  · have hs := total_step hlt
    have hle := total_take_le L (i + 1)
    simp [r_i_CountLines_5, hlt]
    simp [r_i_CountLines_6, r_i_CountLines_7]
    rw [wrap64 (by omega) (by omega), wrap64 (by omega) (by omega)]
    refine hN (i + 1) _ (by omega) (by omega) (Wk.list rfl (by simp [hs]) (by simp))
  · obtain rfl : i = L.length := by omega
    refine hE _ _ ?_
    simp only [blockK_exit]
    simp [r_i_CountLines_9]
end Go.Proofs.YtbeoijlggphklaaGreatDoor

/- The compact code of the functions, and that it is theirs: written by a program of this claim. -/
namespace Go.Proofs.YtbeoijlggphklaaGreatDoor
open Go.Abs
set_option maxRecDepth 100000
def r_i_EntryLines_0 : List CO := [⟨none, (some 2), (.box 18 (.t 0))⟩, ⟨none, (some 4), (.mv (.k (.v (.slice none 0 0))))⟩, ⟨none, (some 5), (.mv (.k (.v (.bool false))))⟩]
def r_i_EntryLines_1 : List CO := [⟨none, (some 6), (.ld true 18 (.t 2))⟩, ⟨none, (some 7), (.bslice 18 (.agg [(.v (.int .i64 (0))), (.v (.string (bs []))), (.v (.int .i64 (0))), (.v (.int .i64 (0))), (.v (.int .i64 (0))), (.v (.int .i64 (0))), (.v (.int .i64 (0))), (.v (.int .i64 (0))), (.v (.int .i64 (0))), (.v (.int .i64 (0))), (.v (.int .i64 (0))), (.v (.int .i64 (0))), (.v (.int .i64 (0))), (.v (.int .i64 (0))), (.v (.int .i64 (0))), (.v (.int .i64 (0))), (.v (.int .i64 (0))), (.v (.int .i64 (0)))]) 1 [(0, (.t 6))])⟩, ⟨none, (some 8), (.build (.agg [(.v (.slice none 0 0))]) [(0, (1, (.t 7)))])⟩, ⟨none, (some 9), (.call n_i_IsValidRegister [(.t 8)])⟩, ⟨none, (some 10), (.un .not (.t 9))⟩, ⟨none, (some 11), (.mv (.t 10))⟩, ⟨(some (11, false)), (some 12), (.mv (.t 1))⟩, ⟨(some (11, false)), (some 13), (.call n_i_inside [(.t 12), (.k (.v (.int .i64 (20)))), (.k (.v (.int .i64 (60))))])⟩, ⟨(some (11, false)), (some 14), (.un .not (.t 13))⟩, ⟨none, (some 15), (.pick (.t 11) (.k (.v (.bool true))) (.t 14))⟩]
def r_i_EntryLines_2 : List CO := [⟨none, (some 4), (.mv (.k (.v (.slice none 0 0))))⟩, ⟨none, (some 5), (.mv (.k (.v (.bool false))))⟩]
def r_i_EntryLines_3 : List CO := [⟨none, (some 16), (.ld true 18 (.t 2))⟩, ⟨none, (some 17), (.mv (.t 1))⟩, ⟨none, (some 18), (.call n_i_entry [(.t 16), (.t 17)])⟩, ⟨none, (some 4), (.mv (.t 18))⟩, ⟨none, (some 5), (.mv (.k (.v (.bool true))))⟩]
/-- loop.example/g00884/impl.EntryLines -/
def c_i_EntryLines : C := (.seq (.reg r_i_EntryLines_0 [1, 2]) (.seq (.seq (.reg r_i_EntryLines_1 [1, 2, 15]) (.cond (.t 15) (.seq (.reg r_i_EntryLines_2 [4, 5]) .ret) .skip)) (.seq (.reg r_i_EntryLines_3 [4, 5]) .ret)))
def k_i_EntryLines : Nat → List Nat
  | 0 => [1, 2]
  | 1 => [1, 2, 15]
  | 2 => [4, 5]
  | 3 => [4, 5]
  | _ => []
theorem fn_i_EntryLines : FnC Tryz.prog n_i_EntryLines c_i_EntryLines [(.tmp 4), (.tmp 5)] 19 :=
  ⟨Tryz.f15, _, k_i_EntryLines, Tryz.func15, rfl, by kernel_rfl, by kernel_rfl, by kernel_rfl, rfl⟩
end Go.Proofs.YtbeoijlggphklaaGreatDoor

/- EntryLines: program, reference, law. -/
set_option linter.unusedVariables false
set_option linter.unusedSimpArgs false
namespace Go.Proofs.YtbeoijlggphklaaGreatDoor
open Go.Abs

theorem entryOk_iff {g : Grant} {w : Int} (h : entryOk g w = true) : grantOk g = true ∧ 20 ≤ w ∧ w ≤ 60 := by
  simp only [entryOk, Bool.and_eq_true, inR_iff] at h
  exact ⟨register_grant h.1 g (by simp), h.2⟩
theorem entryR_len (g : Grant) (w : Int) : (entryR g w).length ≤ 302 := by
  unfold entryR
  split
  · exact entryL_len w g
  · simp
theorem i_EntryLines (g : Grant) (w : Int) : PCall Tryz.prog n_i_EntryLines [eGrant g, I w] (.tup [.own 1 ((entryR g w).map S), B (entryOk g w)]) := by
  refine PCall.ofN fn_i_EntryLines (by simp) ?_
  simp [c_i_EntryLines, r_i_EntryLines_0, r_i_EntryLines_1]
  refine callQ_v (PCall.arg (i_IsValidRegister [g]) (by simp)) ?_
  cases h1 : register [g] with
  | false => simp [r_i_EntryLines_2, entryR, entryOk, h1]
  | true =>
  simp
  refine callQ_v (i_inside ..) ?_
  cases h2 : inR w 20 60 with
  | false => simp [r_i_EntryLines_2, entryR, entryOk, h1, h2]
  | true =>
  have hok : entryOk g w = true := by simp [entryOk, h1, h2]
  have hk := entryOk_iff hok
  simp [r_i_EntryLines_3]
  refine callQ_of (PCall.arg (i_entry g w hk.1 hk.2) (by simp)) rfl (.inl (by simp)) (by simp) ?_
  simp [entryR, hok]
end Go.Proofs.YtbeoijlggphklaaGreatDoor

/- What is on the pages of a roll. No program in sight. -/
set_option linter.unusedVariables false
set_option linter.unusedSimpArgs false
namespace Go.Proofs.YtbeoijlggphklaaGreatDoor
open Go.Abs

/-- A row within another one. -/
def within (a b : List (List UInt8)) : Prop := ∃ i, i + b.length ≤ a.length ∧ (a.drop i).take b.length = b
theorem within_mid {p e q : List (List UInt8)} : within (p ++ e ++ q) e := ⟨p.length, by simp only [List.length_append]; omega, by simp⟩
theorem number_inj {l : List Grant} (h : register l = true) {g k : Grant} (hg : g ∈ l) (hk : k ∈ l) (e : g.number = k.number) : g = k := by
  obtain ⟨i, hi, rfl⟩ := List.getElem_of_mem hg
  obtain ⟨j, hj, rfl⟩ := List.getElem_of_mem hk
  have ha := register_asc h
  have e1 : l.getD i g00 = l[i] := by simp [hi]
  have e2 : l.getD j g00 = l[j] := by simp [hj]
  by_cases h1 : i < j
  · have := ha j i h1 hj; rw [e1, e2] at this; omega
  · by_cases h2 : j < i
    · have := ha i j h2 hi; rw [e1, e2] at this; omega
    · have : i = j := by omega
      subst this; rfl
theorem diffs_single {g : Grant} (h : grantOk g = true) : register [g] = true := by
  simp [register, stepOk, h]
theorem rolls_entry {l : List Grant} {x : Roll} {ps : List (List Grant)} (h : asked l x = some ps) {g : Grant} (hg : g ∈ l) :
    ∃ q, q < (pagesL l x).length ∧ pageN l x g.number = ((q + 1 : Nat) : Int) ∧ pageOk l x g.number = true ∧ entryOk g x.width = true ∧ ∀ hq : q < (pagesL l x).length, within (pagesL l x)[q] (entryR g x.width) := by
  obtain ⟨h1, h2, h3⟩ := asked_iff h
  obtain ⟨_, k2, _⟩ := rollOk_iff h2
  have hf := asked_flat h
  have hgf : g ∈ ps.flatten := by rw [hf]; exact rollOrd_mem.2 hg
  obtain ⟨p0, hp0, hgp0⟩ := List.mem_flatten.1 hgf
  obtain ⟨q, hq⟩ : ∃ q, pageI ps g.number = some q := by
    cases e : pageI ps g.number with
    | some q => exact ⟨q, rfl⟩
    | none =>
      rw [pageI, List.findIdx?_eq_none_iff] at e
      have := e p0 hp0
      rw [List.any_eq_false] at this
      exact absurd (decide_eq_true rfl) (this g hgp0)
  have hq' := hq
  rw [pageI, List.findIdx?_eq_some_iff_getElem] at hq'
  obtain ⟨hql, hqa, _⟩ := hq'
  obtain ⟨k, hk, hkn⟩ := List.any_eq_true.1 hqa
  have hkn := of_decide_eq_true hkn
  have hkl : k ∈ l := rollOrd_mem.1 (by rw [← hf]; exact List.mem_flatten_of_mem (List.getElem_mem hql) hk)
  have hkg := number_inj h1 hkl hg hkn
  subst hkg
  obtain ⟨e1, e2⟩ := pageN_some h hq
  have hok : entryOk k x.width = true := by
    rw [entryOk, diffs_single (register_grant h1 k hg)]
    exact inR_iff.2 k2
  have hlen : (pagesL l x).length = ps.length := by rw [pagesL, h]; simp
  refine ⟨q, by omega, e1, e2, hok, fun hq => ?_⟩
  have hpq : (pagesL l x)[q] = linesP x ps[q] := by simp [pagesL, h]
  rw [hpq, entryR, if_pos hok]
  obtain ⟨a, b, hab⟩ := List.append_of_mem hk
  have : linesP x ps[q] = linesP x a ++ entryL x.width k ++ linesP x b := by
    rw [hab]; simp [linesP]
  rw [this]
  exact within_mid
end Go.Proofs.YtbeoijlggphklaaGreatDoor

/- The compact code of the functions, and that it is theirs: written by a program of this claim. -/
namespace Go.Proofs.YtbeoijlggphklaaGreatDoor
open Go.Abs
set_option maxRecDepth 100000
def r_s_l1Cur_roll_0 : List CO := [⟨none, (some 2), (.box 3 (.k (.agg [(.v (.int .i64 (0))), (.v (.int .i64 (0))), (.v (.int .i64 (0)))])))⟩]
def r_s_l1Cur_roll_1 : List CO := [⟨none, (some 4), (.mv (.t 0))⟩, ⟨none, (some 5), (.call n_s_l1Cur_pick [(.t 4), (.k (.v (.int .i64 (3))))])⟩, ⟨none, (some 6), (.bin .add .none (.k (.v (.int .i64 (1)))) (.t 5))⟩, ⟨none, (some 7), (.mv (.t 0))⟩, ⟨none, (some 8), (.bslice 1 (.v (.int .i64 (0))) 4 [(0, (.k (.v (.int .i64 (20))))), (1, (.k (.v (.int .i64 (24))))), (2, (.k (.v (.int .i64 (30))))), (3, (.k (.v (.int .i64 (60)))))])⟩, ⟨none, (some 9), (.call n_s_l1Cur_among [(.t 7), (.t 8)])⟩, ⟨none, (some 10), (.mv (.t 0))⟩, ⟨none, (some 11), (.bslice 1 (.v (.int .i64 (0))) 5 [(0, (.k (.v (.int .i64 (4))))), (1, (.k (.v (.int .i64 (5))))), (2, (.k (.v (.int .i64 (8))))), (3, (.k (.v (.int .i64 (12))))), (4, (.k (.v (.int .i64 (20)))))])⟩, ⟨none, (some 12), (.call n_s_l1Cur_among [(.t 10), (.t 11)])⟩, ⟨none, (some 13), (.build (.agg [(.v (.int .i64 (0))), (.v (.int .i64 (0))), (.v (.int .i64 (0)))]) [(0, (1, (.t 6))), (1, (1, (.t 9))), (2, (1, (.t 12)))])⟩, ⟨none, (some 3), (.box 3 (.k (.agg [(.v (.int .i64 (0))), (.v (.int .i64 (0))), (.v (.int .i64 (0)))])))⟩, ⟨none, none, (.st 3 (.t 3) (.t 13))⟩]
def r_s_l1Cur_roll_2 : List CO := [⟨none, (some 14), (.mv (.t 0))⟩, ⟨none, (some 15), (.call n_s_l1Cur_pick [(.t 14), (.k (.v (.int .i64 (40))))])⟩]
def r_s_l1Cur_roll_3 : List CO := [⟨none, (some 17), (.bin .eql .none (.t 15) (.k (.v (.int .i64 (0)))))⟩, ⟨none, (some 16), (.mv (.t 17))⟩]
def r_s_l1Cur_roll_4 : List CO := [⟨none, (some 18), (.mv (.t 0))⟩, ⟨none, (some 19), (.bslice 1 (.v (.int .i64 (0))) 2 [(0, (.k (.v (.int .i64 (0))))), (1, (.k (.v (.int .i64 (4)))))])⟩, ⟨none, (some 20), (.call n_s_l1Cur_among [(.t 18), (.t 19)])⟩, ⟨none, (some 21), (.faddr 0 (.t 3))⟩, ⟨none, none, (.st 1 (.t 21) (.t 20))⟩]
def r_s_l1Cur_roll_5 : List CO := [⟨none, (some 23), (.bin .eql .none (.t 15) (.k (.v (.int .i64 (1)))))⟩, ⟨none, (some 22), (.mv (.t 23))⟩]
def r_s_l1Cur_roll_6 : List CO := [⟨none, (some 24), (.mv (.t 0))⟩, ⟨none, (some 25), (.bslice 1 (.v (.int .i64 (0))) 2 [(0, (.k (.v (.int .i64 (19))))), (1, (.k (.v (.int .i64 (61)))))])⟩, ⟨none, (some 26), (.call n_s_l1Cur_among [(.t 24), (.t 25)])⟩, ⟨none, (some 27), (.faddr 1 (.t 3))⟩, ⟨none, none, (.st 1 (.t 27) (.t 26))⟩]
def r_s_l1Cur_roll_7 : List CO := [⟨none, (some 29), (.bin .eql .none (.t 15) (.k (.v (.int .i64 (2)))))⟩, ⟨none, (some 28), (.mv (.t 29))⟩]
def r_s_l1Cur_roll_8 : List CO := [⟨none, (some 30), (.mv (.t 0))⟩, ⟨none, (some 31), (.bslice 1 (.v (.int .i64 (0))) 2 [(0, (.k (.v (.int .i64 (3))))), (1, (.k (.v (.int .i64 (21)))))])⟩, ⟨none, (some 32), (.call n_s_l1Cur_among [(.t 30), (.t 31)])⟩, ⟨none, (some 33), (.faddr 2 (.t 3))⟩, ⟨none, none, (.st 1 (.t 33) (.t 32))⟩]
def r_s_l1Cur_roll_9 : List CO := [⟨none, (some 34), (.ld true 3 (.t 3))⟩, ⟨none, none, (.st 3 (.t 2) (.t 34))⟩]
/-- (*loop.example/g00884/spec.l1Cur).roll -/
def c_s_l1Cur_roll : C := (.seq (.reg r_s_l1Cur_roll_0 [0, 2]) (.seq (.reg r_s_l1Cur_roll_1 [0, 2, 3]) (.seq (.seq (.reg r_s_l1Cur_roll_2 [0, 2, 3, 15]) (.block 0 (.seq (.reg r_s_l1Cur_roll_3 [0, 2, 3, 15, 16]) (.cond (.t 16) (.reg r_s_l1Cur_roll_4 [2, 3]) (.seq (.reg r_s_l1Cur_roll_5 [0, 2, 3, 15, 22]) (.cond (.t 22) (.reg r_s_l1Cur_roll_6 [2, 3]) (.seq (.reg r_s_l1Cur_roll_7 [0, 2, 3, 28]) (.cond (.t 28) (.reg r_s_l1Cur_roll_8 [2, 3]) .skip)))))))) (.seq (.reg r_s_l1Cur_roll_9 [2]) .ret))))
def k_s_l1Cur_roll : Nat → List Nat
  | 0 => [0, 2]
  | 1 => [0, 2, 3]
  | 2 => [0, 2, 3, 15]
  | 3 => [0, 2, 3, 15, 16]
  | 4 => [2, 3]
  | 5 => [0, 2, 3, 15, 22]
  | 6 => [2, 3]
  | 7 => [0, 2, 3, 28]
  | 8 => [2, 3]
  | 9 => [2]
  | _ => []
theorem fn_s_l1Cur_roll : FnC Tryz.prog n_s_l1Cur_roll c_s_l1Cur_roll [(.cell 2 true 3)] 35 :=
  ⟨Tryz.f77, _, k_s_l1Cur_roll, Tryz.func77, rfl, by kernel_rfl, by kernel_rfl, by kernel_rfl, rfl⟩
def r_s_DrawRollPages_0 : List CO := [⟨none, (some 2), (.box 1 (.k (.agg [(.v (.slice none 0 0))])))⟩, ⟨none, (some 3), (.box 3 (.k (.agg [(.v (.int .i64 (0))), (.v (.int .i64 (0))), (.v (.int .i64 (0)))])))⟩]
def r_s_DrawRollPages_1 : List CO := [⟨none, (some 6), (.mv (.t 0))⟩, ⟨none, (some 7), (.build (.agg [(.v (.slice none 0 0)), (.v (.int .i64 (0))), (.v (.int .u64 (0)))]) [(0, (1, (.t 6)))])⟩, ⟨none, (some 8), (.box 3 (.t 7))⟩, ⟨none, (some 4), (.mv (.t 8))⟩]
def r_s_DrawRollPages_2 : List CO := [⟨none, (some 9), (.mv (.t 4))⟩, ⟨none, (some 10), (.call n_s_l1Cur_anyRegister [(.t 9)])⟩, ⟨none, (some 5), (.box 1 (.k (.agg [(.v (.slice none 0 0))])))⟩, ⟨none, none, (.st 1 (.t 5) (.t 10))⟩]
def r_s_DrawRollPages_3 : List CO := [⟨none, (some 11), (.ld true 1 (.t 5))⟩, ⟨none, (some 12), (.mv (.t 4))⟩, ⟨none, (some 13), (.call n_s_l1Cur_roll [(.t 12)])⟩, ⟨none, none, (.st 1 (.t 2) (.t 11))⟩, ⟨none, none, (.st 3 (.t 3) (.t 13))⟩]
def p_s_DrawRollPages_3 : List (List Nat) := [[], [], [1], [0, 1, 2], [0, 1, 2, 3]]
/-- loop.example/g00884/spec.DrawRollPages -/
def c_s_DrawRollPages : C := (.seq (.reg r_s_DrawRollPages_0 [0, 2, 3]) (.seq (.reg r_s_DrawRollPages_1 [2, 3, 4]) (.seq (.reg r_s_DrawRollPages_2 [2, 3, 4, 5]) (.seq (.regD r_s_DrawRollPages_3 p_s_DrawRollPages_3 [2, 3]) .ret))))
def k_s_DrawRollPages : Nat → List Nat
  | 0 => [0, 2, 3]
  | 1 => [2, 3, 4]
  | 2 => [2, 3, 4, 5]
  | 3 => [2, 3]
  | _ => []
theorem fn_s_DrawRollPages : FnC Tryz.prog n_s_DrawRollPages c_s_DrawRollPages [(.cell 2 true 1), (.cell 3 true 3)] 14 :=
  ⟨Tryz.f39, _, k_s_DrawRollPages, Tryz.func39, rfl, by kernel_rfl, by kernel_rfl, by kernel_rfl, rfl⟩
def r_s_DrawRollOrder_0 : List CO := [⟨none, (some 2), (.box 1 (.k (.agg [(.v (.slice none 0 0))])))⟩, ⟨none, (some 3), (.mv (.k (.v (.int .i64 (0)))))⟩]
def r_s_DrawRollOrder_1 : List CO := [⟨none, (some 5), (.mv (.t 0))⟩, ⟨none, (some 6), (.build (.agg [(.v (.slice none 0 0)), (.v (.int .i64 (0))), (.v (.int .u64 (0)))]) [(0, (1, (.t 5)))])⟩, ⟨none, (some 7), (.box 3 (.t 6))⟩, ⟨none, (some 4), (.mv (.t 7))⟩]
def r_s_DrawRollOrder_2 : List CO := [⟨none, (some 8), (.mv (.t 4))⟩, ⟨none, (some 9), (.call n_s_l1Cur_anyRegister [(.t 8)])⟩, ⟨none, (some 10), (.mv (.t 4))⟩, ⟨none, (some 11), (.bslice 1 (.v (.int .i64 (0))) 5 [(0, (.k (.v (.int .i64 (1))))), (1, (.k (.v (.int .i64 (2))))), (2, (.k (.v (.int .i64 (3))))), (3, (.k (.v (.int .i64 (0))))), (4, (.k (.v (.int .i64 (4)))))])⟩, ⟨none, (some 12), (.mv (.t 4))⟩, ⟨none, (some 13), (.call n_s_l1Cur_pick [(.t 12), (.k (.v (.int .i64 (24))))])⟩, ⟨none, (some 14), (.bin .quo .none (.t 13) (.k (.v (.int .i64 (11)))))⟩, ⟨none, (some 15), (.bin .add .none (.k (.v (.int .i64 (3)))) (.t 14))⟩, ⟨none, (some 16), (.slc (some 1) (.t 11) none (some (.t 15)))⟩, ⟨none, (some 17), (.call n_s_l1Cur_among [(.t 10), (.t 16)])⟩, ⟨none, none, (.st 1 (.t 2) (.t 9))⟩, ⟨none, (some 3), (.mv (.t 17))⟩]
/-- loop.example/g00884/spec.DrawRollOrder -/
def c_s_DrawRollOrder : C := (.seq (.reg r_s_DrawRollOrder_0 [0, 2]) (.seq (.reg r_s_DrawRollOrder_1 [2, 4]) (.seq (.reg r_s_DrawRollOrder_2 [2, 3]) .ret)))
def k_s_DrawRollOrder : Nat → List Nat
  | 0 => [0, 2]
  | 1 => [2, 4]
  | 2 => [2, 3]
  | _ => []
theorem fn_s_DrawRollOrder : FnC Tryz.prog n_s_DrawRollOrder c_s_DrawRollOrder [(.cell 2 true 1), (.tmp 3)] 18 :=
  ⟨Tryz.f42, _, k_s_DrawRollOrder, Tryz.func42, rfl, by kernel_rfl, by kernel_rfl, by kernel_rfl, rfl⟩
end Go.Proofs.YtbeoijlggphklaaGreatDoor

/- The compact code of the functions, and that it is theirs: written by a program of this claim. -/
namespace Go.Proofs.YtbeoijlggphklaaGreatDoor
open Go.Abs
set_option maxRecDepth 100000
def r_s_l1Cur_anyRegister_0 : List CO := [⟨none, (some 2), (.box 1 (.k (.agg [(.v (.slice none 0 0))])))⟩]
def r_s_l1Cur_anyRegister_1 : List CO := [⟨none, (some 7), (.mv (.t 0))⟩, ⟨none, (some 8), (.call n_s_l1Cur_register [(.t 7)])⟩, ⟨none, (some 3), (.box 1 (.k (.agg [(.v (.slice none 0 0))])))⟩, ⟨none, none, (.st 1 (.t 3) (.t 8))⟩]
def r_s_l1Cur_anyRegister_2 : List CO := [⟨none, (some 9), (.faddr 0 (.t 3))⟩, ⟨none, (some 10), (.ld false 1 (.t 9))⟩, ⟨none, (some 11), (.len false (.t 10))⟩, ⟨none, (some 12), (.bin .eql .none (.t 11) (.k (.v (.int .i64 (0)))))⟩]
def r_s_l1Cur_anyRegister_3 : List CO := [⟨none, (some 13), (.ld true 1 (.t 3))⟩, ⟨none, none, (.st 1 (.t 2) (.t 13))⟩]
def r_s_l1Cur_anyRegister_4 : List CO := [⟨none, (some 14), (.mv (.t 0))⟩, ⟨none, (some 15), (.faddr 0 (.t 3))⟩, ⟨none, (some 16), (.ld false 1 (.t 15))⟩, ⟨none, (some 17), (.len false (.t 16))⟩, ⟨none, (some 18), (.call n_s_l1Cur_pick [(.t 14), (.t 17)])⟩, ⟨none, (some 4), (.mv (.t 18))⟩]
def r_s_l1Cur_anyRegister_5 : List CO := [⟨none, (some 19), (.faddr 0 (.t 3))⟩, ⟨none, (some 20), (.ld false 1 (.t 19))⟩, ⟨none, (some 21), (.mv (.t 4))⟩, ⟨none, (some 22), (.iaddr 18 (.t 20) (.t 21))⟩, ⟨none, (some 23), (.ld true 18 (.t 22))⟩, ⟨none, (some 5), (.box 18 (.k (.agg [(.v (.int .i64 (0))), (.v (.string (bs []))), (.v (.int .i64 (0))), (.v (.int .i64 (0))), (.v (.int .i64 (0))), (.v (.int .i64 (0))), (.v (.int .i64 (0))), (.v (.int .i64 (0))), (.v (.int .i64 (0))), (.v (.int .i64 (0))), (.v (.int .i64 (0))), (.v (.int .i64 (0))), (.v (.int .i64 (0))), (.v (.int .i64 (0))), (.v (.int .i64 (0))), (.v (.int .i64 (0))), (.v (.int .i64 (0))), (.v (.int .i64 (0)))])))⟩, ⟨none, none, (.st 18 (.t 5) (.t 23))⟩]
def r_s_l1Cur_anyRegister_6 : List CO := [⟨none, (some 24), (.mv (.t 0))⟩, ⟨none, (some 25), (.call n_s_l1Cur_pick [(.t 24), (.k (.v (.int .i64 (20))))])⟩]
def r_s_l1Cur_anyRegister_7 : List CO := [⟨none, (some 27), (.bin .eql .none (.t 25) (.k (.v (.int .i64 (0)))))⟩, ⟨none, (some 26), (.mv (.t 27))⟩]
def r_s_l1Cur_anyRegister_8 : List CO := [⟨none, (some 28), (.mv (.t 0))⟩, ⟨none, (some 29), (.bslice 1 (.v (.int .i64 (0))) 4 [(0, (.k (.v (.int .i64 (0))))), (1, (.k (.v (.int .i64 (1000))))), (2, (.k (.v (.int .i64 (1))))), (3, (.k (.v (.int .i64 (999)))))])⟩, ⟨none, (some 30), (.call n_s_l1Cur_among [(.t 28), (.t 29)])⟩, ⟨none, (some 31), (.faddr 0 (.t 5))⟩, ⟨none, none, (.st 1 (.t 31) (.t 30))⟩]
def r_s_l1Cur_anyRegister_9 : List CO := [⟨none, (some 33), (.bin .eql .none (.t 25) (.k (.v (.int .i64 (1)))))⟩, ⟨none, (some 32), (.mv (.t 33))⟩]
def r_s_l1Cur_anyRegister_10 : List CO := [⟨none, (some 34), (.mv (.t 0))⟩, ⟨none, (some 35), (.bslice 1 (.v (.string (bs []))) 5 [(0, (.k (.v (.string (bs []))))), (1, (.k (.v (.string (bs [97, 115, 104, 101]))))), (2, (.k (.v (.string (bs [65, 98, 99, 100, 101, 102, 103, 104, 105, 106, 107, 108]))))), (3, (.k (.v (.string (bs [65, 98, 99, 100, 101, 102, 103, 104, 105, 106, 107, 108, 109]))))), (4, (.k (.v (.string (bs [65])))))])⟩, ⟨none, (some 36), (.call n_s_l1Cur_of [(.t 34), (.t 35)])⟩, ⟨none, (some 37), (.faddr 1 (.t 5))⟩, ⟨none, none, (.st 1 (.t 37) (.t 36))⟩]
def r_s_l1Cur_anyRegister_11 : List CO := [⟨none, (some 39), (.bin .eql .none (.t 25) (.k (.v (.int .i64 (2)))))⟩, ⟨none, (some 38), (.mv (.t 39))⟩]
def r_s_l1Cur_anyRegister_12 : List CO := [⟨none, (some 40), (.mv (.t 0))⟩, ⟨none, (some 41), (.bslice 1 (.v (.int .i64 (0))) 4 [(0, (.k (.v (.int .i64 (999))))), (1, (.k (.v (.int .i64 (1000))))), (2, (.k (.v (.int .i64 (2999))))), (3, (.k (.v (.int .i64 (3000)))))])⟩, ⟨none, (some 42), (.call n_s_l1Cur_among [(.t 40), (.t 41)])⟩, ⟨none, (some 43), (.faddr 2 (.t 5))⟩, ⟨none, none, (.st 1 (.t 43) (.t 42))⟩]
def r_s_l1Cur_anyRegister_13 : List CO := [⟨none, (some 45), (.bin .eql .none (.t 25) (.k (.v (.int .i64 (3)))))⟩, ⟨none, (some 44), (.mv (.t 45))⟩]
def r_s_l1Cur_anyRegister_14 : List CO := [⟨none, (some 46), (.mv (.t 0))⟩, ⟨none, (some 47), (.call n_s_l1Cur_anyArms [(.t 46)])⟩, ⟨none, (some 48), (.faddr 3 (.t 5))⟩, ⟨none, none, (.st 15 (.t 48) (.t 47))⟩]
def r_s_l1Cur_anyRegister_15 : List CO := [⟨none, (some 50), (.bin .eql .none (.t 25) (.k (.v (.int .i64 (4)))))⟩, ⟨none, (some 49), (.mv (.t 50))⟩]
def r_s_l1Cur_anyRegister_16 : List CO := [⟨none, (some 51), (.mv (.t 0))⟩, ⟨none, (some 52), (.faddr 0 (.t 3))⟩, ⟨none, (some 53), (.ld false 1 (.t 52))⟩, ⟨none, (some 54), (.iaddr 18 (.t 53) (.k (.v (.int .i64 (0)))))⟩, ⟨none, (some 55), (.faddr 3 (.t 54))⟩, ⟨none, (some 56), (.ld true 15 (.t 55))⟩, ⟨none, (some 57), (.call n_s_l1Cur_like [(.t 51), (.t 56)])⟩, ⟨none, (some 58), (.faddr 3 (.t 5))⟩, ⟨none, none, (.st 15 (.t 58) (.t 57))⟩]
def r_s_l1Cur_anyRegister_17 : List CO := [⟨none, (some 60), (.bin .eql .none (.t 25) (.k (.v (.int .i64 (5)))))⟩, ⟨none, (some 59), (.mv (.t 60))⟩]
def r_s_l1Cur_anyRegister_18 : List CO := [⟨none, (some 6), (.mv (.k (.v (.int .i64 (0)))))⟩]
def r_s_l1Cur_anyRegister_19 : List CO := [⟨none, (some 61), (.faddr 0 (.t 3))⟩, ⟨none, (some 62), (.ld false 1 (.t 61))⟩, ⟨none, (some 63), (.len false (.t 62))⟩, ⟨none, (some 64), (.mv (.t 0))⟩, ⟨none, (some 65), (.call n_s_l1Cur_pick [(.t 64), (.k (.v (.int .i64 (2))))])⟩, ⟨none, (some 66), (.bin .add .none (.k (.v (.int .i64 (12)))) (.t 65))⟩, ⟨none, (some 67), (.bin .lss .none (.t 63) (.t 66))⟩, ⟨none, (some 68), (.mv (.t 67))⟩, ⟨(some (68, true)), (some 69), (.mv (.t 6))⟩, ⟨(some (68, true)), (some 70), (.bin .lss .none (.t 69) (.k (.v (.int .i64 (14)))))⟩, ⟨none, (some 71), (.pick (.t 68) (.t 70) (.k (.v (.bool false))))⟩]
def p_s_l1Cur_anyRegister_19 : List (List Nat) := [[], [0], [0, 1], [], [3], [3, 4], [0, 1, 2, 3, 4, 5], [0, 1, 2, 3, 4, 5, 6], [0, 1, 2, 3, 4, 5, 6, 7], [0, 1, 2, 3, 4, 5, 6, 7, 8], [0, 1, 2, 3, 4, 5, 6, 7, 8, 9]]
def r_s_l1Cur_anyRegister_20 : List CO := [⟨none, (some 74), (.faddr 0 (.t 3))⟩, ⟨none, (some 75), (.ld false 1 (.t 74))⟩, ⟨none, (some 76), (.mv (.t 6))⟩, ⟨none, (some 77), (.bin .add .none (.k (.v (.int .i64 (100)))) (.t 76))⟩, ⟨none, (some 78), (.mv (.t 6))⟩, ⟨none, (some 79), (.bin .rem .none (.t 78) (.k (.v (.int .i64 (9)))))⟩, ⟨none, (some 80), (.bin .add .none (.k (.v (.int .i64 (1)))) (.t 79))⟩, ⟨none, (some 81), (.build (.agg [(.v (.int .i64 (0))), (.v (.int .i64 (0))), (.v (.int .i64 (0))), (.v (.int .i64 (0)))]) [(2, (1, (.t 80)))])⟩, ⟨none, (some 82), (.mv (.t 6))⟩, ⟨none, (some 83), (.bin .rem .none (.t 82) (.k (.v (.int .i64 (6)))))⟩, ⟨none, (some 84), (.bin .add .none (.k (.v (.int .i64 (1)))) (.t 83))⟩, ⟨none, (some 85), (.mv (.t 6))⟩, ⟨none, (some 86), (.bin .rem .none (.t 85) (.k (.v (.int .i64 (5)))))⟩, ⟨none, (some 87), (.bin .add .none (.k (.v (.int .i64 (4)))) (.t 86))⟩, ⟨none, (some 88), (.mv (.t 6))⟩, ⟨none, (some 89), (.bin .quo .none (.t 88) (.k (.v (.int .i64 (2)))))⟩, ⟨none, (some 90), (.bin .add .none (.k (.v (.int .i64 (1)))) (.t 89))⟩, ⟨none, (some 91), (.build (.agg [(.v (.int .i64 (0))), (.v (.int .i64 (0))), (.v (.int .i64 (0))), (.v (.int .i64 (0)))]) [(0, (1, (.t 84))), (1, (1, (.t 87))), (3, (1, (.t 90)))])⟩, ⟨none, (some 92), (.build (.agg [(.v (.int .i64 (0))), (.v (.int .i64 (0))), (.v (.int .i64 (0))), (.v (.int .i64 (0))), (.v (.int .i64 (0))), (.v (.int .i64 (0))), (.v (.int .i64 (0))), (.v (.int .i64 (0))), (.v (.int .i64 (0))), (.v (.int .i64 (0))), (.v (.int .i64 (0))), (.v (.int .i64 (0))), (.v (.int .i64 (0))), (.v (.int .i64 (0))), (.v (.int .i64 (0)))]) [(0, (4, (.t 81))), (11, (4, (.t 91)))])⟩, ⟨none, (some 93), (.build (.agg [(.v (.int .i64 (0))), (.v (.string (bs []))), (.v (.int .i64 (0))), (.v (.int .i64 (0))), (.v (.int .i64 (0))), (.v (.int .i64 (0))), (.v (.int .i64 (0))), (.v (.int .i64 (0))), (.v (.int .i64 (0))), (.v (.int .i64 (0))), (.v (.int .i64 (0))), (.v (.int .i64 (0))), (.v (.int .i64 (0))), (.v (.int .i64 (0))), (.v (.int .i64 (0))), (.v (.int .i64 (0))), (.v (.int .i64 (0))), (.v (.int .i64 (0)))]) [(0, (1, (.t 77))), (1, (1, (.k (.v (.string (bs [90, 101, 100])))))), (2, (1, (.k (.v (.int .i64 (2900)))))), (3, (15, (.t 92)))])⟩, ⟨none, (some 94), (.bslice 18 (.agg [(.v (.int .i64 (0))), (.v (.string (bs []))), (.v (.int .i64 (0))), (.v (.int .i64 (0))), (.v (.int .i64 (0))), (.v (.int .i64 (0))), (.v (.int .i64 (0))), (.v (.int .i64 (0))), (.v (.int .i64 (0))), (.v (.int .i64 (0))), (.v (.int .i64 (0))), (.v (.int .i64 (0))), (.v (.int .i64 (0))), (.v (.int .i64 (0))), (.v (.int .i64 (0))), (.v (.int .i64 (0))), (.v (.int .i64 (0))), (.v (.int .i64 (0)))]) 1 [(0, (.t 93))])⟩, ⟨none, (some 95), (.app 18 152 (.t 75) (.t 94))⟩, ⟨none, (some 96), (.faddr 0 (.t 3))⟩, ⟨none, none, (.st 1 (.t 96) (.t 95))⟩]
def r_s_l1Cur_anyRegister_21 : List CO := [⟨none, (some 72), (.mv (.t 6))⟩, ⟨none, (some 73), (.bin .add .none (.t 72) (.k (.v (.int .i64 (1)))))⟩, ⟨none, (some 6), (.mv (.t 73))⟩]
def l_s_l1Cur_anyRegister_22 : C := (.seq (.seq (.regD r_s_l1Cur_anyRegister_19 p_s_l1Cur_anyRegister_19 [0, 2, 3, 6, 71]) (.cond (.t 71) .skip (.exit 1))) (.seq (.block 2 (.reg r_s_l1Cur_anyRegister_20 [0, 2, 3, 6])) (.reg r_s_l1Cur_anyRegister_21 [0, 2, 3, 6])))
def r_s_l1Cur_anyRegister_23 : List CO := [⟨none, (some 97), (.ld true 1 (.t 3))⟩, ⟨none, none, (.st 1 (.t 2) (.t 97))⟩]
def r_s_l1Cur_anyRegister_24 : List CO := [⟨none, (some 98), (.faddr 0 (.t 3))⟩, ⟨none, (some 99), (.ld false 1 (.t 98))⟩, ⟨none, (some 100), (.mv (.t 4))⟩, ⟨none, (some 101), (.ld true 18 (.t 5))⟩, ⟨none, (some 102), (.iaddr 18 (.t 99) (.t 100))⟩, ⟨none, none, (.st 18 (.t 102) (.t 101))⟩]
def r_s_l1Cur_anyRegister_25 : List CO := [⟨none, (some 103), (.ld true 1 (.t 3))⟩, ⟨none, none, (.st 1 (.t 2) (.t 103))⟩]
/-- (*loop.example/g00884/spec.l1Cur).anyRegister -/
def c_s_l1Cur_anyRegister : C := (.seq (.reg r_s_l1Cur_anyRegister_0 [0, 2]) (.seq (.reg r_s_l1Cur_anyRegister_1 [0, 2, 3]) (.seq (.seq (.reg r_s_l1Cur_anyRegister_2 [0, 2, 3, 12]) (.cond (.t 12) (.seq (.reg r_s_l1Cur_anyRegister_3 [2]) .ret) .skip)) (.seq (.reg r_s_l1Cur_anyRegister_4 [0, 2, 3, 4]) (.seq (.reg r_s_l1Cur_anyRegister_5 [0, 2, 3, 4, 5]) (.seq (.seq (.reg r_s_l1Cur_anyRegister_6 [0, 2, 3, 4, 5, 25]) (.block 0 (.seq (.reg r_s_l1Cur_anyRegister_7 [0, 2, 3, 4, 5, 25, 26]) (.cond (.t 26) (.reg r_s_l1Cur_anyRegister_8 [2, 3, 4, 5]) (.seq (.reg r_s_l1Cur_anyRegister_9 [0, 2, 3, 4, 5, 25, 32]) (.cond (.t 32) (.reg r_s_l1Cur_anyRegister_10 [2, 3, 4, 5]) (.seq (.reg r_s_l1Cur_anyRegister_11 [0, 2, 3, 4, 5, 25, 38]) (.cond (.t 38) (.reg r_s_l1Cur_anyRegister_12 [2, 3, 4, 5]) (.seq (.reg r_s_l1Cur_anyRegister_13 [0, 2, 3, 4, 5, 25, 44]) (.cond (.t 44) (.reg r_s_l1Cur_anyRegister_14 [2, 3, 4, 5]) (.seq (.reg r_s_l1Cur_anyRegister_15 [0, 2, 3, 4, 5, 25, 49]) (.cond (.t 49) (.reg r_s_l1Cur_anyRegister_16 [2, 3, 4, 5]) (.seq (.reg r_s_l1Cur_anyRegister_17 [0, 2, 3, 4, 5, 59]) (.cond (.t 59) (.seq (.seq (.reg r_s_l1Cur_anyRegister_18 [0, 2, 3, 6]) (.block 1 (.loop l_s_l1Cur_anyRegister_22))) (.seq (.reg r_s_l1Cur_anyRegister_23 [2]) .ret)) .skip)))))))))))))) (.seq (.reg r_s_l1Cur_anyRegister_24 [2, 3]) (.seq (.reg r_s_l1Cur_anyRegister_25 [2]) .ret))))))))
def k_s_l1Cur_anyRegister : Nat → List Nat
  | 0 => [0, 2]
  | 1 => [0, 2, 3]
  | 2 => [0, 2, 3, 12]
  | 3 => [2]
  | 4 => [0, 2, 3, 4]
  | 5 => [0, 2, 3, 4, 5]
  | 6 => [0, 2, 3, 4, 5, 25]
  | 7 => [0, 2, 3, 4, 5, 25, 26]
  | 8 => [2, 3, 4, 5]
  | 9 => [0, 2, 3, 4, 5, 25, 32]
  | 10 => [2, 3, 4, 5]
  | 11 => [0, 2, 3, 4, 5, 25, 38]
  | 12 => [2, 3, 4, 5]
  | 13 => [0, 2, 3, 4, 5, 25, 44]
  | 14 => [2, 3, 4, 5]
  | 15 => [0, 2, 3, 4, 5, 25, 49]
  | 16 => [2, 3, 4, 5]
  | 17 => [0, 2, 3, 4, 5, 59]
  | 18 => [0, 2, 3, 6]
  | 19 => [0, 2, 3, 6, 71]
  | 21 => [0, 2, 3, 6]
  | 20 => [0, 2, 3, 6]
  | 22 => [2]
  | 23 => [2, 3]
  | 24 => [2]
  | _ => []
theorem fn_s_l1Cur_anyRegister : FnC Tryz.prog n_s_l1Cur_anyRegister c_s_l1Cur_anyRegister [(.cell 2 true 1)] 104 :=
  ⟨Tryz.f76, _, k_s_l1Cur_anyRegister, Tryz.func76, rfl, by kernel_rfl, by kernel_rfl, by kernel_rfl, rfl⟩
end Go.Proofs.YtbeoijlggphklaaGreatDoor

/- The compact code of the functions, and that it is theirs: written by a program of this claim. -/
namespace Go.Proofs.YtbeoijlggphklaaGreatDoor
open Go.Abs
set_option maxRecDepth 100000
def r_s_l1Cur_register_0 : List CO := [⟨none, (some 2), (.box 1 (.k (.agg [(.v (.slice none 0 0))])))⟩]
def r_s_l1Cur_register_1 : List CO := [⟨none, (some 9), (.bslice 18 (.agg [(.v (.int .i64 (0))), (.v (.string (bs []))), (.v (.int .i64 (0))), (.v (.int .i64 (0))), (.v (.int .i64 (0))), (.v (.int .i64 (0))), (.v (.int .i64 (0))), (.v (.int .i64 (0))), (.v (.int .i64 (0))), (.v (.int .i64 (0))), (.v (.int .i64 (0))), (.v (.int .i64 (0))), (.v (.int .i64 (0))), (.v (.int .i64 (0))), (.v (.int .i64 (0))), (.v (.int .i64 (0))), (.v (.int .i64 (0))), (.v (.int .i64 (0)))]) 0 [])⟩, ⟨none, (some 10), (.build (.agg [(.v (.slice none 0 0))]) [(0, (1, (.t 9)))])⟩, ⟨none, (some 3), (.box 1 (.k (.agg [(.v (.slice none 0 0))])))⟩, ⟨none, none, (.st 1 (.t 3) (.t 10))⟩]
def r_s_l1Cur_register_2 : List CO := [⟨none, (some 11), (.mv (.t 0))⟩, ⟨none, (some 12), (.call n_s_l1Cur_pick [(.t 11), (.k (.v (.int .i64 (100))))])⟩, ⟨none, (some 13), (.bin .add .none (.k (.v (.int .i64 (1500)))) (.t 12))⟩, ⟨none, (some 4), (.mv (.t 13))⟩, ⟨none, (some 5), (.mv (.k (.v (.int .i64 (0)))))⟩]
def r_s_l1Cur_register_3 : List CO := [⟨none, (some 14), (.mv (.t 0))⟩, ⟨none, (some 15), (.call n_s_l1Cur_arms [(.t 14)])⟩, ⟨none, (some 6), (.box 15 (.k (.agg [(.v (.int .i64 (0))), (.v (.int .i64 (0))), (.v (.int .i64 (0))), (.v (.int .i64 (0))), (.v (.int .i64 (0))), (.v (.int .i64 (0))), (.v (.int .i64 (0))), (.v (.int .i64 (0))), (.v (.int .i64 (0))), (.v (.int .i64 (0))), (.v (.int .i64 (0))), (.v (.int .i64 (0))), (.v (.int .i64 (0))), (.v (.int .i64 (0))), (.v (.int .i64 (0)))])))⟩, ⟨none, none, (.st 15 (.t 6) (.t 15))⟩]
def r_s_l1Cur_register_4 : List CO := [⟨none, (some 16), (.mv (.t 0))⟩, ⟨none, (some 17), (.call n_s_l1Cur_pick [(.t 16), (.k (.v (.int .i64 (6))))])⟩, ⟨none, (some 7), (.mv (.t 17))⟩]
def r_s_l1Cur_register_5 : List CO := [⟨none, (some 18), (.mv (.t 7))⟩, ⟨none, (some 19), (.bin .gtr .none (.t 18) (.k (.v (.int .i64 (0)))))⟩]
def r_s_l1Cur_register_6 : List CO := [⟨none, (some 22), (.mv (.t 0))⟩, ⟨none, (some 23), (.ld true 15 (.t 6))⟩, ⟨none, (some 24), (.call n_s_l1Cur_like [(.t 22), (.t 23)])⟩, ⟨none, (some 8), (.box 15 (.k (.agg [(.v (.int .i64 (0))), (.v (.int .i64 (0))), (.v (.int .i64 (0))), (.v (.int .i64 (0))), (.v (.int .i64 (0))), (.v (.int .i64 (0))), (.v (.int .i64 (0))), (.v (.int .i64 (0))), (.v (.int .i64 (0))), (.v (.int .i64 (0))), (.v (.int .i64 (0))), (.v (.int .i64 (0))), (.v (.int .i64 (0))), (.v (.int .i64 (0))), (.v (.int .i64 (0)))])))⟩, ⟨none, none, (.st 15 (.t 8) (.t 24))⟩]
def r_s_l1Cur_register_7 : List CO := [⟨none, (some 25), (.mv (.t 0))⟩, ⟨none, (some 26), (.call n_s_l1Cur_one [(.t 25), (.k (.v (.int .i64 (2))))])⟩]
def r_s_l1Cur_register_8 : List CO := [⟨none, (some 27), (.mv (.t 0))⟩, ⟨none, (some 28), (.call n_s_l1Cur_arms [(.t 27)])⟩, ⟨none, none, (.st 15 (.t 8) (.t 28))⟩]
def r_s_l1Cur_register_9 : List CO := [⟨none, (some 29), (.ld true 1 (.t 3))⟩, ⟨none, (some 30), (.ld true 15 (.t 8))⟩, ⟨none, (some 31), (.call n_s_l16Conflicts [(.t 29), (.t 30)])⟩, ⟨none, (some 32), (.len false (.t 31))⟩, ⟨none, (some 33), (.bin .gtr .none (.t 32) (.k (.v (.int .i64 (0)))))⟩]
def r_s_l1Cur_register_10 : List CO := [⟨none, (some 34), (.mv (.t 4))⟩, ⟨none, (some 35), (.mv (.t 0))⟩, ⟨none, (some 36), (.call n_s_l1Cur_pick [(.t 35), (.k (.v (.int .i64 (20))))])⟩, ⟨none, (some 37), (.bin .add .none (.t 34) (.t 36))⟩, ⟨none, (some 4), (.mv (.t 37))⟩]
def r_s_l1Cur_register_11 : List CO := [⟨none, (some 38), (.mv (.t 5))⟩, ⟨none, (some 39), (.bin .add .none (.t 38) (.k (.v (.int .i64 (1)))))⟩, ⟨none, (some 40), (.mv (.t 0))⟩, ⟨none, (some 41), (.call n_s_l1Cur_pick [(.t 40), (.k (.v (.int .i64 (2))))])⟩, ⟨none, (some 42), (.bin .add .none (.t 39) (.t 41))⟩, ⟨none, (some 5), (.mv (.t 42))⟩]
def r_s_l1Cur_register_12 : List CO := [⟨none, (some 43), (.faddr 0 (.t 3))⟩, ⟨none, (some 44), (.ld false 1 (.t 43))⟩, ⟨none, (some 45), (.mv (.t 5))⟩, ⟨none, (some 46), (.mv (.t 0))⟩, ⟨none, (some 47), (.bslice 1 (.v (.string (bs []))) 4 [(0, (.k (.v (.string (bs [65, 115, 104, 101]))))), (1, (.k (.v (.string (bs [66, 114, 111, 111, 107]))))), (2, (.k (.v (.string (bs [67, 111, 108, 101]))))), (3, (.k (.v (.string (bs [68, 117, 110, 110])))))])⟩, ⟨none, (some 48), (.call n_s_l1Cur_of [(.t 46), (.t 47)])⟩, ⟨none, (some 49), (.mv (.t 4))⟩, ⟨none, (some 50), (.ld true 15 (.t 8))⟩, ⟨none, (some 51), (.build (.agg [(.v (.int .i64 (0))), (.v (.string (bs []))), (.v (.int .i64 (0))), (.v (.int .i64 (0))), (.v (.int .i64 (0))), (.v (.int .i64 (0))), (.v (.int .i64 (0))), (.v (.int .i64 (0))), (.v (.int .i64 (0))), (.v (.int .i64 (0))), (.v (.int .i64 (0))), (.v (.int .i64 (0))), (.v (.int .i64 (0))), (.v (.int .i64 (0))), (.v (.int .i64 (0))), (.v (.int .i64 (0))), (.v (.int .i64 (0))), (.v (.int .i64 (0)))]) [(0, (1, (.t 45))), (1, (1, (.t 48))), (2, (1, (.t 49))), (3, (15, (.t 50)))])⟩, ⟨none, (some 52), (.bslice 18 (.agg [(.v (.int .i64 (0))), (.v (.string (bs []))), (.v (.int .i64 (0))), (.v (.int .i64 (0))), (.v (.int .i64 (0))), (.v (.int .i64 (0))), (.v (.int .i64 (0))), (.v (.int .i64 (0))), (.v (.int .i64 (0))), (.v (.int .i64 (0))), (.v (.int .i64 (0))), (.v (.int .i64 (0))), (.v (.int .i64 (0))), (.v (.int .i64 (0))), (.v (.int .i64 (0))), (.v (.int .i64 (0))), (.v (.int .i64 (0))), (.v (.int .i64 (0)))]) 1 [(0, (.t 51))])⟩, ⟨none, (some 53), (.app 18 152 (.t 44) (.t 52))⟩, ⟨none, (some 54), (.faddr 0 (.t 3))⟩, ⟨none, none, (.st 1 (.t 54) (.t 53))⟩]
def p_s_l1Cur_register_12 : List (List Nat) := [[], [0], [], [], [], [3, 4], [], [], [2, 3, 4, 5, 6, 7], [2, 3, 4, 5, 6, 7, 8], [0, 1, 2, 3, 4, 5, 6, 7, 8, 9], [0, 1, 2, 3, 4, 5, 6, 7, 8, 9, 10], [0, 1, 2, 3, 4, 5, 6, 7, 8, 9, 10, 11]]
def r_s_l1Cur_register_13 : List CO := [⟨none, (some 20), (.mv (.t 7))⟩, ⟨none, (some 21), (.bin .sub .none (.t 20) (.k (.v (.int .i64 (1)))))⟩, ⟨none, (some 7), (.mv (.t 21))⟩]
def l_s_l1Cur_register_14 : C := (.seq (.seq (.reg r_s_l1Cur_register_5 [0, 2, 3, 4, 5, 6, 7, 19]) (.cond (.t 19) .skip (.exit 0))) (.seq (.block 1 (.seq (.reg r_s_l1Cur_register_6 [0, 2, 3, 4, 5, 6, 7, 8]) (.seq (.seq (.reg r_s_l1Cur_register_7 [0, 2, 3, 4, 5, 6, 7, 8, 26]) (.cond (.t 26) (.reg r_s_l1Cur_register_8 [0, 2, 3, 4, 5, 6, 7, 8]) .skip)) (.seq (.seq (.wk (.reg r_s_l1Cur_register_9 [0, 2, 3, 4, 5, 6, 7, 8, 33])) (.cond (.t 33) (.exit 1) .skip)) (.seq (.reg r_s_l1Cur_register_10 [0, 2, 3, 4, 5, 6, 7, 8]) (.seq (.reg r_s_l1Cur_register_11 [0, 2, 3, 4, 5, 6, 7, 8]) (.regD r_s_l1Cur_register_12 p_s_l1Cur_register_12 [0, 2, 3, 4, 5, 6, 7]))))))) (.reg r_s_l1Cur_register_13 [0, 2, 3, 4, 5, 6, 7])))
def r_s_l1Cur_register_15 : List CO := [⟨none, (some 55), (.ld true 1 (.t 3))⟩, ⟨none, none, (.st 1 (.t 2) (.t 55))⟩]
/-- (*loop.example/g00884/spec.l1Cur).register -/
def c_s_l1Cur_register : C := (.seq (.reg r_s_l1Cur_register_0 [0, 2]) (.seq (.reg r_s_l1Cur_register_1 [0, 2, 3]) (.seq (.reg r_s_l1Cur_register_2 [0, 2, 3, 4, 5]) (.seq (.reg r_s_l1Cur_register_3 [0, 2, 3, 4, 5, 6]) (.seq (.seq (.reg r_s_l1Cur_register_4 [0, 2, 3, 4, 5, 6, 7]) (.block 0 (.loop l_s_l1Cur_register_14))) (.seq (.reg r_s_l1Cur_register_15 [2]) .ret))))))
def k_s_l1Cur_register : Nat → List Nat
  | 0 => [0, 2]
  | 1 => [0, 2, 3]
  | 2 => [0, 2, 3, 4, 5]
  | 3 => [0, 2, 3, 4, 5, 6]
  | 4 => [0, 2, 3, 4, 5, 6, 7]
  | 5 => [0, 2, 3, 4, 5, 6, 7, 19]
  | 7 => [0, 2, 3, 4, 5, 6, 7, 8]
  | 8 => [0, 2, 3, 4, 5, 6, 7, 8, 26]
  | 9 => [0, 2, 3, 4, 5, 6, 7, 8]
  | 10 => [999999, 0, 2, 3, 4, 5, 6, 7, 8, 33]
  | 11 => [0, 2, 3, 4, 5, 6, 7, 8]
  | 12 => [0, 2, 3, 4, 5, 6, 7, 8]
  | 13 => [0, 2, 3, 4, 5, 6, 7]
  | 6 => [0, 2, 3, 4, 5, 6, 7]
  | 14 => [2]
  | _ => []
theorem fn_s_l1Cur_register : FnC Tryz.prog n_s_l1Cur_register c_s_l1Cur_register [(.cell 2 true 1)] 56 :=
  ⟨Tryz.f114, _, k_s_l1Cur_register, Tryz.func114, rfl, by kernel_rfl, by kernel_rfl, by kernel_rfl, rfl⟩
end Go.Proofs.YtbeoijlggphklaaGreatDoor

/- The compact code of the functions, and that it is theirs: written by a program of this claim. -/
namespace Go.Proofs.YtbeoijlggphklaaGreatDoor
open Go.Abs
set_option maxRecDepth 100000
def r_s_l1Cur_like_0 : List CO := [⟨none, (some 3), (.box 15 (.t 1))⟩, ⟨none, (some 4), (.box 15 (.k (.agg [(.v (.int .i64 (0))), (.v (.int .i64 (0))), (.v (.int .i64 (0))), (.v (.int .i64 (0))), (.v (.int .i64 (0))), (.v (.int .i64 (0))), (.v (.int .i64 (0))), (.v (.int .i64 (0))), (.v (.int .i64 (0))), (.v (.int .i64 (0))), (.v (.int .i64 (0))), (.v (.int .i64 (0))), (.v (.int .i64 (0))), (.v (.int .i64 (0))), (.v (.int .i64 (0)))])))⟩]
def r_s_l1Cur_like_1 : List CO := [⟨none, (some 6), (.ld true 15 (.t 3))⟩, ⟨none, (some 5), (.box 15 (.k (.agg [(.v (.int .i64 (0))), (.v (.int .i64 (0))), (.v (.int .i64 (0))), (.v (.int .i64 (0))), (.v (.int .i64 (0))), (.v (.int .i64 (0))), (.v (.int .i64 (0))), (.v (.int .i64 (0))), (.v (.int .i64 (0))), (.v (.int .i64 (0))), (.v (.int .i64 (0))), (.v (.int .i64 (0))), (.v (.int .i64 (0))), (.v (.int .i64 (0))), (.v (.int .i64 (0)))])))⟩, ⟨none, none, (.st 15 (.t 5) (.t 6))⟩]
def r_s_l1Cur_like_2 : List CO := [⟨none, (some 7), (.mv (.t 0))⟩, ⟨none, (some 8), (.call n_s_l1Cur_pick [(.t 7), (.k (.v (.int .i64 (7))))])⟩]
def r_s_l1Cur_like_3 : List CO := [⟨none, (some 10), (.bin .eql .none (.t 8) (.k (.v (.int .i64 (0)))))⟩, ⟨none, (some 9), (.mv (.t 10))⟩]
def r_s_l1Cur_like_4 : List CO := [⟨none, (some 11), (.mv (.t 0))⟩, ⟨none, (some 12), (.call n_s_l1Cur_field [(.t 11)])⟩, ⟨none, (some 13), (.faddr 0 (.t 5))⟩, ⟨none, none, (.st 4 (.t 13) (.t 12))⟩]
def r_s_l1Cur_like_5 : List CO := [⟨none, (some 15), (.bin .eql .none (.t 8) (.k (.v (.int .i64 (1)))))⟩, ⟨none, (some 14), (.mv (.t 15))⟩]
def r_s_l1Cur_like_6 : List CO := [⟨none, (some 16), (.faddr 4 (.t 5))⟩, ⟨none, (some 17), (.ld false 1 (.t 16))⟩, ⟨none, (some 18), (.bin .gtr .none (.t 17) (.k (.v (.int .i64 (0)))))⟩]
def r_s_l1Cur_like_7 : List CO := [⟨none, (some 19), (.mv (.t 0))⟩, ⟨none, (some 20), (.call n_s_l1Cur_tincture [(.t 19)])⟩, ⟨none, (some 21), (.faddr 6 (.t 5))⟩, ⟨none, none, (.st 1 (.t 21) (.t 20))⟩]
def r_s_l1Cur_like_8 : List CO := [⟨none, (some 23), (.bin .eql .none (.t 8) (.k (.v (.int .i64 (2)))))⟩, ⟨none, (some 22), (.mv (.t 23))⟩]
def r_s_l1Cur_like_9 : List CO := [⟨none, (some 24), (.mv (.t 0))⟩, ⟨none, (some 25), (.call n_s_l1Cur_group [(.t 24)])⟩, ⟨none, (some 26), (.faddr 11 (.t 5))⟩, ⟨none, none, (.st 4 (.t 26) (.t 25))⟩]
def r_s_l1Cur_like_10 : List CO := [⟨none, (some 28), (.bin .eql .none (.t 8) (.k (.v (.int .i64 (3)))))⟩, ⟨none, (some 27), (.mv (.t 28))⟩]
def r_s_l1Cur_like_11 : List CO := [⟨none, (some 29), (.faddr 4 (.t 5))⟩, ⟨none, (some 30), (.ld false 1 (.t 29))⟩, ⟨none, (some 31), (.bin .gtr .none (.t 30) (.k (.v (.int .i64 (0)))))⟩]
def r_s_l1Cur_like_12 : List CO := [⟨none, (some 32), (.mv (.t 0))⟩, ⟨none, (some 33), (.call n_s_l1Cur_pick [(.t 32), (.k (.v (.int .i64 (7))))])⟩, ⟨none, (some 34), (.bin .add .none (.k (.v (.int .i64 (1)))) (.t 33))⟩, ⟨none, (some 35), (.faddr 4 (.t 5))⟩, ⟨none, none, (.st 1 (.t 35) (.t 34))⟩]
def r_s_l1Cur_like_13 : List CO := [⟨none, (some 37), (.bin .eql .none (.t 8) (.k (.v (.int .i64 (4)))))⟩, ⟨none, (some 36), (.mv (.t 37))⟩]
def r_s_l1Cur_like_14 : List CO := [⟨none, (some 38), (.mv (.t 0))⟩, ⟨none, (some 39), (.call n_s_l1Cur_arms [(.t 38)])⟩, ⟨none, none, (.st 15 (.t 5) (.t 39))⟩]
def r_s_l1Cur_like_15 : List CO := [⟨none, (some 41), (.bin .eql .none (.t 8) (.k (.v (.int .i64 (5)))))⟩, ⟨none, (some 40), (.mv (.t 41))⟩]
def r_s_l1Cur_like_16 : List CO := [⟨none, (some 42), (.faddr 11 (.t 5))⟩, ⟨none, (some 43), (.ld true 4 (.t 42))⟩, ⟨none, (some 44), (.call n_s_l4None [(.t 43)])⟩, ⟨none, (some 45), (.un .not (.t 44))⟩]
def r_s_l1Cur_like_17 : List CO := [⟨none, (some 46), (.mv (.t 0))⟩, ⟨none, (some 47), (.call n_s_l1Cur_pick [(.t 46), (.k (.v (.int .i64 (6))))])⟩, ⟨none, (some 48), (.bin .add .none (.k (.v (.int .i64 (1)))) (.t 47))⟩, ⟨none, (some 49), (.faddr 11 (.t 5))⟩, ⟨none, (some 50), (.faddr 0 (.t 49))⟩, ⟨none, none, (.st 1 (.t 50) (.t 48))⟩]
def r_s_l1Cur_like_18 : List CO := [⟨none, (some 51), (.ld true 15 (.t 5))⟩, ⟨none, none, (.st 15 (.t 4) (.t 51))⟩]
/-- (*loop.example/g00884/spec.l1Cur).like -/
def c_s_l1Cur_like : C := (.seq (.reg r_s_l1Cur_like_0 [0, 3, 4]) (.seq (.reg r_s_l1Cur_like_1 [0, 4, 5]) (.seq (.seq (.reg r_s_l1Cur_like_2 [0, 4, 5, 8]) (.block 0 (.seq (.reg r_s_l1Cur_like_3 [0, 4, 5, 8, 9]) (.cond (.t 9) (.reg r_s_l1Cur_like_4 [4, 5]) (.seq (.reg r_s_l1Cur_like_5 [0, 4, 5, 8, 14]) (.cond (.t 14) (.seq (.reg r_s_l1Cur_like_6 [0, 4, 5, 18]) (.cond (.t 18) (.reg r_s_l1Cur_like_7 [4, 5]) .skip)) (.seq (.reg r_s_l1Cur_like_8 [0, 4, 5, 8, 22]) (.cond (.t 22) (.reg r_s_l1Cur_like_9 [4, 5]) (.seq (.reg r_s_l1Cur_like_10 [0, 4, 5, 8, 27]) (.cond (.t 27) (.seq (.reg r_s_l1Cur_like_11 [0, 4, 5, 31]) (.cond (.t 31) (.reg r_s_l1Cur_like_12 [4, 5]) .skip)) (.seq (.reg r_s_l1Cur_like_13 [0, 4, 5, 8, 36]) (.cond (.t 36) (.reg r_s_l1Cur_like_14 [4, 5]) (.seq (.reg r_s_l1Cur_like_15 [0, 4, 5, 40]) (.cond (.t 40) (.seq (.reg r_s_l1Cur_like_16 [0, 4, 5, 45]) (.cond (.t 45) (.reg r_s_l1Cur_like_17 [4, 5]) .skip)) .skip)))))))))))))) (.seq (.reg r_s_l1Cur_like_18 [4]) .ret))))
def k_s_l1Cur_like : Nat → List Nat
  | 0 => [0, 3, 4]
  | 1 => [0, 4, 5]
  | 2 => [0, 4, 5, 8]
  | 3 => [0, 4, 5, 8, 9]
  | 4 => [4, 5]
  | 5 => [0, 4, 5, 8, 14]
  | 6 => [0, 4, 5, 18]
  | 7 => [4, 5]
  | 8 => [0, 4, 5, 8, 22]
  | 9 => [4, 5]
  | 10 => [0, 4, 5, 8, 27]
  | 11 => [0, 4, 5, 31]
  | 12 => [4, 5]
  | 13 => [0, 4, 5, 8, 36]
  | 14 => [4, 5]
  | 15 => [0, 4, 5, 40]
  | 16 => [0, 4, 5, 45]
  | 17 => [4, 5]
  | 18 => [4]
  | _ => []
theorem fn_s_l1Cur_like : FnC Tryz.prog n_s_l1Cur_like c_s_l1Cur_like [(.cell 4 true 15)] 52 :=
  ⟨Tryz.f116, _, k_s_l1Cur_like, Tryz.func116, rfl, by kernel_rfl, by kernel_rfl, by kernel_rfl, rfl⟩
def r_s_l16Conflicts_0 : List CO := [⟨none, (some 2), (.box 1 (.t 0))⟩, ⟨none, (some 3), (.box 15 (.t 1))⟩, ⟨none, (some 4), (.mv (.k (.v (.slice none 0 0))))⟩]
def r_s_l16Conflicts_1 : List CO := [⟨none, (some 7), (.bslice 1 (.v (.int .i64 (0))) 0 [])⟩, ⟨none, (some 5), (.mv (.t 7))⟩]
def r_s_l16Conflicts_2 : List CO := [⟨none, (some 6), (.mv (.k (.v (.int .i64 (0)))))⟩]
def r_s_l16Conflicts_3 : List CO := [⟨none, (some 8), (.mv (.t 6))⟩, ⟨none, (some 9), (.faddr 0 (.t 2))⟩, ⟨none, (some 10), (.ld false 1 (.t 9))⟩, ⟨none, (some 11), (.len false (.t 10))⟩, ⟨none, (some 12), (.bin .lss .none (.t 8) (.t 11))⟩]
def r_s_l16Conflicts_4 : List CO := [⟨none, (some 15), (.faddr 0 (.t 2))⟩, ⟨none, (some 16), (.ld false 1 (.t 15))⟩, ⟨none, (some 17), (.mv (.t 6))⟩, ⟨none, (some 18), (.iaddr 18 (.t 16) (.t 17))⟩, ⟨none, (some 19), (.faddr 3 (.t 18))⟩, ⟨none, (some 20), (.ld true 15 (.t 19))⟩, ⟨none, (some 21), (.ld true 15 (.t 3))⟩, ⟨none, (some 22), (.call n_s_l15Conflict [(.t 20), (.t 21)])⟩]
def p_s_l16Conflicts_4 : List (List Nat) := [[], [0], [], [0, 1, 2], [0, 1, 2, 3], [0, 1, 2, 3, 4], [], [0, 1, 2, 3, 4, 5, 6]]
def r_s_l16Conflicts_5 : List CO := [⟨none, (some 23), (.mv (.t 5))⟩, ⟨none, (some 24), (.faddr 0 (.t 2))⟩, ⟨none, (some 25), (.ld false 1 (.t 24))⟩, ⟨none, (some 26), (.mv (.t 6))⟩, ⟨none, (some 27), (.iaddr 18 (.t 25) (.t 26))⟩, ⟨none, (some 28), (.faddr 0 (.t 27))⟩, ⟨none, (some 29), (.ld false 1 (.t 28))⟩, ⟨none, (some 30), (.bslice 1 (.v (.int .i64 (0))) 1 [(0, (.t 29))])⟩, ⟨none, (some 31), (.app 1 8 (.t 23) (.t 30))⟩, ⟨none, (some 5), (.mv (.t 31))⟩]
def r_s_l16Conflicts_6 : List CO := [⟨none, (some 13), (.mv (.t 6))⟩, ⟨none, (some 14), (.bin .add .none (.t 13) (.k (.v (.int .i64 (1)))))⟩, ⟨none, (some 6), (.mv (.t 14))⟩]
def l_s_l16Conflicts_7 : C := (.seq (.seq (.reg r_s_l16Conflicts_3 [2, 3, 5, 6, 12]) (.cond (.t 12) .skip (.exit 0))) (.seq (.block 1 (.seq (.regD r_s_l16Conflicts_4 p_s_l16Conflicts_4 [2, 3, 5, 6, 22]) (.cond (.t 22) (.reg r_s_l16Conflicts_5 [2, 3, 5, 6]) .skip))) (.reg r_s_l16Conflicts_6 [2, 3, 5, 6])))
def r_s_l16Conflicts_8 : List CO := [⟨none, (some 32), (.mv (.t 5))⟩, ⟨none, (some 4), (.mv (.t 32))⟩]
/-- loop.example/g00884/spec.l16Conflicts -/
def c_s_l16Conflicts : C := (.seq (.reg r_s_l16Conflicts_0 [2, 3]) (.seq (.reg r_s_l16Conflicts_1 [2, 3, 5]) (.seq (.seq (.reg r_s_l16Conflicts_2 [2, 3, 5, 6]) (.block 0 (.loop l_s_l16Conflicts_7))) (.seq (.reg r_s_l16Conflicts_8 [4]) .ret))))
def k_s_l16Conflicts : Nat → List Nat
  | 0 => [2, 3]
  | 1 => [2, 3, 5]
  | 2 => [2, 3, 5, 6]
  | 3 => [2, 3, 5, 6, 12]
  | 5 => [2, 3, 5, 6, 22]
  | 6 => [2, 3, 5, 6]
  | 4 => [2, 3, 5, 6]
  | 7 => [4]
  | _ => []
theorem fn_s_l16Conflicts : FnC Tryz.prog n_s_l16Conflicts c_s_l16Conflicts [(.tmp 4)] 33 :=
  ⟨Tryz.f154, _, k_s_l16Conflicts, Tryz.func154, rfl, by kernel_rfl, by kernel_rfl, by kernel_rfl, rfl⟩
end Go.Proofs.YtbeoijlggphklaaGreatDoor

/- The compact code of the functions, and that it is theirs: written by a program of this claim. -/
namespace Go.Proofs.YtbeoijlggphklaaGreatDoor
open Go.Abs
set_option maxRecDepth 100000
def r_s_l1Cur_field_0 : List CO := [⟨none, (some 2), (.box 4 (.k (.agg [(.v (.int .i64 (0))), (.v (.int .i64 (0))), (.v (.int .i64 (0))), (.v (.int .i64 (0)))])))⟩]
def r_s_l1Cur_field_1 : List CO := [⟨none, (some 4), (.mv (.t 0))⟩, ⟨none, (some 5), (.call n_s_l1Cur_tincture [(.t 4)])⟩, ⟨none, (some 6), (.build (.agg [(.v (.int .i64 (0))), (.v (.int .i64 (0))), (.v (.int .i64 (0))), (.v (.int .i64 (0)))]) [(2, (1, (.t 5)))])⟩, ⟨none, (some 3), (.box 4 (.k (.agg [(.v (.int .i64 (0))), (.v (.int .i64 (0))), (.v (.int .i64 (0))), (.v (.int .i64 (0)))])))⟩, ⟨none, none, (.st 4 (.t 3) (.t 6))⟩]
def r_s_l1Cur_field_2 : List CO := [⟨none, (some 7), (.mv (.t 0))⟩, ⟨none, (some 8), (.call n_s_l1Cur_one [(.t 7), (.k (.v (.int .i64 (2))))])⟩]
def r_s_l1Cur_field_3 : List CO := [⟨none, (some 9), (.ld true 4 (.t 3))⟩, ⟨none, none, (.st 4 (.t 2) (.t 9))⟩]
def r_s_l1Cur_field_4 : List CO := [⟨none, (some 10), (.mv (.t 0))⟩, ⟨none, (some 11), (.call n_s_l1Cur_pick [(.t 10), (.k (.v (.int .i64 (7))))])⟩, ⟨none, (some 12), (.bin .add .none (.k (.v (.int .i64 (1)))) (.t 11))⟩, ⟨none, (some 13), (.faddr 0 (.t 3))⟩, ⟨none, none, (.st 1 (.t 13) (.t 12))⟩]
def r_s_l1Cur_field_5 : List CO := [⟨none, (some 14), (.mv (.t 0))⟩, ⟨none, (some 15), (.bslice 1 (.v (.int .i64 (0))) 6 [(0, (.k (.v (.int .i64 (0))))), (1, (.k (.v (.int .i64 (0))))), (2, (.k (.v (.int .i64 (1))))), (3, (.k (.v (.int .i64 (2))))), (4, (.k (.v (.int .i64 (3))))), (5, (.k (.v (.int .i64 (4)))))])⟩, ⟨none, (some 16), (.call n_s_l1Cur_among [(.t 14), (.t 15)])⟩, ⟨none, (some 17), (.faddr 1 (.t 3))⟩, ⟨none, none, (.st 1 (.t 17) (.t 16))⟩]
def r_s_l1Cur_field_6 : List CO := [⟨none, (some 18), (.faddr 2 (.t 3))⟩, ⟨none, (some 19), (.ld false 1 (.t 18))⟩, ⟨none, (some 20), (.mv (.t 0))⟩, ⟨none, (some 21), (.call n_s_l1Cur_pick [(.t 20), (.k (.v (.int .i64 (8))))])⟩, ⟨none, (some 22), (.bin .add .none (.t 19) (.t 21))⟩, ⟨none, (some 23), (.bin .rem .none (.t 22) (.k (.v (.int .i64 (9)))))⟩, ⟨none, (some 24), (.bin .add .none (.k (.v (.int .i64 (1)))) (.t 23))⟩, ⟨none, (some 25), (.faddr 3 (.t 3))⟩, ⟨none, none, (.st 1 (.t 25) (.t 24))⟩]
def p_s_l1Cur_field_6 : List (List Nat) := [[], [0], [], [2], [0, 1, 2, 3], [0, 1, 2, 3, 4], [0, 1, 2, 3, 4, 5], [0, 1, 2, 3, 4, 5, 6], [0, 1, 2, 3, 4, 5, 6, 7]]
def r_s_l1Cur_field_7 : List CO := [⟨none, (some 26), (.ld true 4 (.t 3))⟩, ⟨none, none, (.st 4 (.t 2) (.t 26))⟩]
/-- (*loop.example/g00884/spec.l1Cur).field -/
def c_s_l1Cur_field : C := (.seq (.reg r_s_l1Cur_field_0 [0, 2]) (.seq (.reg r_s_l1Cur_field_1 [0, 2, 3]) (.seq (.seq (.reg r_s_l1Cur_field_2 [0, 2, 3, 8]) (.cond (.t 8) (.seq (.reg r_s_l1Cur_field_3 [2]) .ret) .skip)) (.seq (.reg r_s_l1Cur_field_4 [0, 2, 3]) (.seq (.reg r_s_l1Cur_field_5 [0, 2, 3]) (.seq (.regD r_s_l1Cur_field_6 p_s_l1Cur_field_6 [2, 3]) (.seq (.reg r_s_l1Cur_field_7 [2]) .ret)))))))
def k_s_l1Cur_field : Nat → List Nat
  | 0 => [0, 2]
  | 1 => [0, 2, 3]
  | 2 => [0, 2, 3, 8]
  | 3 => [2]
  | 4 => [0, 2, 3]
  | 5 => [0, 2, 3]
  | 6 => [2, 3]
  | 7 => [2]
  | _ => []
theorem fn_s_l1Cur_field : FnC Tryz.prog n_s_l1Cur_field c_s_l1Cur_field [(.cell 2 true 4)] 27 :=
  ⟨Tryz.f155, _, k_s_l1Cur_field, Tryz.func155, rfl, by kernel_rfl, by kernel_rfl, by kernel_rfl, rfl⟩
def r_s_l1Cur_group_0 : List CO := [⟨none, (some 2), (.box 4 (.k (.agg [(.v (.int .i64 (0))), (.v (.int .i64 (0))), (.v (.int .i64 (0))), (.v (.int .i64 (0)))])))⟩]
def r_s_l1Cur_group_1 : List CO := [⟨none, (some 4), (.mv (.t 0))⟩, ⟨none, (some 5), (.bslice 1 (.v (.int .i64 (0))) 8 [(0, (.k (.v (.int .i64 (1))))), (1, (.k (.v (.int .i64 (1))))), (2, (.k (.v (.int .i64 (2))))), (3, (.k (.v (.int .i64 (3))))), (4, (.k (.v (.int .i64 (3))))), (5, (.k (.v (.int .i64 (4))))), (6, (.k (.v (.int .i64 (5))))), (7, (.k (.v (.int .i64 (6)))))])⟩, ⟨none, (some 6), (.call n_s_l1Cur_among [(.t 4), (.t 5)])⟩, ⟨none, (some 7), (.mv (.t 0))⟩, ⟨none, (some 8), (.call n_s_l1Cur_pick [(.t 7), (.k (.v (.int .i64 (8))))])⟩, ⟨none, (some 9), (.bin .add .none (.k (.v (.int .i64 (1)))) (.t 8))⟩, ⟨none, (some 10), (.mv (.t 0))⟩, ⟨none, (some 11), (.call n_s_l1Cur_tincture [(.t 10)])⟩, ⟨none, (some 12), (.build (.agg [(.v (.int .i64 (0))), (.v (.int .i64 (0))), (.v (.int .i64 (0))), (.v (.int .i64 (0)))]) [(0, (1, (.t 6))), (1, (1, (.t 9))), (3, (1, (.t 11)))])⟩, ⟨none, (some 3), (.box 4 (.k (.agg [(.v (.int .i64 (0))), (.v (.int .i64 (0))), (.v (.int .i64 (0))), (.v (.int .i64 (0)))])))⟩, ⟨none, none, (.st 4 (.t 3) (.t 12))⟩]
def r_s_l1Cur_group_2 : List CO := [⟨none, (some 13), (.faddr 1 (.t 3))⟩, ⟨none, (some 14), (.ld false 1 (.t 13))⟩, ⟨none, (some 15), (.call n_s_l4Beast [(.t 14)])⟩]
def r_s_l1Cur_group_3 : List CO := [⟨none, (some 16), (.mv (.t 0))⟩, ⟨none, (some 17), (.call n_s_l1Cur_pick [(.t 16), (.k (.v (.int .i64 (2))))])⟩, ⟨none, (some 18), (.bin .add .none (.k (.v (.int .i64 (1)))) (.t 17))⟩, ⟨none, (some 19), (.faddr 2 (.t 3))⟩, ⟨none, none, (.st 1 (.t 19) (.t 18))⟩]
def r_s_l1Cur_group_4 : List CO := [⟨none, (some 20), (.ld true 4 (.t 3))⟩, ⟨none, none, (.st 4 (.t 2) (.t 20))⟩]
/-- (*loop.example/g00884/spec.l1Cur).group -/
def c_s_l1Cur_group : C := (.seq (.reg r_s_l1Cur_group_0 [0, 2]) (.seq (.reg r_s_l1Cur_group_1 [0, 2, 3]) (.seq (.seq (.reg r_s_l1Cur_group_2 [0, 2, 3, 15]) (.cond (.t 15) (.reg r_s_l1Cur_group_3 [2, 3]) .skip)) (.seq (.reg r_s_l1Cur_group_4 [2]) .ret))))
def k_s_l1Cur_group : Nat → List Nat
  | 0 => [0, 2]
  | 1 => [0, 2, 3]
  | 2 => [0, 2, 3, 15]
  | 3 => [2, 3]
  | 4 => [2]
  | _ => []
theorem fn_s_l1Cur_group : FnC Tryz.prog n_s_l1Cur_group c_s_l1Cur_group [(.cell 2 true 4)] 21 :=
  ⟨Tryz.f157, _, k_s_l1Cur_group, Tryz.func157, rfl, by kernel_rfl, by kernel_rfl, by kernel_rfl, rfl⟩
def r_s_l1Cur_anyField_0 : List CO := [⟨none, (some 2), (.box 4 (.k (.agg [(.v (.int .i64 (0))), (.v (.int .i64 (0))), (.v (.int .i64 (0))), (.v (.int .i64 (0)))])))⟩]
def r_s_l1Cur_anyField_1 : List CO := [⟨none, (some 4), (.mv (.t 0))⟩, ⟨none, (some 5), (.call n_s_l1Cur_field [(.t 4)])⟩, ⟨none, (some 3), (.box 4 (.k (.agg [(.v (.int .i64 (0))), (.v (.int .i64 (0))), (.v (.int .i64 (0))), (.v (.int .i64 (0)))])))⟩, ⟨none, none, (.st 4 (.t 3) (.t 5))⟩]
def r_s_l1Cur_anyField_2 : List CO := [⟨none, (some 6), (.mv (.t 0))⟩, ⟨none, (some 7), (.call n_s_l1Cur_pick [(.t 6), (.k (.v (.int .i64 (24))))])⟩]
def r_s_l1Cur_anyField_3 : List CO := [⟨none, (some 9), (.bin .eql .none (.t 7) (.k (.v (.int .i64 (0)))))⟩, ⟨none, (some 8), (.mv (.t 9))⟩]
def r_s_l1Cur_anyField_4 : List CO := [⟨none, (some 10), (.mv (.t 0))⟩, ⟨none, (some 11), (.bslice 1 (.v (.int .i64 (0))) 5 [(0, (.k (.v (.int .i64 (-1))))), (1, (.k (.v (.int .i64 (8))))), (2, (.k (.v (.int .i64 (0))))), (3, (.k (.v (.int .i64 (7))))), (4, (.k (.v (.int .i64 (1)))))])⟩, ⟨none, (some 12), (.call n_s_l1Cur_among [(.t 10), (.t 11)])⟩, ⟨none, (some 13), (.faddr 0 (.t 3))⟩, ⟨none, none, (.st 1 (.t 13) (.t 12))⟩]
def r_s_l1Cur_anyField_5 : List CO := [⟨none, (some 15), (.bin .eql .none (.t 7) (.k (.v (.int .i64 (1)))))⟩, ⟨none, (some 14), (.mv (.t 15))⟩]
def r_s_l1Cur_anyField_6 : List CO := [⟨none, (some 16), (.mv (.t 0))⟩, ⟨none, (some 17), (.bslice 1 (.v (.int .i64 (0))) 4 [(0, (.k (.v (.int .i64 (-1))))), (1, (.k (.v (.int .i64 (5))))), (2, (.k (.v (.int .i64 (1))))), (3, (.k (.v (.int .i64 (4)))))])⟩, ⟨none, (some 18), (.call n_s_l1Cur_among [(.t 16), (.t 17)])⟩, ⟨none, (some 19), (.faddr 1 (.t 3))⟩, ⟨none, none, (.st 1 (.t 19) (.t 18))⟩]
def r_s_l1Cur_anyField_7 : List CO := [⟨none, (some 21), (.bin .eql .none (.t 7) (.k (.v (.int .i64 (2)))))⟩, ⟨none, (some 20), (.mv (.t 21))⟩]
def r_s_l1Cur_anyField_8 : List CO := [⟨none, (some 22), (.mv (.t 0))⟩, ⟨none, (some 23), (.bslice 1 (.v (.int .i64 (0))) 3 [(0, (.k (.v (.int .i64 (0))))), (1, (.k (.v (.int .i64 (10))))), (2, (.k (.v (.int .i64 (9)))))])⟩, ⟨none, (some 24), (.call n_s_l1Cur_among [(.t 22), (.t 23)])⟩, ⟨none, (some 25), (.faddr 2 (.t 3))⟩, ⟨none, none, (.st 1 (.t 25) (.t 24))⟩]
def r_s_l1Cur_anyField_9 : List CO := [⟨none, (some 27), (.bin .eql .none (.t 7) (.k (.v (.int .i64 (3)))))⟩, ⟨none, (some 26), (.mv (.t 27))⟩]
def r_s_l1Cur_anyField_10 : List CO := [⟨none, (some 28), (.mv (.t 0))⟩, ⟨none, (some 29), (.faddr 2 (.t 3))⟩, ⟨none, (some 30), (.ld false 1 (.t 29))⟩, ⟨none, (some 31), (.bslice 1 (.v (.int .i64 (0))) 4 [(0, (.k (.v (.int .i64 (0))))), (1, (.k (.v (.int .i64 (10))))), (2, (.t 30)), (3, (.k (.v (.int .i64 (9)))))])⟩, ⟨none, (some 32), (.call n_s_l1Cur_among [(.t 28), (.t 31)])⟩, ⟨none, (some 33), (.faddr 3 (.t 3))⟩, ⟨none, none, (.st 1 (.t 33) (.t 32))⟩]
def r_s_l1Cur_anyField_11 : List CO := [⟨none, (some 34), (.ld true 4 (.t 3))⟩, ⟨none, none, (.st 4 (.t 2) (.t 34))⟩]
/-- (*loop.example/g00884/spec.l1Cur).anyField -/
def c_s_l1Cur_anyField : C := (.seq (.reg r_s_l1Cur_anyField_0 [0, 2]) (.seq (.reg r_s_l1Cur_anyField_1 [0, 2, 3]) (.seq (.seq (.reg r_s_l1Cur_anyField_2 [0, 2, 3, 7]) (.block 0 (.seq (.reg r_s_l1Cur_anyField_3 [0, 2, 3, 7, 8]) (.cond (.t 8) (.reg r_s_l1Cur_anyField_4 [2, 3]) (.seq (.reg r_s_l1Cur_anyField_5 [0, 2, 3, 7, 14]) (.cond (.t 14) (.reg r_s_l1Cur_anyField_6 [2, 3]) (.seq (.reg r_s_l1Cur_anyField_7 [0, 2, 3, 7, 20]) (.cond (.t 20) (.reg r_s_l1Cur_anyField_8 [2, 3]) (.seq (.reg r_s_l1Cur_anyField_9 [0, 2, 3, 26]) (.cond (.t 26) (.reg r_s_l1Cur_anyField_10 [2, 3]) .skip)))))))))) (.seq (.reg r_s_l1Cur_anyField_11 [2]) .ret))))
def k_s_l1Cur_anyField : Nat → List Nat
  | 0 => [0, 2]
  | 1 => [0, 2, 3]
  | 2 => [0, 2, 3, 7]
  | 3 => [0, 2, 3, 7, 8]
  | 4 => [2, 3]
  | 5 => [0, 2, 3, 7, 14]
  | 6 => [2, 3]
  | 7 => [0, 2, 3, 7, 20]
  | 8 => [2, 3]
  | 9 => [0, 2, 3, 26]
  | 10 => [2, 3]
  | 11 => [2]
  | _ => []
theorem fn_s_l1Cur_anyField : FnC Tryz.prog n_s_l1Cur_anyField c_s_l1Cur_anyField [(.cell 2 true 4)] 35 :=
  ⟨Tryz.f129, _, k_s_l1Cur_anyField, Tryz.func129, rfl, by kernel_rfl, by kernel_rfl, by kernel_rfl, rfl⟩
def r_s_l1Cur_anyGroup_0 : List CO := [⟨none, (some 2), (.box 4 (.k (.agg [(.v (.int .i64 (0))), (.v (.int .i64 (0))), (.v (.int .i64 (0))), (.v (.int .i64 (0)))])))⟩]
def r_s_l1Cur_anyGroup_1 : List CO := [⟨none, (some 4), (.mv (.t 0))⟩, ⟨none, (some 5), (.call n_s_l1Cur_group [(.t 4)])⟩, ⟨none, (some 3), (.box 4 (.k (.agg [(.v (.int .i64 (0))), (.v (.int .i64 (0))), (.v (.int .i64 (0))), (.v (.int .i64 (0)))])))⟩, ⟨none, none, (.st 4 (.t 3) (.t 5))⟩]
def r_s_l1Cur_anyGroup_2 : List CO := [⟨none, (some 6), (.mv (.t 0))⟩, ⟨none, (some 7), (.call n_s_l1Cur_pick [(.t 6), (.k (.v (.int .i64 (24))))])⟩]
def r_s_l1Cur_anyGroup_3 : List CO := [⟨none, (some 9), (.bin .eql .none (.t 7) (.k (.v (.int .i64 (0)))))⟩, ⟨none, (some 8), (.mv (.t 9))⟩]
def r_s_l1Cur_anyGroup_4 : List CO := [⟨none, (some 10), (.mv (.t 0))⟩, ⟨none, (some 11), (.bslice 1 (.v (.int .i64 (0))) 3 [(0, (.k (.v (.int .i64 (0))))), (1, (.k (.v (.int .i64 (7))))), (2, (.k (.v (.int .i64 (-1)))))])⟩, ⟨none, (some 12), (.call n_s_l1Cur_among [(.t 10), (.t 11)])⟩, ⟨none, (some 13), (.faddr 0 (.t 3))⟩, ⟨none, none, (.st 1 (.t 13) (.t 12))⟩]
def r_s_l1Cur_anyGroup_5 : List CO := [⟨none, (some 15), (.bin .eql .none (.t 7) (.k (.v (.int .i64 (1)))))⟩, ⟨none, (some 14), (.mv (.t 15))⟩]
def r_s_l1Cur_anyGroup_6 : List CO := [⟨none, (some 16), (.mv (.t 0))⟩, ⟨none, (some 17), (.bslice 1 (.v (.int .i64 (0))) 4 [(0, (.k (.v (.int .i64 (0))))), (1, (.k (.v (.int .i64 (9))))), (2, (.k (.v (.int .i64 (3))))), (3, (.k (.v (.int .i64 (4)))))])⟩, ⟨none, (some 18), (.call n_s_l1Cur_among [(.t 16), (.t 17)])⟩, ⟨none, (some 19), (.faddr 1 (.t 3))⟩, ⟨none, none, (.st 1 (.t 19) (.t 18))⟩]
def r_s_l1Cur_anyGroup_7 : List CO := [⟨none, (some 21), (.bin .eql .none (.t 7) (.k (.v (.int .i64 (2)))))⟩, ⟨none, (some 20), (.mv (.t 21))⟩]
def r_s_l1Cur_anyGroup_8 : List CO := [⟨none, (some 22), (.mv (.t 0))⟩, ⟨none, (some 23), (.bslice 1 (.v (.int .i64 (0))) 5 [(0, (.k (.v (.int .i64 (0))))), (1, (.k (.v (.int .i64 (1))))), (2, (.k (.v (.int .i64 (2))))), (3, (.k (.v (.int .i64 (3))))), (4, (.k (.v (.int .i64 (-1)))))])⟩, ⟨none, (some 24), (.call n_s_l1Cur_among [(.t 22), (.t 23)])⟩, ⟨none, (some 25), (.faddr 2 (.t 3))⟩, ⟨none, none, (.st 1 (.t 25) (.t 24))⟩]
def r_s_l1Cur_anyGroup_9 : List CO := [⟨none, (some 27), (.bin .eql .none (.t 7) (.k (.v (.int .i64 (3)))))⟩, ⟨none, (some 26), (.mv (.t 27))⟩]
def r_s_l1Cur_anyGroup_10 : List CO := [⟨none, (some 28), (.mv (.t 0))⟩, ⟨none, (some 29), (.bslice 1 (.v (.int .i64 (0))) 2 [(0, (.k (.v (.int .i64 (0))))), (1, (.k (.v (.int .i64 (10)))))])⟩, ⟨none, (some 30), (.call n_s_l1Cur_among [(.t 28), (.t 29)])⟩, ⟨none, (some 31), (.faddr 3 (.t 3))⟩, ⟨none, none, (.st 1 (.t 31) (.t 30))⟩]
def r_s_l1Cur_anyGroup_11 : List CO := [⟨none, (some 33), (.bin .eql .none (.t 7) (.k (.v (.int .i64 (4)))))⟩, ⟨none, (some 32), (.mv (.t 33))⟩]
def r_s_l1Cur_anyGroup_12 : List CO := [⟨none, (some 34), (.build (.agg [(.v (.int .i64 (0))), (.v (.int .i64 (0))), (.v (.int .i64 (0))), (.v (.int .i64 (0)))]) [])⟩, ⟨none, none, (.st 4 (.t 2) (.t 34))⟩]
def r_s_l1Cur_anyGroup_13 : List CO := [⟨none, (some 35), (.ld true 4 (.t 3))⟩, ⟨none, none, (.st 4 (.t 2) (.t 35))⟩]
/-- (*loop.example/g00884/spec.l1Cur).anyGroup -/
def c_s_l1Cur_anyGroup : C := (.seq (.reg r_s_l1Cur_anyGroup_0 [0, 2]) (.seq (.reg r_s_l1Cur_anyGroup_1 [0, 2, 3]) (.seq (.seq (.reg r_s_l1Cur_anyGroup_2 [0, 2, 3, 7]) (.block 0 (.seq (.reg r_s_l1Cur_anyGroup_3 [0, 2, 3, 7, 8]) (.cond (.t 8) (.reg r_s_l1Cur_anyGroup_4 [2, 3]) (.seq (.reg r_s_l1Cur_anyGroup_5 [0, 2, 3, 7, 14]) (.cond (.t 14) (.reg r_s_l1Cur_anyGroup_6 [2, 3]) (.seq (.reg r_s_l1Cur_anyGroup_7 [0, 2, 3, 7, 20]) (.cond (.t 20) (.reg r_s_l1Cur_anyGroup_8 [2, 3]) (.seq (.reg r_s_l1Cur_anyGroup_9 [0, 2, 3, 7, 26]) (.cond (.t 26) (.reg r_s_l1Cur_anyGroup_10 [2, 3]) (.seq (.reg r_s_l1Cur_anyGroup_11 [2, 3, 32]) (.cond (.t 32) (.seq (.reg r_s_l1Cur_anyGroup_12 [2]) .ret) .skip)))))))))))) (.seq (.reg r_s_l1Cur_anyGroup_13 [2]) .ret))))
def k_s_l1Cur_anyGroup : Nat → List Nat
  | 0 => [0, 2]
  | 1 => [0, 2, 3]
  | 2 => [0, 2, 3, 7]
  | 3 => [0, 2, 3, 7, 8]
  | 4 => [2, 3]
  | 5 => [0, 2, 3, 7, 14]
  | 6 => [2, 3]
  | 7 => [0, 2, 3, 7, 20]
  | 8 => [2, 3]
  | 9 => [0, 2, 3, 7, 26]
  | 10 => [2, 3]
  | 11 => [2, 3, 32]
  | 12 => [2]
  | 13 => [2]
  | _ => []
theorem fn_s_l1Cur_anyGroup : FnC Tryz.prog n_s_l1Cur_anyGroup c_s_l1Cur_anyGroup [(.cell 2 true 4)] 36 :=
  ⟨Tryz.f130, _, k_s_l1Cur_anyGroup, Tryz.func130, rfl, by kernel_rfl, by kernel_rfl, by kernel_rfl, rfl⟩
def r_s_l1Cur_arms_0 : List CO := [⟨none, (some 2), (.box 15 (.k (.agg [(.v (.int .i64 (0))), (.v (.int .i64 (0))), (.v (.int .i64 (0))), (.v (.int .i64 (0))), (.v (.int .i64 (0))), (.v (.int .i64 (0))), (.v (.int .i64 (0))), (.v (.int .i64 (0))), (.v (.int .i64 (0))), (.v (.int .i64 (0))), (.v (.int .i64 (0))), (.v (.int .i64 (0))), (.v (.int .i64 (0))), (.v (.int .i64 (0))), (.v (.int .i64 (0)))])))⟩]
def r_s_l1Cur_arms_1 : List CO := [⟨none, (some 4), (.mv (.t 0))⟩, ⟨none, (some 5), (.call n_s_l1Cur_field [(.t 4)])⟩, ⟨none, (some 6), (.build (.agg [(.v (.int .i64 (0))), (.v (.int .i64 (0))), (.v (.int .i64 (0))), (.v (.int .i64 (0))), (.v (.int .i64 (0))), (.v (.int .i64 (0))), (.v (.int .i64 (0))), (.v (.int .i64 (0))), (.v (.int .i64 (0))), (.v (.int .i64 (0))), (.v (.int .i64 (0))), (.v (.int .i64 (0))), (.v (.int .i64 (0))), (.v (.int .i64 (0))), (.v (.int .i64 (0)))]) [(0, (4, (.t 5)))])⟩, ⟨none, (some 3), (.box 15 (.k (.agg [(.v (.int .i64 (0))), (.v (.int .i64 (0))), (.v (.int .i64 (0))), (.v (.int .i64 (0))), (.v (.int .i64 (0))), (.v (.int .i64 (0))), (.v (.int .i64 (0))), (.v (.int .i64 (0))), (.v (.int .i64 (0))), (.v (.int .i64 (0))), (.v (.int .i64 (0))), (.v (.int .i64 (0))), (.v (.int .i64 (0))), (.v (.int .i64 (0))), (.v (.int .i64 (0)))])))⟩, ⟨none, none, (.st 15 (.t 3) (.t 6))⟩]
def r_s_l1Cur_arms_2 : List CO := [⟨none, (some 7), (.mv (.t 0))⟩, ⟨none, (some 8), (.call n_s_l1Cur_one [(.t 7), (.k (.v (.int .i64 (3))))])⟩, ⟨none, (some 9), (.un .not (.t 8))⟩]
def r_s_l1Cur_arms_3 : List CO := [⟨none, (some 10), (.mv (.t 0))⟩, ⟨none, (some 11), (.call n_s_l1Cur_pick [(.t 10), (.k (.v (.int .i64 (7))))])⟩, ⟨none, (some 12), (.bin .add .none (.k (.v (.int .i64 (1)))) (.t 11))⟩, ⟨none, (some 13), (.faddr 4 (.t 3))⟩, ⟨none, none, (.st 1 (.t 13) (.t 12))⟩]
def r_s_l1Cur_arms_4 : List CO := [⟨none, (some 14), (.mv (.t 0))⟩, ⟨none, (some 15), (.bslice 1 (.v (.int .i64 (0))) 7 [(0, (.k (.v (.int .i64 (0))))), (1, (.k (.v (.int .i64 (0))))), (2, (.k (.v (.int .i64 (0))))), (3, (.k (.v (.int .i64 (1))))), (4, (.k (.v (.int .i64 (2))))), (5, (.k (.v (.int .i64 (3))))), (6, (.k (.v (.int .i64 (4)))))])⟩, ⟨none, (some 16), (.call n_s_l1Cur_among [(.t 14), (.t 15)])⟩, ⟨none, (some 17), (.faddr 5 (.t 3))⟩, ⟨none, none, (.st 1 (.t 17) (.t 16))⟩]
def r_s_l1Cur_arms_5 : List CO := [⟨none, (some 18), (.mv (.t 0))⟩, ⟨none, (some 19), (.call n_s_l1Cur_tincture [(.t 18)])⟩, ⟨none, (some 20), (.faddr 6 (.t 3))⟩, ⟨none, none, (.st 1 (.t 20) (.t 19))⟩]
def r_s_l1Cur_arms_6 : List CO := [⟨none, (some 21), (.mv (.t 0))⟩, ⟨none, (some 22), (.call n_s_l1Cur_one [(.t 21), (.k (.v (.int .i64 (3))))])⟩]
def r_s_l1Cur_arms_7 : List CO := [⟨none, (some 23), (.mv (.t 0))⟩, ⟨none, (some 24), (.call n_s_l1Cur_group [(.t 23)])⟩, ⟨none, (some 25), (.faddr 7 (.t 3))⟩, ⟨none, none, (.st 4 (.t 25) (.t 24))⟩]
def r_s_l1Cur_arms_8 : List CO := [⟨none, (some 26), (.mv (.t 0))⟩, ⟨none, (some 27), (.call n_s_l1Cur_one [(.t 26), (.k (.v (.int .i64 (3))))])⟩, ⟨none, (some 28), (.un .not (.t 27))⟩]
def r_s_l1Cur_arms_9 : List CO := [⟨none, (some 29), (.mv (.t 0))⟩, ⟨none, (some 30), (.call n_s_l1Cur_group [(.t 29)])⟩, ⟨none, (some 31), (.faddr 11 (.t 3))⟩, ⟨none, none, (.st 4 (.t 31) (.t 30))⟩]
def r_s_l1Cur_arms_10 : List CO := [⟨none, (some 32), (.ld true 15 (.t 3))⟩, ⟨none, none, (.st 15 (.t 2) (.t 32))⟩]
/-- (*loop.example/g00884/spec.l1Cur).arms -/
def c_s_l1Cur_arms : C := (.seq (.reg r_s_l1Cur_arms_0 [0, 2]) (.seq (.reg r_s_l1Cur_arms_1 [0, 2, 3]) (.seq (.seq (.reg r_s_l1Cur_arms_2 [0, 2, 3, 9]) (.cond (.t 9) (.seq (.reg r_s_l1Cur_arms_3 [0, 2, 3]) (.seq (.reg r_s_l1Cur_arms_4 [0, 2, 3]) (.seq (.reg r_s_l1Cur_arms_5 [0, 2, 3]) (.seq (.reg r_s_l1Cur_arms_6 [0, 2, 3, 22]) (.cond (.t 22) (.reg r_s_l1Cur_arms_7 [0, 2, 3]) .skip))))) .skip)) (.seq (.seq (.reg r_s_l1Cur_arms_8 [0, 2, 3, 28]) (.cond (.t 28) (.reg r_s_l1Cur_arms_9 [2, 3]) .skip)) (.seq (.reg r_s_l1Cur_arms_10 [2]) .ret)))))
def k_s_l1Cur_arms : Nat → List Nat
  | 0 => [0, 2]
  | 1 => [0, 2, 3]
  | 2 => [0, 2, 3, 9]
  | 3 => [0, 2, 3]
  | 4 => [0, 2, 3]
  | 5 => [0, 2, 3]
  | 6 => [0, 2, 3, 22]
  | 7 => [0, 2, 3]
  | 8 => [0, 2, 3, 28]
  | 9 => [2, 3]
  | 10 => [2]
  | _ => []
theorem fn_s_l1Cur_arms : FnC Tryz.prog n_s_l1Cur_arms c_s_l1Cur_arms [(.cell 2 true 15)] 33 :=
  ⟨Tryz.f128, _, k_s_l1Cur_arms, Tryz.func128, rfl, by kernel_rfl, by kernel_rfl, by kernel_rfl, rfl⟩
def r_s_l1Cur_anyArms_0 : List CO := [⟨none, (some 2), (.box 15 (.k (.agg [(.v (.int .i64 (0))), (.v (.int .i64 (0))), (.v (.int .i64 (0))), (.v (.int .i64 (0))), (.v (.int .i64 (0))), (.v (.int .i64 (0))), (.v (.int .i64 (0))), (.v (.int .i64 (0))), (.v (.int .i64 (0))), (.v (.int .i64 (0))), (.v (.int .i64 (0))), (.v (.int .i64 (0))), (.v (.int .i64 (0))), (.v (.int .i64 (0))), (.v (.int .i64 (0)))])))⟩]
def r_s_l1Cur_anyArms_1 : List CO := [⟨none, (some 4), (.mv (.t 0))⟩, ⟨none, (some 5), (.call n_s_l1Cur_arms [(.t 4)])⟩, ⟨none, (some 3), (.box 15 (.k (.agg [(.v (.int .i64 (0))), (.v (.int .i64 (0))), (.v (.int .i64 (0))), (.v (.int .i64 (0))), (.v (.int .i64 (0))), (.v (.int .i64 (0))), (.v (.int .i64 (0))), (.v (.int .i64 (0))), (.v (.int .i64 (0))), (.v (.int .i64 (0))), (.v (.int .i64 (0))), (.v (.int .i64 (0))), (.v (.int .i64 (0))), (.v (.int .i64 (0))), (.v (.int .i64 (0)))])))⟩, ⟨none, none, (.st 15 (.t 3) (.t 5))⟩]
def r_s_l1Cur_anyArms_2 : List CO := [⟨none, (some 6), (.mv (.t 0))⟩, ⟨none, (some 7), (.call n_s_l1Cur_pick [(.t 6), (.k (.v (.int .i64 (24))))])⟩]
def r_s_l1Cur_anyArms_3 : List CO := [⟨none, (some 9), (.bin .eql .none (.t 7) (.k (.v (.int .i64 (0)))))⟩, ⟨none, (some 8), (.mv (.t 9))⟩]
def r_s_l1Cur_anyArms_4 : List CO := [⟨none, (some 10), (.mv (.t 0))⟩, ⟨none, (some 11), (.call n_s_l1Cur_anyField [(.t 10)])⟩, ⟨none, (some 12), (.faddr 0 (.t 3))⟩, ⟨none, none, (.st 4 (.t 12) (.t 11))⟩]
def r_s_l1Cur_anyArms_5 : List CO := [⟨none, (some 14), (.bin .eql .none (.t 7) (.k (.v (.int .i64 (1)))))⟩, ⟨none, (some 13), (.mv (.t 14))⟩]
def r_s_l1Cur_anyArms_6 : List CO := [⟨none, (some 15), (.mv (.t 0))⟩, ⟨none, (some 16), (.bslice 1 (.v (.int .i64 (0))) 4 [(0, (.k (.v (.int .i64 (-1))))), (1, (.k (.v (.int .i64 (8))))), (2, (.k (.v (.int .i64 (0))))), (3, (.k (.v (.int .i64 (7)))))])⟩, ⟨none, (some 17), (.call n_s_l1Cur_among [(.t 15), (.t 16)])⟩, ⟨none, (some 18), (.faddr 4 (.t 3))⟩, ⟨none, none, (.st 1 (.t 18) (.t 17))⟩]
def r_s_l1Cur_anyArms_7 : List CO := [⟨none, (some 20), (.bin .eql .none (.t 7) (.k (.v (.int .i64 (2)))))⟩, ⟨none, (some 19), (.mv (.t 20))⟩]
def r_s_l1Cur_anyArms_8 : List CO := [⟨none, (some 21), (.mv (.t 0))⟩, ⟨none, (some 22), (.bslice 1 (.v (.int .i64 (0))) 3 [(0, (.k (.v (.int .i64 (-1))))), (1, (.k (.v (.int .i64 (5))))), (2, (.k (.v (.int .i64 (1)))))])⟩, ⟨none, (some 23), (.call n_s_l1Cur_among [(.t 21), (.t 22)])⟩, ⟨none, (some 24), (.faddr 5 (.t 3))⟩, ⟨none, none, (.st 1 (.t 24) (.t 23))⟩]
def r_s_l1Cur_anyArms_9 : List CO := [⟨none, (some 26), (.bin .eql .none (.t 7) (.k (.v (.int .i64 (3)))))⟩, ⟨none, (some 25), (.mv (.t 26))⟩]
def r_s_l1Cur_anyArms_10 : List CO := [⟨none, (some 27), (.mv (.t 0))⟩, ⟨none, (some 28), (.bslice 1 (.v (.int .i64 (0))) 3 [(0, (.k (.v (.int .i64 (0))))), (1, (.k (.v (.int .i64 (10))))), (2, (.k (.v (.int .i64 (3)))))])⟩, ⟨none, (some 29), (.call n_s_l1Cur_among [(.t 27), (.t 28)])⟩, ⟨none, (some 30), (.faddr 6 (.t 3))⟩, ⟨none, none, (.st 1 (.t 30) (.t 29))⟩]
def r_s_l1Cur_anyArms_11 : List CO := [⟨none, (some 32), (.bin .eql .none (.t 7) (.k (.v (.int .i64 (4)))))⟩, ⟨none, (some 31), (.mv (.t 32))⟩]
def r_s_l1Cur_anyArms_12 : List CO := [⟨none, (some 33), (.mv (.t 0))⟩, ⟨none, (some 34), (.call n_s_l1Cur_anyGroup [(.t 33)])⟩, ⟨none, (some 35), (.faddr 7 (.t 3))⟩, ⟨none, none, (.st 4 (.t 35) (.t 34))⟩]
def r_s_l1Cur_anyArms_13 : List CO := [⟨none, (some 37), (.bin .eql .none (.t 7) (.k (.v (.int .i64 (5)))))⟩, ⟨none, (some 36), (.mv (.t 37))⟩]
def r_s_l1Cur_anyArms_14 : List CO := [⟨none, (some 38), (.mv (.t 0))⟩, ⟨none, (some 39), (.call n_s_l1Cur_anyGroup [(.t 38)])⟩, ⟨none, (some 40), (.faddr 11 (.t 3))⟩, ⟨none, none, (.st 4 (.t 40) (.t 39))⟩]
def r_s_l1Cur_anyArms_15 : List CO := [⟨none, (some 41), (.ld true 15 (.t 3))⟩, ⟨none, none, (.st 15 (.t 2) (.t 41))⟩]
/-- (*loop.example/g00884/spec.l1Cur).anyArms -/
def c_s_l1Cur_anyArms : C := (.seq (.reg r_s_l1Cur_anyArms_0 [0, 2]) (.seq (.reg r_s_l1Cur_anyArms_1 [0, 2, 3]) (.seq (.seq (.reg r_s_l1Cur_anyArms_2 [0, 2, 3, 7]) (.block 0 (.seq (.reg r_s_l1Cur_anyArms_3 [0, 2, 3, 7, 8]) (.cond (.t 8) (.reg r_s_l1Cur_anyArms_4 [2, 3]) (.seq (.reg r_s_l1Cur_anyArms_5 [0, 2, 3, 7, 13]) (.cond (.t 13) (.reg r_s_l1Cur_anyArms_6 [2, 3]) (.seq (.reg r_s_l1Cur_anyArms_7 [0, 2, 3, 7, 19]) (.cond (.t 19) (.reg r_s_l1Cur_anyArms_8 [2, 3]) (.seq (.reg r_s_l1Cur_anyArms_9 [0, 2, 3, 7, 25]) (.cond (.t 25) (.reg r_s_l1Cur_anyArms_10 [2, 3]) (.seq (.reg r_s_l1Cur_anyArms_11 [0, 2, 3, 7, 31]) (.cond (.t 31) (.reg r_s_l1Cur_anyArms_12 [2, 3]) (.seq (.reg r_s_l1Cur_anyArms_13 [0, 2, 3, 36]) (.cond (.t 36) (.reg r_s_l1Cur_anyArms_14 [2, 3]) .skip)))))))))))))) (.seq (.reg r_s_l1Cur_anyArms_15 [2]) .ret))))
def k_s_l1Cur_anyArms : Nat → List Nat
  | 0 => [0, 2]
  | 1 => [0, 2, 3]
  | 2 => [0, 2, 3, 7]
  | 3 => [0, 2, 3, 7, 8]
  | 4 => [2, 3]
  | 5 => [0, 2, 3, 7, 13]
  | 6 => [2, 3]
  | 7 => [0, 2, 3, 7, 19]
  | 8 => [2, 3]
  | 9 => [0, 2, 3, 7, 25]
  | 10 => [2, 3]
  | 11 => [0, 2, 3, 7, 31]
  | 12 => [2, 3]
  | 13 => [0, 2, 3, 36]
  | 14 => [2, 3]
  | 15 => [2]
  | _ => []
theorem fn_s_l1Cur_anyArms : FnC Tryz.prog n_s_l1Cur_anyArms c_s_l1Cur_anyArms [(.cell 2 true 15)] 42 :=
  ⟨Tryz.f88, _, k_s_l1Cur_anyArms, Tryz.func88, rfl, by kernel_rfl, by kernel_rfl, by kernel_rfl, rfl⟩
end Go.Proofs.YtbeoijlggphklaaGreatDoor

/- The compact code of the functions, and that it is theirs: written by a program of this claim. -/
namespace Go.Proofs.YtbeoijlggphklaaGreatDoor
open Go.Abs
set_option maxRecDepth 100000
def r_s_l1Cur_next_0 : List CO := [⟨none, (some 2), (.mv (.k (.v (.int .i64 (0)))))⟩]
def r_s_l1Cur_next_1 : List CO := [⟨none, (some 3), (.mv (.k (.v (.int .i64 (0)))))⟩]
def r_s_l1Cur_next_2 : List CO := [⟨none, (some 4), (.mv (.t 0))⟩, ⟨none, (some 5), (.faddr 0 (.t 4))⟩, ⟨none, (some 6), (.faddr 1 (.t 5))⟩, ⟨none, (some 7), (.ld false 1 (.t 6))⟩, ⟨none, (some 8), (.mv (.t 0))⟩, ⟨none, (some 9), (.faddr 0 (.t 8))⟩, ⟨none, (some 10), (.faddr 0 (.t 9))⟩, ⟨none, (some 11), (.ld false 1 (.t 10))⟩, ⟨none, (some 12), (.len false (.t 11))⟩, ⟨none, (some 13), (.bin .lss .none (.t 7) (.t 12))⟩]
def p_s_l1Cur_next_2 : List (List Nat) := [[], [0], [0, 1], [0, 1, 2], [], [4], [4, 5], [4, 5, 6], [4, 5, 6, 7], [0, 1, 2, 3, 4, 5, 6, 7, 8]]
def r_s_l1Cur_next_3 : List CO := [⟨none, (some 14), (.mv (.t 0))⟩, ⟨none, (some 15), (.faddr 0 (.t 14))⟩, ⟨none, (some 16), (.faddr 0 (.t 15))⟩, ⟨none, (some 17), (.ld false 1 (.t 16))⟩, ⟨none, (some 18), (.mv (.t 0))⟩, ⟨none, (some 19), (.faddr 0 (.t 18))⟩, ⟨none, (some 20), (.faddr 1 (.t 19))⟩, ⟨none, (some 21), (.ld false 1 (.t 20))⟩, ⟨none, (some 22), (.iaddr 1 (.t 17) (.t 21))⟩, ⟨none, (some 23), (.ld false 1 (.t 22))⟩, ⟨none, (some 24), (.conv (.int .i64) (.t 23))⟩, ⟨none, (some 3), (.mv (.t 24))⟩]
def p_s_l1Cur_next_3 : List (List Nat) := [[], [0], [0, 1], [0, 1, 2], [], [4], [4, 5], [4, 5, 6], [0, 1, 2, 3, 4, 5, 6, 7], [0, 1, 2, 3, 4, 5, 6, 7, 8], [0, 1, 2, 3, 4, 5, 6, 7, 8, 9], [0, 1, 2, 3, 4, 5, 6, 7, 8, 9, 10]]
def r_s_l1Cur_next_4 : List CO := [⟨none, (some 25), (.mv (.t 0))⟩, ⟨none, (some 26), (.faddr 0 (.t 25))⟩, ⟨none, (some 27), (.faddr 1 (.t 26))⟩, ⟨none, (some 28), (.ld false 1 (.t 27))⟩, ⟨none, (some 29), (.bin .add .none (.t 28) (.k (.v (.int .i64 (1)))))⟩, ⟨none, (some 30), (.faddr 0 (.t 25))⟩, ⟨none, (some 31), (.faddr 1 (.t 30))⟩, ⟨none, none, (.st 1 (.t 31) (.t 29))⟩]
def r_s_l1Cur_next_5 : List CO := [⟨none, (some 32), (.mv (.t 0))⟩, ⟨none, (some 33), (.mv (.t 0))⟩, ⟨none, (some 34), (.faddr 0 (.t 33))⟩, ⟨none, (some 35), (.faddr 2 (.t 34))⟩, ⟨none, (some 36), (.ld false 1 (.t 35))⟩, ⟨none, (some 37), (.bin .mul .none (.t 36) (.k (.v (.int .u64 (6364136223846793005)))))⟩, ⟨none, (some 38), (.mv (.t 3))⟩, ⟨none, (some 39), (.conv (.int .u64) (.t 38))⟩, ⟨none, (some 40), (.bin .add .none (.t 37) (.t 39))⟩, ⟨none, (some 41), (.bin .add .none (.t 40) (.k (.v (.int .u64 (884884)))))⟩, ⟨none, (some 42), (.faddr 0 (.t 32))⟩, ⟨none, (some 43), (.faddr 2 (.t 42))⟩, ⟨none, none, (.st 1 (.t 43) (.t 41))⟩]
def r_s_l1Cur_next_6 : List CO := [⟨none, (some 44), (.mv (.t 0))⟩, ⟨none, (some 45), (.faddr 0 (.t 44))⟩, ⟨none, (some 46), (.faddr 1 (.t 45))⟩, ⟨none, (some 47), (.ld false 1 (.t 46))⟩, ⟨none, (some 48), (.mv (.t 0))⟩, ⟨none, (some 49), (.faddr 0 (.t 48))⟩, ⟨none, (some 50), (.faddr 0 (.t 49))⟩, ⟨none, (some 51), (.ld false 1 (.t 50))⟩, ⟨none, (some 52), (.len false (.t 51))⟩, ⟨none, (some 53), (.bin .leq .none (.t 47) (.t 52))⟩]
def p_s_l1Cur_next_6 : List (List Nat) := [[], [0], [0, 1], [0, 1, 2], [], [4], [4, 5], [4, 5, 6], [4, 5, 6, 7], [0, 1, 2, 3, 4, 5, 6, 7, 8]]
def r_s_l1Cur_next_7 : List CO := [⟨none, (some 54), (.mv (.t 3))⟩, ⟨none, (some 2), (.mv (.t 54))⟩]
def r_s_l1Cur_next_8 : List CO := [⟨none, (some 55), (.mv (.t 0))⟩, ⟨none, (some 56), (.faddr 0 (.t 55))⟩, ⟨none, (some 57), (.faddr 2 (.t 56))⟩, ⟨none, (some 58), (.ld false 1 (.t 57))⟩, ⟨none, (some 59), (.bin .shr .none (.t 58) (.k (.v (.int .u64 (40)))))⟩, ⟨none, (some 60), (.bin .and .none (.t 59) (.k (.v (.int .u64 (255)))))⟩, ⟨none, (some 61), (.conv (.int .i64) (.t 60))⟩, ⟨none, (some 2), (.mv (.t 61))⟩]
/-- (*loop.example/g00884/spec.l1Cur).next -/
def c_s_l1Cur_next : C := (.seq (.reg r_s_l1Cur_next_0 [0]) (.seq (.reg r_s_l1Cur_next_1 [0, 3]) (.seq (.seq (.regD r_s_l1Cur_next_2 p_s_l1Cur_next_2 [0, 3, 13]) (.cond (.t 13) (.regD r_s_l1Cur_next_3 p_s_l1Cur_next_3 [0, 3]) .skip)) (.seq (.reg r_s_l1Cur_next_4 [0, 3]) (.seq (.reg r_s_l1Cur_next_5 [0, 3]) (.seq (.seq (.regD r_s_l1Cur_next_6 p_s_l1Cur_next_6 [0, 3, 53]) (.cond (.t 53) (.seq (.reg r_s_l1Cur_next_7 [2]) .ret) .skip)) (.seq (.reg r_s_l1Cur_next_8 [2]) .ret)))))))
def k_s_l1Cur_next : Nat → List Nat
  | 0 => [0]
  | 1 => [0, 3]
  | 2 => [0, 3, 13]
  | 3 => [0, 3]
  | 4 => [0, 3]
  | 5 => [0, 3]
  | 6 => [0, 3, 53]
  | 7 => [2]
  | 8 => [2]
  | _ => []
theorem fn_s_l1Cur_next : FnC Tryz.prog n_s_l1Cur_next c_s_l1Cur_next [(.tmp 2)] 62 :=
  ⟨Tryz.f117, _, k_s_l1Cur_next, Tryz.func117, rfl, by kernel_rfl, by kernel_rfl, by kernel_rfl, rfl⟩
def r_s_l1Cur_pick_0 : List CO := [⟨none, (some 4), (.mv (.k (.v (.int .i64 (0)))))⟩]
def r_s_l1Cur_pick_1 : List CO := [⟨none, (some 6), (.mv (.t 1))⟩, ⟨none, (some 7), (.bin .leq .none (.t 6) (.k (.v (.int .i64 (1)))))⟩]
def r_s_l1Cur_pick_2 : List CO := [⟨none, (some 4), (.mv (.k (.v (.int .i64 (0)))))⟩]
def r_s_l1Cur_pick_3 : List CO := [⟨none, (some 8), (.mv (.t 0))⟩, ⟨none, (some 9), (.call n_s_l1Cur_next [(.t 8)])⟩, ⟨none, (some 5), (.mv (.t 9))⟩]
def r_s_l1Cur_pick_4 : List CO := [⟨none, (some 10), (.mv (.t 1))⟩, ⟨none, (some 11), (.bin .gtr .none (.t 10) (.k (.v (.int .i64 (200)))))⟩]
def r_s_l1Cur_pick_5 : List CO := [⟨none, (some 12), (.mv (.t 5))⟩, ⟨none, (some 13), (.bin .mul .none (.t 12) (.k (.v (.int .i64 (256)))))⟩, ⟨none, (some 14), (.mv (.t 0))⟩, ⟨none, (some 15), (.call n_s_l1Cur_next [(.t 14)])⟩, ⟨none, (some 16), (.bin .add .none (.t 13) (.t 15))⟩, ⟨none, (some 5), (.mv (.t 16))⟩]
def r_s_l1Cur_pick_6 : List CO := [⟨none, (some 17), (.mv (.t 5))⟩, ⟨none, (some 18), (.mv (.t 1))⟩, ⟨none, (some 19), (.bin .rem .none (.t 17) (.t 18))⟩, ⟨none, (some 4), (.mv (.t 19))⟩]
/-- (*loop.example/g00884/spec.l1Cur).pick -/
def c_s_l1Cur_pick : C := (.seq (.reg r_s_l1Cur_pick_0 [0, 1]) (.seq (.seq (.reg r_s_l1Cur_pick_1 [0, 1, 7]) (.cond (.t 7) (.seq (.reg r_s_l1Cur_pick_2 [4]) .ret) .skip)) (.seq (.reg r_s_l1Cur_pick_3 [0, 1, 5]) (.seq (.seq (.reg r_s_l1Cur_pick_4 [0, 1, 5, 11]) (.cond (.t 11) (.reg r_s_l1Cur_pick_5 [1, 5]) .skip)) (.seq (.reg r_s_l1Cur_pick_6 [4]) .ret)))))
def k_s_l1Cur_pick : Nat → List Nat
  | 0 => [0, 1]
  | 1 => [0, 1, 7]
  | 2 => [4]
  | 3 => [0, 1, 5]
  | 4 => [0, 1, 5, 11]
  | 5 => [1, 5]
  | 6 => [4]
  | _ => []
theorem fn_s_l1Cur_pick : FnC Tryz.prog n_s_l1Cur_pick c_s_l1Cur_pick [(.tmp 4)] 20 :=
  ⟨Tryz.f79, _, k_s_l1Cur_pick, Tryz.func79, rfl, by kernel_rfl, by kernel_rfl, by kernel_rfl, rfl⟩
def r_s_l1Cur_one_0 : List CO := [⟨none, (some 4), (.mv (.k (.v (.bool false))))⟩]
def r_s_l1Cur_one_1 : List CO := [⟨none, (some 5), (.mv (.t 0))⟩, ⟨none, (some 6), (.mv (.t 1))⟩, ⟨none, (some 7), (.call n_s_l1Cur_pick [(.t 5), (.t 6)])⟩, ⟨none, (some 8), (.bin .eql .none (.t 7) (.k (.v (.int .i64 (0)))))⟩, ⟨none, (some 4), (.mv (.t 8))⟩]
/-- (*loop.example/g00884/spec.l1Cur).one -/
def c_s_l1Cur_one : C := (.seq (.reg r_s_l1Cur_one_0 [0, 1]) (.seq (.reg r_s_l1Cur_one_1 [4]) .ret))
def k_s_l1Cur_one : Nat → List Nat
  | 0 => [0, 1]
  | 1 => [4]
  | _ => []
theorem fn_s_l1Cur_one : FnC Tryz.prog n_s_l1Cur_one c_s_l1Cur_one [(.tmp 4)] 9 :=
  ⟨Tryz.f89, _, k_s_l1Cur_one, Tryz.func89, rfl, by kernel_rfl, by kernel_rfl, by kernel_rfl, rfl⟩
def r_s_l1Cur_among_0 : List CO := [⟨none, (some 4), (.mv (.k (.v (.int .i64 (0)))))⟩]
def r_s_l1Cur_among_1 : List CO := [⟨none, (some 5), (.mv (.t 1))⟩, ⟨none, (some 6), (.mv (.t 0))⟩, ⟨none, (some 7), (.mv (.t 1))⟩, ⟨none, (some 8), (.len false (.t 7))⟩, ⟨none, (some 9), (.call n_s_l1Cur_pick [(.t 6), (.t 8)])⟩, ⟨none, (some 10), (.iaddr 1 (.t 5) (.t 9))⟩, ⟨none, (some 11), (.ld false 1 (.t 10))⟩, ⟨none, (some 4), (.mv (.t 11))⟩]
/-- (*loop.example/g00884/spec.l1Cur).among -/
def c_s_l1Cur_among : C := (.seq (.reg r_s_l1Cur_among_0 [0, 1]) (.seq (.reg r_s_l1Cur_among_1 [4]) .ret))
def k_s_l1Cur_among : Nat → List Nat
  | 0 => [0, 1]
  | 1 => [4]
  | _ => []
theorem fn_s_l1Cur_among : FnC Tryz.prog n_s_l1Cur_among c_s_l1Cur_among [(.tmp 4)] 12 :=
  ⟨Tryz.f78, _, k_s_l1Cur_among, Tryz.func78, rfl, by kernel_rfl, by kernel_rfl, by kernel_rfl, rfl⟩
def r_s_l1Cur_tincture_0 : List CO := [⟨none, (some 2), (.mv (.k (.v (.int .i64 (0)))))⟩]
def r_s_l1Cur_tincture_1 : List CO := [⟨none, (some 3), (.mv (.t 0))⟩, ⟨none, (some 4), (.call n_s_l1Cur_pick [(.t 3), (.k (.v (.int .i64 (9))))])⟩, ⟨none, (some 5), (.bin .add .none (.k (.v (.int .i64 (1)))) (.t 4))⟩, ⟨none, (some 2), (.mv (.t 5))⟩]
/-- (*loop.example/g00884/spec.l1Cur).tincture -/
def c_s_l1Cur_tincture : C := (.seq (.reg r_s_l1Cur_tincture_0 [0]) (.seq (.reg r_s_l1Cur_tincture_1 [2]) .ret))
def k_s_l1Cur_tincture : Nat → List Nat
  | 0 => [0]
  | 1 => [2]
  | _ => []
theorem fn_s_l1Cur_tincture : FnC Tryz.prog n_s_l1Cur_tincture c_s_l1Cur_tincture [(.tmp 2)] 6 :=
  ⟨Tryz.f156, _, k_s_l1Cur_tincture, Tryz.func156, rfl, by kernel_rfl, by kernel_rfl, by kernel_rfl, rfl⟩
end Go.Proofs.YtbeoijlggphklaaGreatDoor

/- The cursor of the draws: it reads choices from bytes. -/
set_option linter.unusedVariables false
set_option linter.unusedSimpArgs false
namespace Go.Proofs.YtbeoijlggphklaaGreatDoor
open Go.Abs

abbrev U (n : Int) : V := .v (.int .u64 n)
/-- The cursor in memory. -/
abbrev curB (code : List UInt8) (k : Nat) (s : Int) : Blk := ⟨3, [.agg [.ro 1 (code.map Y), I k, U s]]⟩
abbrev cR : V := .ref (mid 0) 0 0
def seedN (s b : Int) : Int := IntKind.u64.wrap (IntKind.u64.wrap (IntKind.u64.wrap (s * 6364136223846793005) + IntKind.u64.wrap b) + 884884)
theorem s_l1Cur_next (code : List UInt8) (k : Nat) (s : Int) (hk : k ≤ 1000000000000) : ∃ (v : Int) (s' : Int), (0 ≤ v ∧ v ≤ 255) ∧ MCall Tryz.prog n_s_l1Cur_next [curB code k s] [cR] (I v) [some (curB code (k + 1) s')] := by
  by_cases hlt : k < code.length
  · have hb := UInt8.toNat_lt code[k]
    have hw : IntKind.i64.wrap (code[k].toNat : Int) = code[k].toNat := wrap64 (by omega) (by omega)
    refine ⟨code[k].toNat, seedN s code[k].toNat, by omega, ?_⟩
    refine MCall.of fn_s_l1Cur_next (by simp) rfl (by simp) ?_
    simp [c_s_l1Cur_next, r_s_l1Cur_next_0, r_s_l1Cur_next_1, r_s_l1Cur_next_2, p_s_l1Cur_next_2]
    refine ⟨oEnd_of (by first | kernel_rfl | simp) (by first | kernel_rfl | simp), fun _ => ?_, fun hge => by omega⟩
    simp [r_s_l1Cur_next_3, p_s_l1Cur_next_3, hlt, hw]
    refine ⟨oEnd_of (by first | kernel_rfl | simp) (by first | kernel_rfl | simp), ?_⟩
    simp [r_s_l1Cur_next_4]
    rw [wrap64 (n := (k : Int) + 1) (by omega) (by omega)]
    simp [r_s_l1Cur_next_5]
    simp [r_s_l1Cur_next_6, p_s_l1Cur_next_6]
    refine ⟨oEnd_of (by first | kernel_rfl | simp) (by first | kernel_rfl | simp), fun h => ?_, fun h => ?_⟩
    · simp [r_s_l1Cur_next_7, seedN]
    · omega
  · have hge : code.length ≤ k := by omega
    obtain ⟨x, hx⟩ : ∃ x : Nat, ((seedN s 0).fdiv (2 ^ min 40 IntKind.u64.bits) % 2 ^ IntKind.u64.bits).toNat &&& (255 % 2 ^ IntKind.u64.bits) = x := ⟨_, rfl⟩
    have hx255 : x ≤ 255 := by
      rw [← hx]
      have : (255 % 2 ^ IntKind.u64.bits : Nat) = 255 := by decide
      rw [this]; exact Nat.and_le_right
    have hw : IntKind.i64.wrap (IntKind.u64.wrap (x : Int)) = x := by
      have : IntKind.u64.wrap (x : Int) = x := by
        have h1 : IntKind.u64.signed = false := rfl
        have h2 : IntKind.u64.bits = 64 := rfl
        simp only [IntKind.wrap, h1, h2, Bool.false_and, Bool.false_eq_true, if_false]
        omega
      rw [this, wrap64 (by omega) (by omega)]
    refine ⟨x, seedN s 0, by omega, ?_⟩
    refine MCall.of fn_s_l1Cur_next (by simp) rfl (by simp) ?_
    simp [c_s_l1Cur_next, r_s_l1Cur_next_0, r_s_l1Cur_next_1, r_s_l1Cur_next_2, p_s_l1Cur_next_2]
    refine ⟨oEnd_of (by first | kernel_rfl | simp) (by first | kernel_rfl | simp), fun _ => by omega, fun _ => ?_⟩
    simp [r_s_l1Cur_next_4]
    rw [wrap64 (n := (k : Int) + 1) (by omega) (by omega)]
    simp [r_s_l1Cur_next_5]
    simp [r_s_l1Cur_next_6, p_s_l1Cur_next_6]
    refine ⟨oEnd_of (by first | kernel_rfl | simp) (by first | kernel_rfl | simp), fun h => by omega, fun h => ?_⟩
    simp [r_s_l1Cur_next_8]
    refine ⟨?_, rfl⟩
    rw [← hw, ← hx]
    rfl
theorem s_l1Cur_pick (code : List UInt8) (k : Nat) (s n : Int) (hk : k ≤ 100000000000) (hn : n ≤ 1000000) : ∃ (v : Int) (k' : Nat) (s' : Int), ((0 ≤ v ∧ (v < n ∨ v = 0)) ∧ (k ≤ k' ∧ k' ≤ k + 2)) ∧ MCall Tryz.prog n_s_l1Cur_pick [curB code k s] [cR, I n] (I v) [some (curB code k' s')] := by
  by_cases h1 : n ≤ 1
  · refine ⟨0, k, s, by omega, ?_⟩
    refine MCall.of fn_s_l1Cur_pick (by simp) rfl (by simp) ?_
    simp [c_s_l1Cur_pick, r_s_l1Cur_pick_0, r_s_l1Cur_pick_1, r_s_l1Cur_pick_2, h1]
  obtain ⟨v1, s1, hv1, hM1⟩ := s_l1Cur_next code k s (by omega)
  by_cases h2 : n ≤ 200
  · refine ⟨v1.tmod n, k + 1, s1, ⟨⟨Int.tmod_nonneg _ (by omega), .inl (Int.tmod_lt_of_pos _ (by omega))⟩, by omega⟩, ?_⟩
    refine MCall.of fn_s_l1Cur_pick (by simp) rfl (by simp) ?_
    simp [c_s_l1Cur_pick, r_s_l1Cur_pick_0, r_s_l1Cur_pick_1, h1]
    simp [r_s_l1Cur_pick_3]
    refine callQ_Mz [1000000] [] (MCall.arg hM1 (by simp)) (by simp) (by simp) (by simp) (by simp) (by simp) (by first | rfl | simp) (by simp) ?_
    simp [r_s_l1Cur_pick_4]
    refine ⟨fun h => by omega, fun _ => ?_⟩
    simp [r_s_l1Cur_pick_6]
    omega
  · obtain ⟨v2, s2, hv2, hM2⟩ := s_l1Cur_next code (k + 1) s1 (by omega)
    refine ⟨(v1 * 256 + v2).tmod n, k + 2, s2, ⟨⟨Int.tmod_nonneg _ (by omega), .inl (Int.tmod_lt_of_pos _ (by omega))⟩, by omega⟩, ?_⟩
    refine MCall.of fn_s_l1Cur_pick (by simp) rfl (by simp) ?_
    simp [c_s_l1Cur_pick, r_s_l1Cur_pick_0, r_s_l1Cur_pick_1, h1]
    simp [r_s_l1Cur_pick_3]
    refine callQ_Mz [1000000] [] (MCall.arg hM1 (by simp)) (by simp) (by simp) (by simp) (by simp) (by simp) (by first | rfl | simp) (by simp) ?_
    simp [r_s_l1Cur_pick_4]
    refine ⟨fun _ => ?_, fun h => by omega⟩
    simp [r_s_l1Cur_pick_5]
    rw [wrap64 (by omega) (by omega)]
    refine callQ_Mz [1000000] [] (MCall.arg hM2 (by simp)) (by simp) (by simp) (by simp) (by simp) (by simp) (by first | rfl | simp) (by simp) ?_
    simp
    rw [wrap64 (by omega) (by omega)]
    simp [r_s_l1Cur_pick_6]
    omega
/-- Once in n times. -/
theorem s_l1Cur_one (code : List UInt8) (k : Nat) (s n : Int) (hk : k ≤ 100000000000) (hn : n ≤ 1000000) : ∃ (v : Bool) (k' : Nat) (s' : Int), (k ≤ k' ∧ k' ≤ k + 2) ∧ MCall Tryz.prog n_s_l1Cur_one [curB code k s] [cR, I n] (B v) [some (curB code k' s')] := by
  obtain ⟨v, k', s', ⟨_, hk'⟩, hM⟩ := s_l1Cur_pick code k s n hk hn
  refine ⟨decide (v = 0), k', s', hk', ?_⟩
  refine MCall.of fn_s_l1Cur_one (by simp) rfl (by simp) ?_
  simp [c_s_l1Cur_one, r_s_l1Cur_one_0, r_s_l1Cur_one_1]
  refine callQ_Mz [1000000] [] (MCall.arg hM (by simp)) (by simp) (by simp) (by simp) (by simp) (by simp) (by first | rfl | simp) (by simp) ?_
  simp
  rfl
theorem s_l1Cur_among (code : List UInt8) (k : Nat) (s : Int) (l : List Int) (hk : k ≤ 100000000000) (h0 : 0 < l.length) (hl : l.length ≤ 100000) :
    ∃ (v : Int) (k' : Nat) (s' : Int), (v ∈ l ∧ (k ≤ k' ∧ k' ≤ k + 2)) ∧ MCall Tryz.prog n_s_l1Cur_among [curB code k s] [cR, .ro 1 (l.map I)] (I v) [some (curB code k' s')] := by
  obtain ⟨v, k', s', ⟨hv, hk'⟩, hM⟩ := s_l1Cur_pick code k s l.length hk (by omega)
  obtain ⟨i, rfl⟩ : ∃ i : Nat, v = i := ⟨v.toNat, by omega⟩
  have hi : i < l.length := by omega
  refine ⟨l[i], k', s', ⟨List.getElem_mem _, hk'⟩, ?_⟩
  refine MCall.of fn_s_l1Cur_among (by simp) rfl (by simp) ?_
  simp [c_s_l1Cur_among, r_s_l1Cur_among_0, r_s_l1Cur_among_1]
  refine callQ_Mz [1000000] [] (MCall.arg hM (by simp)) (by simp) (by simp) (by simp) (by simp) (by simp) (by first | rfl | simp) (by simp) ?_
  simp [hi]
theorem s_l1Cur_tincture (code : List UInt8) (k : Nat) (s : Int) (hk : k ≤ 100000000000) : ∃ (v : Int) (k' : Nat) (s' : Int), ((1 ≤ v ∧ v ≤ 9) ∧ (k ≤ k' ∧ k' ≤ k + 2)) ∧ MCall Tryz.prog n_s_l1Cur_tincture [curB code k s] [cR] (I v) [some (curB code k' s')] := by
  obtain ⟨v, k', s', ⟨hv, hk'⟩, hM⟩ := s_l1Cur_pick code k s 9 hk (by omega)
  refine ⟨1 + v, k', s', by omega, ?_⟩
  refine MCall.of fn_s_l1Cur_tincture (by simp) rfl (by simp) ?_
  simp [c_s_l1Cur_tincture, r_s_l1Cur_tincture_0, r_s_l1Cur_tincture_1]
  refine callQ_Mz [1000000] [] (MCall.arg hM (by simp)) (by simp) (by simp) (by simp) (by simp) (by simp) (by first | rfl | simp) (by simp) ?_
  simp
  exact wrap64 (by omega) (by omega)
end Go.Proofs.YtbeoijlggphklaaGreatDoor

/- Draws of fields, groups and arms: printed by drawgen.py. -/
set_option linter.unusedVariables false
set_option linter.unusedSimpArgs false
namespace Go.Proofs.YtbeoijlggphklaaGreatDoor
open Go.Abs

set_option maxHeartbeats 4000000 in
theorem s_l1Cur_field (code : List UInt8) (k : Nat) (s : Int) (hk : k ≤ 10000000000) : ∃ (r0 : Field) (k' : Nat) (s' : Int), (k ≤ k' ∧ k' ≤ k + 10) ∧ MCall Tryz.prog n_s_l1Cur_field [curB code k s] [cR] (eField r0) [some (curB code k' s')] := by
  obtain ⟨v0, k1, s1, ⟨hv0, hk0⟩, hM0⟩ := s_l1Cur_tincture code k s (by omega)
  obtain ⟨v1, k2, s2, hk1, hM1⟩ := s_l1Cur_one code k1 s1 2 (by omega) (by omega)
  cases v1 with
  | true =>
    refine ⟨⟨0, 0, v0, 0⟩, k2, s2, by omega, ?_⟩
    refine MCall.of fn_s_l1Cur_field (by simp) rfl (by simp) ?_
    simp [c_s_l1Cur_field, r_s_l1Cur_field_0, r_s_l1Cur_field_1, r_s_l1Cur_field_2, r_s_l1Cur_field_3]
    refine callQ_Mz [1000000] [] (MCall.arg hM0 (by simp)) (by simp) (by simp) (by simp) (by simp) (by simp) (by first | rfl | simp) (by simp) ?_
    simp [c_s_l1Cur_field, r_s_l1Cur_field_0, r_s_l1Cur_field_1, r_s_l1Cur_field_2, r_s_l1Cur_field_3]
    refine callQ_Mz [1000000] [] (MCall.arg hM1 (by simp)) (by simp) (by simp) (by simp) (by simp) (by simp) (by first | rfl | simp) (by simp) ?_
    simp [c_s_l1Cur_field, r_s_l1Cur_field_0, r_s_l1Cur_field_1, r_s_l1Cur_field_2, r_s_l1Cur_field_3]
  | false =>
    obtain ⟨v3, k4, s4, ⟨hv3, hk3⟩, hM3⟩ := s_l1Cur_pick code k2 s2 7 (by omega) (by omega)
    obtain ⟨v4, k5, s5, ⟨hv4, hk4⟩, hM4⟩ := s_l1Cur_among code k4 s4 [0, 0, 1, 2, 3, 4] (by omega) (by simp) (by simp)
    obtain ⟨v5, k6, s6, ⟨hv5, hk5⟩, hM5⟩ := s_l1Cur_pick code k5 s5 8 (by omega) (by omega)
    refine ⟨⟨(IntKind.i64.wrap (1 + v3)), v4, v0, (IntKind.i64.wrap (1 + (Int.tmod (IntKind.i64.wrap (v0 + v5)) 9)))⟩, k6, s6, by omega, ?_⟩
    refine MCall.of fn_s_l1Cur_field (by simp) rfl (by simp) ?_
    simp [c_s_l1Cur_field, r_s_l1Cur_field_0, r_s_l1Cur_field_1, r_s_l1Cur_field_2, r_s_l1Cur_field_4, r_s_l1Cur_field_5, r_s_l1Cur_field_6, p_s_l1Cur_field_6, r_s_l1Cur_field_7]
    refine callQ_Mz [1000000] [] (MCall.arg hM0 (by simp)) (by simp) (by simp) (by simp) (by simp) (by simp) (by first | rfl | simp) (by simp) ?_
    simp [c_s_l1Cur_field, r_s_l1Cur_field_0, r_s_l1Cur_field_1, r_s_l1Cur_field_2, r_s_l1Cur_field_4, r_s_l1Cur_field_5, r_s_l1Cur_field_6, p_s_l1Cur_field_6, r_s_l1Cur_field_7]
    refine callQ_Mz [1000000] [] (MCall.arg hM1 (by simp)) (by simp) (by simp) (by simp) (by simp) (by simp) (by first | rfl | simp) (by simp) ?_
    simp [c_s_l1Cur_field, r_s_l1Cur_field_0, r_s_l1Cur_field_1, r_s_l1Cur_field_2, r_s_l1Cur_field_4, r_s_l1Cur_field_5, r_s_l1Cur_field_6, p_s_l1Cur_field_6, r_s_l1Cur_field_7]
    refine callQ_Mz [1000000] [] (MCall.arg hM3 (by simp)) (by simp) (by simp) (by simp) (by simp) (by simp) (by first | rfl | simp) (by simp) ?_
    simp [c_s_l1Cur_field, r_s_l1Cur_field_0, r_s_l1Cur_field_1, r_s_l1Cur_field_2, r_s_l1Cur_field_4, r_s_l1Cur_field_5, r_s_l1Cur_field_6, p_s_l1Cur_field_6, r_s_l1Cur_field_7]
    refine callQ_Mz [1000000] [15] (MCall.arg hM4 (by simp)) (by simp) (by simp) (by simp) (by simp) (by simp) (by first | rfl | simp) (by simp) ?_
    simp [c_s_l1Cur_field, r_s_l1Cur_field_0, r_s_l1Cur_field_1, r_s_l1Cur_field_2, r_s_l1Cur_field_4, r_s_l1Cur_field_5, r_s_l1Cur_field_6, p_s_l1Cur_field_6, r_s_l1Cur_field_7]
    refine callD_M [1000000] [] (l := [_]) (MCall.arg hM5 (by simp)) (by simp) (by simp) (by simp) (by simp) (by simp) (by first | rfl | simp) (by simp) (by simp) ?_
    simp [c_s_l1Cur_field, r_s_l1Cur_field_0, r_s_l1Cur_field_1, r_s_l1Cur_field_2, r_s_l1Cur_field_4, r_s_l1Cur_field_5, r_s_l1Cur_field_6, p_s_l1Cur_field_6, r_s_l1Cur_field_7]
    first | done | exact oEnd_of (by simp [p_s_l1Cur_field_6]) (by simp) | exact ⟨oEnd_of (by simp [p_s_l1Cur_field_6]) (by simp), by simp [c_s_l1Cur_field, r_s_l1Cur_field_0, r_s_l1Cur_field_1, r_s_l1Cur_field_2, r_s_l1Cur_field_4, r_s_l1Cur_field_5, r_s_l1Cur_field_6, p_s_l1Cur_field_6, r_s_l1Cur_field_7]⟩ | trace_state
set_option maxHeartbeats 4000000 in
theorem s_l1Cur_group (code : List UInt8) (k : Nat) (s : Int) (hk : k ≤ 10000000000) : ∃ (r0 : Group) (k' : Nat) (s' : Int), (k ≤ k' ∧ k' ≤ k + 8) ∧ MCall Tryz.prog n_s_l1Cur_group [curB code k s] [cR] (eGroup r0) [some (curB code k' s')] := by
  obtain ⟨v0, k1, s1, ⟨hv0, hk0⟩, hM0⟩ := s_l1Cur_among code k s [1, 1, 2, 3, 3, 4, 5, 6] (by omega) (by simp) (by simp)
  obtain ⟨v1, k2, s2, ⟨hv1, hk1⟩, hM1⟩ := s_l1Cur_pick code k1 s1 8 (by omega) (by omega)
  obtain ⟨v2, k3, s3, ⟨hv2, hk2⟩, hM2⟩ := s_l1Cur_tincture code k2 s2 (by omega)
  by_cases c3 : (IntKind.i64.wrap (1 + v1)) ≤ 3
  · obtain ⟨v4, k5, s5, ⟨hv4, hk4⟩, hM4⟩ := s_l1Cur_pick code k3 s3 2 (by omega) (by omega)
    refine ⟨⟨v0, (IntKind.i64.wrap (1 + v1)), (IntKind.i64.wrap (1 + v4)), v2⟩, k5, s5, by omega, ?_⟩
    refine MCall.of fn_s_l1Cur_group (by simp) rfl (by simp) ?_
    simp [c_s_l1Cur_group, r_s_l1Cur_group_0, r_s_l1Cur_group_1, r_s_l1Cur_group_2, r_s_l1Cur_group_3, r_s_l1Cur_group_4, c3]
    refine callQ_Mz [1000000] [5] (MCall.arg hM0 (by simp)) (by simp) (by simp) (by simp) (by simp) (by simp) (by first | rfl | simp) (by simp) ?_
    simp [c_s_l1Cur_group, r_s_l1Cur_group_0, r_s_l1Cur_group_1, r_s_l1Cur_group_2, r_s_l1Cur_group_3, r_s_l1Cur_group_4, c3]
    refine callQ_Mz [1000000] [] (MCall.arg hM1 (by simp)) (by simp) (by simp) (by simp) (by simp) (by simp) (by first | rfl | simp) (by simp) ?_
    simp [c_s_l1Cur_group, r_s_l1Cur_group_0, r_s_l1Cur_group_1, r_s_l1Cur_group_2, r_s_l1Cur_group_3, r_s_l1Cur_group_4, c3]
    refine callQ_Mz [1000000] [] (MCall.arg hM2 (by simp)) (by simp) (by simp) (by simp) (by simp) (by simp) (by first | rfl | simp) (by simp) ?_
    simp [c_s_l1Cur_group, r_s_l1Cur_group_0, r_s_l1Cur_group_1, r_s_l1Cur_group_2, r_s_l1Cur_group_3, r_s_l1Cur_group_4, c3]
    refine callQ_v (PCall.arg (s_l4Beast (IntKind.i64.wrap (1 + v1))) (by simp)) ?_
    simp [c_s_l1Cur_group, r_s_l1Cur_group_0, r_s_l1Cur_group_1, r_s_l1Cur_group_2, r_s_l1Cur_group_3, r_s_l1Cur_group_4, c3]
    refine callQ_Mz [1000000] [] (MCall.arg hM4 (by simp)) (by simp) (by simp) (by simp) (by simp) (by simp) (by first | rfl | simp) (by simp) ?_
    simp [c_s_l1Cur_group, r_s_l1Cur_group_0, r_s_l1Cur_group_1, r_s_l1Cur_group_2, r_s_l1Cur_group_3, r_s_l1Cur_group_4, c3]
  · refine ⟨⟨v0, (IntKind.i64.wrap (1 + v1)), 0, v2⟩, k3, s3, by omega, ?_⟩
    refine MCall.of fn_s_l1Cur_group (by simp) rfl (by simp) ?_
    simp [c_s_l1Cur_group, r_s_l1Cur_group_0, r_s_l1Cur_group_1, r_s_l1Cur_group_2, r_s_l1Cur_group_4, c3]
    refine callQ_Mz [1000000] [5] (MCall.arg hM0 (by simp)) (by simp) (by simp) (by simp) (by simp) (by simp) (by first | rfl | simp) (by simp) ?_
    simp [c_s_l1Cur_group, r_s_l1Cur_group_0, r_s_l1Cur_group_1, r_s_l1Cur_group_2, r_s_l1Cur_group_4, c3]
    refine callQ_Mz [1000000] [] (MCall.arg hM1 (by simp)) (by simp) (by simp) (by simp) (by simp) (by simp) (by first | rfl | simp) (by simp) ?_
    simp [c_s_l1Cur_group, r_s_l1Cur_group_0, r_s_l1Cur_group_1, r_s_l1Cur_group_2, r_s_l1Cur_group_4, c3]
    refine callQ_Mz [1000000] [] (MCall.arg hM2 (by simp)) (by simp) (by simp) (by simp) (by simp) (by simp) (by first | rfl | simp) (by simp) ?_
    simp [c_s_l1Cur_group, r_s_l1Cur_group_0, r_s_l1Cur_group_1, r_s_l1Cur_group_2, r_s_l1Cur_group_4, c3]
    refine callQ_v (PCall.arg (s_l4Beast (IntKind.i64.wrap (1 + v1))) (by simp)) ?_
    simp [c_s_l1Cur_group, r_s_l1Cur_group_0, r_s_l1Cur_group_1, r_s_l1Cur_group_2, r_s_l1Cur_group_4, c3]
set_option maxHeartbeats 4000000 in
theorem s_l1Cur_anyField (code : List UInt8) (k : Nat) (s : Int) (hk : k ≤ 1000000000) : ∃ (r0 : Field) (k' : Nat) (s' : Int), (k ≤ k' ∧ k' ≤ k + 14) ∧ MCall Tryz.prog n_s_l1Cur_anyField [curB code k s] [cR] (eField r0) [some (curB code k' s')] := by
  obtain ⟨v0, k1, s1, hk0, hM0⟩ := s_l1Cur_field code k s (by omega)
  obtain ⟨v1, k2, s2, ⟨hv1, hk1⟩, hM1⟩ := s_l1Cur_pick code k1 s1 24 (by omega) (by omega)
  by_cases c2 : v1 = 0
  · obtain ⟨v3, k4, s4, ⟨hv3, hk3⟩, hM3⟩ := s_l1Cur_among code k2 s2 [-1, 8, 0, 7, 1] (by omega) (by simp) (by simp)
    refine ⟨⟨v3, v0.line, v0.first, v0.second⟩, k4, s4, by omega, ?_⟩
    refine MCall.of fn_s_l1Cur_anyField (by simp) rfl (by simp) ?_
    simp [c_s_l1Cur_anyField, r_s_l1Cur_anyField_0, r_s_l1Cur_anyField_1, r_s_l1Cur_anyField_2, r_s_l1Cur_anyField_3, r_s_l1Cur_anyField_4, r_s_l1Cur_anyField_11, c2]
    refine callQ_Mz [1000000] [] (MCall.arg hM0 (by simp)) (by simp) (by simp) (by simp) (by simp) (by simp) (by first | rfl | simp) (by simp) ?_
    simp [c_s_l1Cur_anyField, r_s_l1Cur_anyField_0, r_s_l1Cur_anyField_1, r_s_l1Cur_anyField_2, r_s_l1Cur_anyField_3, r_s_l1Cur_anyField_4, r_s_l1Cur_anyField_11, c2]
    refine callQ_Mz [1000000] [] (MCall.arg hM1 (by simp)) (by simp) (by simp) (by simp) (by simp) (by simp) (by first | rfl | simp) (by simp) ?_
    simp [c_s_l1Cur_anyField, r_s_l1Cur_anyField_0, r_s_l1Cur_anyField_1, r_s_l1Cur_anyField_2, r_s_l1Cur_anyField_3, r_s_l1Cur_anyField_4, r_s_l1Cur_anyField_11, c2]
    refine callQ_Mz [1000000] [11] (MCall.arg hM3 (by simp)) (by simp) (by simp) (by simp) (by simp) (by simp) (by first | rfl | simp) (by simp) ?_
    simp [c_s_l1Cur_anyField, r_s_l1Cur_anyField_0, r_s_l1Cur_anyField_1, r_s_l1Cur_anyField_2, r_s_l1Cur_anyField_3, r_s_l1Cur_anyField_4, r_s_l1Cur_anyField_11, c2]
  · by_cases c3 : v1 = 1
    · obtain ⟨v4, k5, s5, ⟨hv4, hk4⟩, hM4⟩ := s_l1Cur_among code k2 s2 [-1, 5, 1, 4] (by omega) (by simp) (by simp)
      refine ⟨⟨v0.division, v4, v0.first, v0.second⟩, k5, s5, by omega, ?_⟩
      refine MCall.of fn_s_l1Cur_anyField (by simp) rfl (by simp) ?_
      simp [c_s_l1Cur_anyField, r_s_l1Cur_anyField_0, r_s_l1Cur_anyField_1, r_s_l1Cur_anyField_2, r_s_l1Cur_anyField_3, r_s_l1Cur_anyField_5, r_s_l1Cur_anyField_6, r_s_l1Cur_anyField_11, c2, c3]
      refine callQ_Mz [1000000] [] (MCall.arg hM0 (by simp)) (by simp) (by simp) (by simp) (by simp) (by simp) (by first | rfl | simp) (by simp) ?_
      simp [c_s_l1Cur_anyField, r_s_l1Cur_anyField_0, r_s_l1Cur_anyField_1, r_s_l1Cur_anyField_2, r_s_l1Cur_anyField_3, r_s_l1Cur_anyField_5, r_s_l1Cur_anyField_6, r_s_l1Cur_anyField_11, c2, c3]
      refine callQ_Mz [1000000] [] (MCall.arg hM1 (by simp)) (by simp) (by simp) (by simp) (by simp) (by simp) (by first | rfl | simp) (by simp) ?_
      simp [c_s_l1Cur_anyField, r_s_l1Cur_anyField_0, r_s_l1Cur_anyField_1, r_s_l1Cur_anyField_2, r_s_l1Cur_anyField_3, r_s_l1Cur_anyField_5, r_s_l1Cur_anyField_6, r_s_l1Cur_anyField_11, c2, c3]
      refine callQ_Mz [1000000] [17] (MCall.arg hM4 (by simp)) (by simp) (by simp) (by simp) (by simp) (by simp) (by first | rfl | simp) (by simp) ?_
      simp [c_s_l1Cur_anyField, r_s_l1Cur_anyField_0, r_s_l1Cur_anyField_1, r_s_l1Cur_anyField_2, r_s_l1Cur_anyField_3, r_s_l1Cur_anyField_5, r_s_l1Cur_anyField_6, r_s_l1Cur_anyField_11, c2, c3]
    · by_cases c4 : v1 = 2
      · obtain ⟨v5, k6, s6, ⟨hv5, hk5⟩, hM5⟩ := s_l1Cur_among code k2 s2 [0, 10, 9] (by omega) (by simp) (by simp)
        refine ⟨⟨v0.division, v0.line, v5, v0.second⟩, k6, s6, by omega, ?_⟩
        refine MCall.of fn_s_l1Cur_anyField (by simp) rfl (by simp) ?_
        simp [c_s_l1Cur_anyField, r_s_l1Cur_anyField_0, r_s_l1Cur_anyField_1, r_s_l1Cur_anyField_2, r_s_l1Cur_anyField_3, r_s_l1Cur_anyField_5, r_s_l1Cur_anyField_7, r_s_l1Cur_anyField_8, r_s_l1Cur_anyField_11, c2, c3, c4]
        refine callQ_Mz [1000000] [] (MCall.arg hM0 (by simp)) (by simp) (by simp) (by simp) (by simp) (by simp) (by first | rfl | simp) (by simp) ?_
        simp [c_s_l1Cur_anyField, r_s_l1Cur_anyField_0, r_s_l1Cur_anyField_1, r_s_l1Cur_anyField_2, r_s_l1Cur_anyField_3, r_s_l1Cur_anyField_5, r_s_l1Cur_anyField_7, r_s_l1Cur_anyField_8, r_s_l1Cur_anyField_11, c2, c3, c4]
        refine callQ_Mz [1000000] [] (MCall.arg hM1 (by simp)) (by simp) (by simp) (by simp) (by simp) (by simp) (by first | rfl | simp) (by simp) ?_
        simp [c_s_l1Cur_anyField, r_s_l1Cur_anyField_0, r_s_l1Cur_anyField_1, r_s_l1Cur_anyField_2, r_s_l1Cur_anyField_3, r_s_l1Cur_anyField_5, r_s_l1Cur_anyField_7, r_s_l1Cur_anyField_8, r_s_l1Cur_anyField_11, c2, c3, c4]
        refine callQ_Mz [1000000] [23] (MCall.arg hM5 (by simp)) (by simp) (by simp) (by simp) (by simp) (by simp) (by first | rfl | simp) (by simp) ?_
        simp [c_s_l1Cur_anyField, r_s_l1Cur_anyField_0, r_s_l1Cur_anyField_1, r_s_l1Cur_anyField_2, r_s_l1Cur_anyField_3, r_s_l1Cur_anyField_5, r_s_l1Cur_anyField_7, r_s_l1Cur_anyField_8, r_s_l1Cur_anyField_11, c2, c3, c4]
      · by_cases c5 : v1 = 3
        · obtain ⟨v6, k7, s7, ⟨hv6, hk6⟩, hM6⟩ := s_l1Cur_among code k2 s2 [0, 10, v0.first, 9] (by omega) (by simp) (by simp)
          refine ⟨⟨v0.division, v0.line, v0.first, v6⟩, k7, s7, by omega, ?_⟩
          refine MCall.of fn_s_l1Cur_anyField (by simp) rfl (by simp) ?_
          simp [c_s_l1Cur_anyField, r_s_l1Cur_anyField_0, r_s_l1Cur_anyField_1, r_s_l1Cur_anyField_2, r_s_l1Cur_anyField_3, r_s_l1Cur_anyField_5, r_s_l1Cur_anyField_7, r_s_l1Cur_anyField_9, r_s_l1Cur_anyField_10, r_s_l1Cur_anyField_11, c2, c3, c4, c5]
          refine callQ_Mz [1000000] [] (MCall.arg hM0 (by simp)) (by simp) (by simp) (by simp) (by simp) (by simp) (by first | rfl | simp) (by simp) ?_
          simp [c_s_l1Cur_anyField, r_s_l1Cur_anyField_0, r_s_l1Cur_anyField_1, r_s_l1Cur_anyField_2, r_s_l1Cur_anyField_3, r_s_l1Cur_anyField_5, r_s_l1Cur_anyField_7, r_s_l1Cur_anyField_9, r_s_l1Cur_anyField_10, r_s_l1Cur_anyField_11, c2, c3, c4, c5]
          refine callQ_Mz [1000000] [] (MCall.arg hM1 (by simp)) (by simp) (by simp) (by simp) (by simp) (by simp) (by first | rfl | simp) (by simp) ?_
          simp [c_s_l1Cur_anyField, r_s_l1Cur_anyField_0, r_s_l1Cur_anyField_1, r_s_l1Cur_anyField_2, r_s_l1Cur_anyField_3, r_s_l1Cur_anyField_5, r_s_l1Cur_anyField_7, r_s_l1Cur_anyField_9, r_s_l1Cur_anyField_10, r_s_l1Cur_anyField_11, c2, c3, c4, c5]
          refine callQ_Mz [1000000] [31] (MCall.arg hM6 (by simp)) (by simp) (by simp) (by simp) (by simp) (by simp) (by first | rfl | simp) (by simp) ?_
          simp [c_s_l1Cur_anyField, r_s_l1Cur_anyField_0, r_s_l1Cur_anyField_1, r_s_l1Cur_anyField_2, r_s_l1Cur_anyField_3, r_s_l1Cur_anyField_5, r_s_l1Cur_anyField_7, r_s_l1Cur_anyField_9, r_s_l1Cur_anyField_10, r_s_l1Cur_anyField_11, c2, c3, c4, c5]
        · refine ⟨⟨v0.division, v0.line, v0.first, v0.second⟩, k2, s2, by omega, ?_⟩
          refine MCall.of fn_s_l1Cur_anyField (by simp) rfl (by simp) ?_
          simp [c_s_l1Cur_anyField, r_s_l1Cur_anyField_0, r_s_l1Cur_anyField_1, r_s_l1Cur_anyField_2, r_s_l1Cur_anyField_3, r_s_l1Cur_anyField_5, r_s_l1Cur_anyField_7, r_s_l1Cur_anyField_9, r_s_l1Cur_anyField_11, c2, c3, c4, c5]
          refine callQ_Mz [1000000] [] (MCall.arg hM0 (by simp)) (by simp) (by simp) (by simp) (by simp) (by simp) (by first | rfl | simp) (by simp) ?_
          simp [c_s_l1Cur_anyField, r_s_l1Cur_anyField_0, r_s_l1Cur_anyField_1, r_s_l1Cur_anyField_2, r_s_l1Cur_anyField_3, r_s_l1Cur_anyField_5, r_s_l1Cur_anyField_7, r_s_l1Cur_anyField_9, r_s_l1Cur_anyField_11, c2, c3, c4, c5]
          refine callQ_Mz [1000000] [] (MCall.arg hM1 (by simp)) (by simp) (by simp) (by simp) (by simp) (by simp) (by first | rfl | simp) (by simp) ?_
          simp [c_s_l1Cur_anyField, r_s_l1Cur_anyField_0, r_s_l1Cur_anyField_1, r_s_l1Cur_anyField_2, r_s_l1Cur_anyField_3, r_s_l1Cur_anyField_5, r_s_l1Cur_anyField_7, r_s_l1Cur_anyField_9, r_s_l1Cur_anyField_11, c2, c3, c4, c5]
set_option maxHeartbeats 4000000 in
theorem s_l1Cur_anyGroup (code : List UInt8) (k : Nat) (s : Int) (hk : k ≤ 1000000000) : ∃ (r0 : Group) (k' : Nat) (s' : Int), (k ≤ k' ∧ k' ≤ k + 12) ∧ MCall Tryz.prog n_s_l1Cur_anyGroup [curB code k s] [cR] (eGroup r0) [some (curB code k' s')] := by
  obtain ⟨v0, k1, s1, hk0, hM0⟩ := s_l1Cur_group code k s (by omega)
  obtain ⟨v1, k2, s2, ⟨hv1, hk1⟩, hM1⟩ := s_l1Cur_pick code k1 s1 24 (by omega) (by omega)
  by_cases c2 : v1 = 0
  · obtain ⟨v3, k4, s4, ⟨hv3, hk3⟩, hM3⟩ := s_l1Cur_among code k2 s2 [0, 7, -1] (by omega) (by simp) (by simp)
    refine ⟨⟨v3, v0.kind, v0.attitude, v0.tincture⟩, k4, s4, by omega, ?_⟩
    refine MCall.of fn_s_l1Cur_anyGroup (by simp) rfl (by simp) ?_
    simp [c_s_l1Cur_anyGroup, r_s_l1Cur_anyGroup_0, r_s_l1Cur_anyGroup_1, r_s_l1Cur_anyGroup_2, r_s_l1Cur_anyGroup_3, r_s_l1Cur_anyGroup_4, r_s_l1Cur_anyGroup_13, c2]
    refine callQ_Mz [1000000] [] (MCall.arg hM0 (by simp)) (by simp) (by simp) (by simp) (by simp) (by simp) (by first | rfl | simp) (by simp) ?_
    simp [c_s_l1Cur_anyGroup, r_s_l1Cur_anyGroup_0, r_s_l1Cur_anyGroup_1, r_s_l1Cur_anyGroup_2, r_s_l1Cur_anyGroup_3, r_s_l1Cur_anyGroup_4, r_s_l1Cur_anyGroup_13, c2]
    refine callQ_Mz [1000000] [] (MCall.arg hM1 (by simp)) (by simp) (by simp) (by simp) (by simp) (by simp) (by first | rfl | simp) (by simp) ?_
    simp [c_s_l1Cur_anyGroup, r_s_l1Cur_anyGroup_0, r_s_l1Cur_anyGroup_1, r_s_l1Cur_anyGroup_2, r_s_l1Cur_anyGroup_3, r_s_l1Cur_anyGroup_4, r_s_l1Cur_anyGroup_13, c2]
    refine callQ_Mz [1000000] [11] (MCall.arg hM3 (by simp)) (by simp) (by simp) (by simp) (by simp) (by simp) (by first | rfl | simp) (by simp) ?_
    simp [c_s_l1Cur_anyGroup, r_s_l1Cur_anyGroup_0, r_s_l1Cur_anyGroup_1, r_s_l1Cur_anyGroup_2, r_s_l1Cur_anyGroup_3, r_s_l1Cur_anyGroup_4, r_s_l1Cur_anyGroup_13, c2]
  · by_cases c3 : v1 = 1
    · obtain ⟨v4, k5, s5, ⟨hv4, hk4⟩, hM4⟩ := s_l1Cur_among code k2 s2 [0, 9, 3, 4] (by omega) (by simp) (by simp)
      refine ⟨⟨v0.count, v4, v0.attitude, v0.tincture⟩, k5, s5, by omega, ?_⟩
      refine MCall.of fn_s_l1Cur_anyGroup (by simp) rfl (by simp) ?_
      simp [c_s_l1Cur_anyGroup, r_s_l1Cur_anyGroup_0, r_s_l1Cur_anyGroup_1, r_s_l1Cur_anyGroup_2, r_s_l1Cur_anyGroup_3, r_s_l1Cur_anyGroup_5, r_s_l1Cur_anyGroup_6, r_s_l1Cur_anyGroup_13, c2, c3]
      refine callQ_Mz [1000000] [] (MCall.arg hM0 (by simp)) (by simp) (by simp) (by simp) (by simp) (by simp) (by first | rfl | simp) (by simp) ?_
      simp [c_s_l1Cur_anyGroup, r_s_l1Cur_anyGroup_0, r_s_l1Cur_anyGroup_1, r_s_l1Cur_anyGroup_2, r_s_l1Cur_anyGroup_3, r_s_l1Cur_anyGroup_5, r_s_l1Cur_anyGroup_6, r_s_l1Cur_anyGroup_13, c2, c3]
      refine callQ_Mz [1000000] [] (MCall.arg hM1 (by simp)) (by simp) (by simp) (by simp) (by simp) (by simp) (by first | rfl | simp) (by simp) ?_
      simp [c_s_l1Cur_anyGroup, r_s_l1Cur_anyGroup_0, r_s_l1Cur_anyGroup_1, r_s_l1Cur_anyGroup_2, r_s_l1Cur_anyGroup_3, r_s_l1Cur_anyGroup_5, r_s_l1Cur_anyGroup_6, r_s_l1Cur_anyGroup_13, c2, c3]
      refine callQ_Mz [1000000] [17] (MCall.arg hM4 (by simp)) (by simp) (by simp) (by simp) (by simp) (by simp) (by first | rfl | simp) (by simp) ?_
      simp [c_s_l1Cur_anyGroup, r_s_l1Cur_anyGroup_0, r_s_l1Cur_anyGroup_1, r_s_l1Cur_anyGroup_2, r_s_l1Cur_anyGroup_3, r_s_l1Cur_anyGroup_5, r_s_l1Cur_anyGroup_6, r_s_l1Cur_anyGroup_13, c2, c3]
    · by_cases c4 : v1 = 2
      · obtain ⟨v5, k6, s6, ⟨hv5, hk5⟩, hM5⟩ := s_l1Cur_among code k2 s2 [0, 1, 2, 3, -1] (by omega) (by simp) (by simp)
        refine ⟨⟨v0.count, v0.kind, v5, v0.tincture⟩, k6, s6, by omega, ?_⟩
        refine MCall.of fn_s_l1Cur_anyGroup (by simp) rfl (by simp) ?_
        simp [c_s_l1Cur_anyGroup, r_s_l1Cur_anyGroup_0, r_s_l1Cur_anyGroup_1, r_s_l1Cur_anyGroup_2, r_s_l1Cur_anyGroup_3, r_s_l1Cur_anyGroup_5, r_s_l1Cur_anyGroup_7, r_s_l1Cur_anyGroup_8, r_s_l1Cur_anyGroup_13, c2, c3, c4]
        refine callQ_Mz [1000000] [] (MCall.arg hM0 (by simp)) (by simp) (by simp) (by simp) (by simp) (by simp) (by first | rfl | simp) (by simp) ?_
        simp [c_s_l1Cur_anyGroup, r_s_l1Cur_anyGroup_0, r_s_l1Cur_anyGroup_1, r_s_l1Cur_anyGroup_2, r_s_l1Cur_anyGroup_3, r_s_l1Cur_anyGroup_5, r_s_l1Cur_anyGroup_7, r_s_l1Cur_anyGroup_8, r_s_l1Cur_anyGroup_13, c2, c3, c4]
        refine callQ_Mz [1000000] [] (MCall.arg hM1 (by simp)) (by simp) (by simp) (by simp) (by simp) (by simp) (by first | rfl | simp) (by simp) ?_
        simp [c_s_l1Cur_anyGroup, r_s_l1Cur_anyGroup_0, r_s_l1Cur_anyGroup_1, r_s_l1Cur_anyGroup_2, r_s_l1Cur_anyGroup_3, r_s_l1Cur_anyGroup_5, r_s_l1Cur_anyGroup_7, r_s_l1Cur_anyGroup_8, r_s_l1Cur_anyGroup_13, c2, c3, c4]
        refine callQ_Mz [1000000] [23] (MCall.arg hM5 (by simp)) (by simp) (by simp) (by simp) (by simp) (by simp) (by first | rfl | simp) (by simp) ?_
        simp [c_s_l1Cur_anyGroup, r_s_l1Cur_anyGroup_0, r_s_l1Cur_anyGroup_1, r_s_l1Cur_anyGroup_2, r_s_l1Cur_anyGroup_3, r_s_l1Cur_anyGroup_5, r_s_l1Cur_anyGroup_7, r_s_l1Cur_anyGroup_8, r_s_l1Cur_anyGroup_13, c2, c3, c4]
      · by_cases c5 : v1 = 3
        · obtain ⟨v6, k7, s7, ⟨hv6, hk6⟩, hM6⟩ := s_l1Cur_among code k2 s2 [0, 10] (by omega) (by simp) (by simp)
          refine ⟨⟨v0.count, v0.kind, v0.attitude, v6⟩, k7, s7, by omega, ?_⟩
          refine MCall.of fn_s_l1Cur_anyGroup (by simp) rfl (by simp) ?_
          simp [c_s_l1Cur_anyGroup, r_s_l1Cur_anyGroup_0, r_s_l1Cur_anyGroup_1, r_s_l1Cur_anyGroup_2, r_s_l1Cur_anyGroup_3, r_s_l1Cur_anyGroup_5, r_s_l1Cur_anyGroup_7, r_s_l1Cur_anyGroup_9, r_s_l1Cur_anyGroup_10, r_s_l1Cur_anyGroup_13, c2, c3, c4, c5]
          refine callQ_Mz [1000000] [] (MCall.arg hM0 (by simp)) (by simp) (by simp) (by simp) (by simp) (by simp) (by first | rfl | simp) (by simp) ?_
          simp [c_s_l1Cur_anyGroup, r_s_l1Cur_anyGroup_0, r_s_l1Cur_anyGroup_1, r_s_l1Cur_anyGroup_2, r_s_l1Cur_anyGroup_3, r_s_l1Cur_anyGroup_5, r_s_l1Cur_anyGroup_7, r_s_l1Cur_anyGroup_9, r_s_l1Cur_anyGroup_10, r_s_l1Cur_anyGroup_13, c2, c3, c4, c5]
          refine callQ_Mz [1000000] [] (MCall.arg hM1 (by simp)) (by simp) (by simp) (by simp) (by simp) (by simp) (by first | rfl | simp) (by simp) ?_
          simp [c_s_l1Cur_anyGroup, r_s_l1Cur_anyGroup_0, r_s_l1Cur_anyGroup_1, r_s_l1Cur_anyGroup_2, r_s_l1Cur_anyGroup_3, r_s_l1Cur_anyGroup_5, r_s_l1Cur_anyGroup_7, r_s_l1Cur_anyGroup_9, r_s_l1Cur_anyGroup_10, r_s_l1Cur_anyGroup_13, c2, c3, c4, c5]
          refine callQ_Mz [1000000] [29] (MCall.arg hM6 (by simp)) (by simp) (by simp) (by simp) (by simp) (by simp) (by first | rfl | simp) (by simp) ?_
          simp [c_s_l1Cur_anyGroup, r_s_l1Cur_anyGroup_0, r_s_l1Cur_anyGroup_1, r_s_l1Cur_anyGroup_2, r_s_l1Cur_anyGroup_3, r_s_l1Cur_anyGroup_5, r_s_l1Cur_anyGroup_7, r_s_l1Cur_anyGroup_9, r_s_l1Cur_anyGroup_10, r_s_l1Cur_anyGroup_13, c2, c3, c4, c5]
        · by_cases c6 : v1 = 4
          · refine ⟨⟨0, 0, 0, 0⟩, k2, s2, by omega, ?_⟩
            refine MCall.of fn_s_l1Cur_anyGroup (by simp) rfl (by simp) ?_
            simp [c_s_l1Cur_anyGroup, r_s_l1Cur_anyGroup_0, r_s_l1Cur_anyGroup_1, r_s_l1Cur_anyGroup_2, r_s_l1Cur_anyGroup_3, r_s_l1Cur_anyGroup_5, r_s_l1Cur_anyGroup_7, r_s_l1Cur_anyGroup_9, r_s_l1Cur_anyGroup_11, r_s_l1Cur_anyGroup_12, c2, c3, c4, c5, c6]
            refine callQ_Mz [1000000] [] (MCall.arg hM0 (by simp)) (by simp) (by simp) (by simp) (by simp) (by simp) (by first | rfl | simp) (by simp) ?_
            simp [c_s_l1Cur_anyGroup, r_s_l1Cur_anyGroup_0, r_s_l1Cur_anyGroup_1, r_s_l1Cur_anyGroup_2, r_s_l1Cur_anyGroup_3, r_s_l1Cur_anyGroup_5, r_s_l1Cur_anyGroup_7, r_s_l1Cur_anyGroup_9, r_s_l1Cur_anyGroup_11, r_s_l1Cur_anyGroup_12, c2, c3, c4, c5, c6]
            refine callQ_Mz [1000000] [] (MCall.arg hM1 (by simp)) (by simp) (by simp) (by simp) (by simp) (by simp) (by first | rfl | simp) (by simp) ?_
            simp [c_s_l1Cur_anyGroup, r_s_l1Cur_anyGroup_0, r_s_l1Cur_anyGroup_1, r_s_l1Cur_anyGroup_2, r_s_l1Cur_anyGroup_3, r_s_l1Cur_anyGroup_5, r_s_l1Cur_anyGroup_7, r_s_l1Cur_anyGroup_9, r_s_l1Cur_anyGroup_11, r_s_l1Cur_anyGroup_12, c2, c3, c4, c5, c6]
          · refine ⟨⟨v0.count, v0.kind, v0.attitude, v0.tincture⟩, k2, s2, by omega, ?_⟩
            refine MCall.of fn_s_l1Cur_anyGroup (by simp) rfl (by simp) ?_
            simp [c_s_l1Cur_anyGroup, r_s_l1Cur_anyGroup_0, r_s_l1Cur_anyGroup_1, r_s_l1Cur_anyGroup_2, r_s_l1Cur_anyGroup_3, r_s_l1Cur_anyGroup_5, r_s_l1Cur_anyGroup_7, r_s_l1Cur_anyGroup_9, r_s_l1Cur_anyGroup_11, r_s_l1Cur_anyGroup_13, c2, c3, c4, c5, c6]
            refine callQ_Mz [1000000] [] (MCall.arg hM0 (by simp)) (by simp) (by simp) (by simp) (by simp) (by simp) (by first | rfl | simp) (by simp) ?_
            simp [c_s_l1Cur_anyGroup, r_s_l1Cur_anyGroup_0, r_s_l1Cur_anyGroup_1, r_s_l1Cur_anyGroup_2, r_s_l1Cur_anyGroup_3, r_s_l1Cur_anyGroup_5, r_s_l1Cur_anyGroup_7, r_s_l1Cur_anyGroup_9, r_s_l1Cur_anyGroup_11, r_s_l1Cur_anyGroup_13, c2, c3, c4, c5, c6]
            refine callQ_Mz [1000000] [] (MCall.arg hM1 (by simp)) (by simp) (by simp) (by simp) (by simp) (by simp) (by first | rfl | simp) (by simp) ?_
            simp [c_s_l1Cur_anyGroup, r_s_l1Cur_anyGroup_0, r_s_l1Cur_anyGroup_1, r_s_l1Cur_anyGroup_2, r_s_l1Cur_anyGroup_3, r_s_l1Cur_anyGroup_5, r_s_l1Cur_anyGroup_7, r_s_l1Cur_anyGroup_9, r_s_l1Cur_anyGroup_11, r_s_l1Cur_anyGroup_13, c2, c3, c4, c5, c6]
set_option maxHeartbeats 4000000 in
theorem s_l1Cur_arms (code : List UInt8) (k : Nat) (s : Int) (hk : k ≤ 1000000000) : ∃ (r0 : Arms) (k' : Nat) (s' : Int), (k ≤ k' ∧ k' ≤ k + 38) ∧ MCall Tryz.prog n_s_l1Cur_arms [curB code k s] [cR] (eArms r0) [some (curB code k' s')] := by
  obtain ⟨v0, k1, s1, hk0, hM0⟩ := s_l1Cur_field code k s (by omega)
  obtain ⟨v1, k2, s2, hk1, hM1⟩ := s_l1Cur_one code k1 s1 3 (by omega) (by omega)
  cases v1 with
  | true =>
    obtain ⟨v3, k4, s4, hk3, hM3⟩ := s_l1Cur_one code k2 s2 3 (by omega) (by omega)
    cases v3 with
    | true =>
      refine ⟨⟨⟨v0.division, v0.line, v0.first, v0.second⟩, 0, 0, 0, ⟨0, 0, 0, 0⟩, ⟨0, 0, 0, 0⟩⟩, k4, s4, by omega, ?_⟩
      refine MCall.of fn_s_l1Cur_arms (by simp) rfl (by simp) ?_
      simp [c_s_l1Cur_arms, r_s_l1Cur_arms_0, r_s_l1Cur_arms_1, r_s_l1Cur_arms_2, r_s_l1Cur_arms_8, r_s_l1Cur_arms_10]
      refine callQ_Mz [1000000] [] (MCall.arg hM0 (by simp)) (by simp) (by simp) (by simp) (by simp) (by simp) (by first | rfl | simp) (by simp) ?_
      simp [c_s_l1Cur_arms, r_s_l1Cur_arms_0, r_s_l1Cur_arms_1, r_s_l1Cur_arms_2, r_s_l1Cur_arms_8, r_s_l1Cur_arms_10]
      refine callQ_Mz [1000000] [] (MCall.arg hM1 (by simp)) (by simp) (by simp) (by simp) (by simp) (by simp) (by first | rfl | simp) (by simp) ?_
      simp [c_s_l1Cur_arms, r_s_l1Cur_arms_0, r_s_l1Cur_arms_1, r_s_l1Cur_arms_2, r_s_l1Cur_arms_8, r_s_l1Cur_arms_10]
      refine callQ_Mz [1000000] [] (MCall.arg hM3 (by simp)) (by simp) (by simp) (by simp) (by simp) (by simp) (by first | rfl | simp) (by simp) ?_
      simp [c_s_l1Cur_arms, r_s_l1Cur_arms_0, r_s_l1Cur_arms_1, r_s_l1Cur_arms_2, r_s_l1Cur_arms_8, r_s_l1Cur_arms_10]
    | false =>
      obtain ⟨v5, k6, s6, hk5, hM5⟩ := s_l1Cur_group code k4 s4 (by omega)
      refine ⟨⟨⟨v0.division, v0.line, v0.first, v0.second⟩, 0, 0, 0, ⟨0, 0, 0, 0⟩, ⟨v5.count, v5.kind, v5.attitude, v5.tincture⟩⟩, k6, s6, by omega, ?_⟩
      refine MCall.of fn_s_l1Cur_arms (by simp) rfl (by simp) ?_
      simp [c_s_l1Cur_arms, r_s_l1Cur_arms_0, r_s_l1Cur_arms_1, r_s_l1Cur_arms_2, r_s_l1Cur_arms_8, r_s_l1Cur_arms_9, r_s_l1Cur_arms_10]
      refine callQ_Mz [1000000] [] (MCall.arg hM0 (by simp)) (by simp) (by simp) (by simp) (by simp) (by simp) (by first | rfl | simp) (by simp) ?_
      simp [c_s_l1Cur_arms, r_s_l1Cur_arms_0, r_s_l1Cur_arms_1, r_s_l1Cur_arms_2, r_s_l1Cur_arms_8, r_s_l1Cur_arms_9, r_s_l1Cur_arms_10]
      refine callQ_Mz [1000000] [] (MCall.arg hM1 (by simp)) (by simp) (by simp) (by simp) (by simp) (by simp) (by first | rfl | simp) (by simp) ?_
      simp [c_s_l1Cur_arms, r_s_l1Cur_arms_0, r_s_l1Cur_arms_1, r_s_l1Cur_arms_2, r_s_l1Cur_arms_8, r_s_l1Cur_arms_9, r_s_l1Cur_arms_10]
      refine callQ_Mz [1000000] [] (MCall.arg hM3 (by simp)) (by simp) (by simp) (by simp) (by simp) (by simp) (by first | rfl | simp) (by simp) ?_
      simp [c_s_l1Cur_arms, r_s_l1Cur_arms_0, r_s_l1Cur_arms_1, r_s_l1Cur_arms_2, r_s_l1Cur_arms_8, r_s_l1Cur_arms_9, r_s_l1Cur_arms_10]
      refine callQ_Mz [1000000] [] (MCall.arg hM5 (by simp)) (by simp) (by simp) (by simp) (by simp) (by simp) (by first | rfl | simp) (by simp) ?_
      simp [c_s_l1Cur_arms, r_s_l1Cur_arms_0, r_s_l1Cur_arms_1, r_s_l1Cur_arms_2, r_s_l1Cur_arms_8, r_s_l1Cur_arms_9, r_s_l1Cur_arms_10]
  | false =>
    obtain ⟨v3, k4, s4, ⟨hv3, hk3⟩, hM3⟩ := s_l1Cur_pick code k2 s2 7 (by omega) (by omega)
    obtain ⟨v4, k5, s5, ⟨hv4, hk4⟩, hM4⟩ := s_l1Cur_among code k4 s4 [0, 0, 0, 1, 2, 3, 4] (by omega) (by simp) (by simp)
    obtain ⟨v5, k6, s6, ⟨hv5, hk5⟩, hM5⟩ := s_l1Cur_tincture code k5 s5 (by omega)
    obtain ⟨v6, k7, s7, hk6, hM6⟩ := s_l1Cur_one code k6 s6 3 (by omega) (by omega)
    cases v6 with
    | true =>
      obtain ⟨v8, k9, s9, hk8, hM8⟩ := s_l1Cur_group code k7 s7 (by omega)
      obtain ⟨v9, k10, s10, hk9, hM9⟩ := s_l1Cur_one code k9 s9 3 (by omega) (by omega)
      cases v9 with
      | true =>
        refine ⟨⟨⟨v0.division, v0.line, v0.first, v0.second⟩, (IntKind.i64.wrap (1 + v3)), v4, v5, ⟨v8.count, v8.kind, v8.attitude, v8.tincture⟩, ⟨0, 0, 0, 0⟩⟩, k10, s10, by omega, ?_⟩
        refine MCall.of fn_s_l1Cur_arms (by simp) rfl (by simp) ?_
        simp [c_s_l1Cur_arms, r_s_l1Cur_arms_0, r_s_l1Cur_arms_1, r_s_l1Cur_arms_2, r_s_l1Cur_arms_3, r_s_l1Cur_arms_4, r_s_l1Cur_arms_5, r_s_l1Cur_arms_6, r_s_l1Cur_arms_7, r_s_l1Cur_arms_8, r_s_l1Cur_arms_10]
        refine callQ_Mz [1000000] [] (MCall.arg hM0 (by simp)) (by simp) (by simp) (by simp) (by simp) (by simp) (by first | rfl | simp) (by simp) ?_
        simp [c_s_l1Cur_arms, r_s_l1Cur_arms_0, r_s_l1Cur_arms_1, r_s_l1Cur_arms_2, r_s_l1Cur_arms_3, r_s_l1Cur_arms_4, r_s_l1Cur_arms_5, r_s_l1Cur_arms_6, r_s_l1Cur_arms_7, r_s_l1Cur_arms_8, r_s_l1Cur_arms_10]
        refine callQ_Mz [1000000] [] (MCall.arg hM1 (by simp)) (by simp) (by simp) (by simp) (by simp) (by simp) (by first | rfl | simp) (by simp) ?_
        simp [c_s_l1Cur_arms, r_s_l1Cur_arms_0, r_s_l1Cur_arms_1, r_s_l1Cur_arms_2, r_s_l1Cur_arms_3, r_s_l1Cur_arms_4, r_s_l1Cur_arms_5, r_s_l1Cur_arms_6, r_s_l1Cur_arms_7, r_s_l1Cur_arms_8, r_s_l1Cur_arms_10]
        refine callQ_Mz [1000000] [] (MCall.arg hM3 (by simp)) (by simp) (by simp) (by simp) (by simp) (by simp) (by first | rfl | simp) (by simp) ?_
        simp [c_s_l1Cur_arms, r_s_l1Cur_arms_0, r_s_l1Cur_arms_1, r_s_l1Cur_arms_2, r_s_l1Cur_arms_3, r_s_l1Cur_arms_4, r_s_l1Cur_arms_5, r_s_l1Cur_arms_6, r_s_l1Cur_arms_7, r_s_l1Cur_arms_8, r_s_l1Cur_arms_10]
        refine callQ_Mz [1000000] [15] (MCall.arg hM4 (by simp)) (by simp) (by simp) (by simp) (by simp) (by simp) (by first | rfl | simp) (by simp) ?_
        simp [c_s_l1Cur_arms, r_s_l1Cur_arms_0, r_s_l1Cur_arms_1, r_s_l1Cur_arms_2, r_s_l1Cur_arms_3, r_s_l1Cur_arms_4, r_s_l1Cur_arms_5, r_s_l1Cur_arms_6, r_s_l1Cur_arms_7, r_s_l1Cur_arms_8, r_s_l1Cur_arms_10]
        refine callQ_Mz [1000000] [] (MCall.arg hM5 (by simp)) (by simp) (by simp) (by simp) (by simp) (by simp) (by first | rfl | simp) (by simp) ?_
        simp [c_s_l1Cur_arms, r_s_l1Cur_arms_0, r_s_l1Cur_arms_1, r_s_l1Cur_arms_2, r_s_l1Cur_arms_3, r_s_l1Cur_arms_4, r_s_l1Cur_arms_5, r_s_l1Cur_arms_6, r_s_l1Cur_arms_7, r_s_l1Cur_arms_8, r_s_l1Cur_arms_10]
        refine callQ_Mz [1000000] [] (MCall.arg hM6 (by simp)) (by simp) (by simp) (by simp) (by simp) (by simp) (by first | rfl | simp) (by simp) ?_
        simp [c_s_l1Cur_arms, r_s_l1Cur_arms_0, r_s_l1Cur_arms_1, r_s_l1Cur_arms_2, r_s_l1Cur_arms_3, r_s_l1Cur_arms_4, r_s_l1Cur_arms_5, r_s_l1Cur_arms_6, r_s_l1Cur_arms_7, r_s_l1Cur_arms_8, r_s_l1Cur_arms_10]
        refine callQ_Mz [1000000] [] (MCall.arg hM8 (by simp)) (by simp) (by simp) (by simp) (by simp) (by simp) (by first | rfl | simp) (by simp) ?_
        simp [c_s_l1Cur_arms, r_s_l1Cur_arms_0, r_s_l1Cur_arms_1, r_s_l1Cur_arms_2, r_s_l1Cur_arms_3, r_s_l1Cur_arms_4, r_s_l1Cur_arms_5, r_s_l1Cur_arms_6, r_s_l1Cur_arms_7, r_s_l1Cur_arms_8, r_s_l1Cur_arms_10]
        refine callQ_Mz [1000000] [] (MCall.arg hM9 (by simp)) (by simp) (by simp) (by simp) (by simp) (by simp) (by first | rfl | simp) (by simp) ?_
        simp [c_s_l1Cur_arms, r_s_l1Cur_arms_0, r_s_l1Cur_arms_1, r_s_l1Cur_arms_2, r_s_l1Cur_arms_3, r_s_l1Cur_arms_4, r_s_l1Cur_arms_5, r_s_l1Cur_arms_6, r_s_l1Cur_arms_7, r_s_l1Cur_arms_8, r_s_l1Cur_arms_10]
      | false =>
        obtain ⟨v11, k12, s12, hk11, hM11⟩ := s_l1Cur_group code k10 s10 (by omega)
        refine ⟨⟨⟨v0.division, v0.line, v0.first, v0.second⟩, (IntKind.i64.wrap (1 + v3)), v4, v5, ⟨v8.count, v8.kind, v8.attitude, v8.tincture⟩, ⟨v11.count, v11.kind, v11.attitude, v11.tincture⟩⟩, k12, s12, by omega, ?_⟩
        refine MCall.of fn_s_l1Cur_arms (by simp) rfl (by simp) ?_
        simp [c_s_l1Cur_arms, r_s_l1Cur_arms_0, r_s_l1Cur_arms_1, r_s_l1Cur_arms_2, r_s_l1Cur_arms_3, r_s_l1Cur_arms_4, r_s_l1Cur_arms_5, r_s_l1Cur_arms_6, r_s_l1Cur_arms_7, r_s_l1Cur_arms_8, r_s_l1Cur_arms_9, r_s_l1Cur_arms_10]
        refine callQ_Mz [1000000] [] (MCall.arg hM0 (by simp)) (by simp) (by simp) (by simp) (by simp) (by simp) (by first | rfl | simp) (by simp) ?_
        simp [c_s_l1Cur_arms, r_s_l1Cur_arms_0, r_s_l1Cur_arms_1, r_s_l1Cur_arms_2, r_s_l1Cur_arms_3, r_s_l1Cur_arms_4, r_s_l1Cur_arms_5, r_s_l1Cur_arms_6, r_s_l1Cur_arms_7, r_s_l1Cur_arms_8, r_s_l1Cur_arms_9, r_s_l1Cur_arms_10]
        refine callQ_Mz [1000000] [] (MCall.arg hM1 (by simp)) (by simp) (by simp) (by simp) (by simp) (by simp) (by first | rfl | simp) (by simp) ?_
        simp [c_s_l1Cur_arms, r_s_l1Cur_arms_0, r_s_l1Cur_arms_1, r_s_l1Cur_arms_2, r_s_l1Cur_arms_3, r_s_l1Cur_arms_4, r_s_l1Cur_arms_5, r_s_l1Cur_arms_6, r_s_l1Cur_arms_7, r_s_l1Cur_arms_8, r_s_l1Cur_arms_9, r_s_l1Cur_arms_10]
        refine callQ_Mz [1000000] [] (MCall.arg hM3 (by simp)) (by simp) (by simp) (by simp) (by simp) (by simp) (by first | rfl | simp) (by simp) ?_
        simp [c_s_l1Cur_arms, r_s_l1Cur_arms_0, r_s_l1Cur_arms_1, r_s_l1Cur_arms_2, r_s_l1Cur_arms_3, r_s_l1Cur_arms_4, r_s_l1Cur_arms_5, r_s_l1Cur_arms_6, r_s_l1Cur_arms_7, r_s_l1Cur_arms_8, r_s_l1Cur_arms_9, r_s_l1Cur_arms_10]
        refine callQ_Mz [1000000] [15] (MCall.arg hM4 (by simp)) (by simp) (by simp) (by simp) (by simp) (by simp) (by first | rfl | simp) (by simp) ?_
        simp [c_s_l1Cur_arms, r_s_l1Cur_arms_0, r_s_l1Cur_arms_1, r_s_l1Cur_arms_2, r_s_l1Cur_arms_3, r_s_l1Cur_arms_4, r_s_l1Cur_arms_5, r_s_l1Cur_arms_6, r_s_l1Cur_arms_7, r_s_l1Cur_arms_8, r_s_l1Cur_arms_9, r_s_l1Cur_arms_10]
        refine callQ_Mz [1000000] [] (MCall.arg hM5 (by simp)) (by simp) (by simp) (by simp) (by simp) (by simp) (by first | rfl | simp) (by simp) ?_
        simp [c_s_l1Cur_arms, r_s_l1Cur_arms_0, r_s_l1Cur_arms_1, r_s_l1Cur_arms_2, r_s_l1Cur_arms_3, r_s_l1Cur_arms_4, r_s_l1Cur_arms_5, r_s_l1Cur_arms_6, r_s_l1Cur_arms_7, r_s_l1Cur_arms_8, r_s_l1Cur_arms_9, r_s_l1Cur_arms_10]
        refine callQ_Mz [1000000] [] (MCall.arg hM6 (by simp)) (by simp) (by simp) (by simp) (by simp) (by simp) (by first | rfl | simp) (by simp) ?_
        simp [c_s_l1Cur_arms, r_s_l1Cur_arms_0, r_s_l1Cur_arms_1, r_s_l1Cur_arms_2, r_s_l1Cur_arms_3, r_s_l1Cur_arms_4, r_s_l1Cur_arms_5, r_s_l1Cur_arms_6, r_s_l1Cur_arms_7, r_s_l1Cur_arms_8, r_s_l1Cur_arms_9, r_s_l1Cur_arms_10]
        refine callQ_Mz [1000000] [] (MCall.arg hM8 (by simp)) (by simp) (by simp) (by simp) (by simp) (by simp) (by first | rfl | simp) (by simp) ?_
        simp [c_s_l1Cur_arms, r_s_l1Cur_arms_0, r_s_l1Cur_arms_1, r_s_l1Cur_arms_2, r_s_l1Cur_arms_3, r_s_l1Cur_arms_4, r_s_l1Cur_arms_5, r_s_l1Cur_arms_6, r_s_l1Cur_arms_7, r_s_l1Cur_arms_8, r_s_l1Cur_arms_9, r_s_l1Cur_arms_10]
        refine callQ_Mz [1000000] [] (MCall.arg hM9 (by simp)) (by simp) (by simp) (by simp) (by simp) (by simp) (by first | rfl | simp) (by simp) ?_
        simp [c_s_l1Cur_arms, r_s_l1Cur_arms_0, r_s_l1Cur_arms_1, r_s_l1Cur_arms_2, r_s_l1Cur_arms_3, r_s_l1Cur_arms_4, r_s_l1Cur_arms_5, r_s_l1Cur_arms_6, r_s_l1Cur_arms_7, r_s_l1Cur_arms_8, r_s_l1Cur_arms_9, r_s_l1Cur_arms_10]
        refine callQ_Mz [1000000] [] (MCall.arg hM11 (by simp)) (by simp) (by simp) (by simp) (by simp) (by simp) (by first | rfl | simp) (by simp) ?_
        simp [c_s_l1Cur_arms, r_s_l1Cur_arms_0, r_s_l1Cur_arms_1, r_s_l1Cur_arms_2, r_s_l1Cur_arms_3, r_s_l1Cur_arms_4, r_s_l1Cur_arms_5, r_s_l1Cur_arms_6, r_s_l1Cur_arms_7, r_s_l1Cur_arms_8, r_s_l1Cur_arms_9, r_s_l1Cur_arms_10]
    | false =>
      obtain ⟨v8, k9, s9, hk8, hM8⟩ := s_l1Cur_one code k7 s7 3 (by omega) (by omega)
      cases v8 with
      | true =>
        refine ⟨⟨⟨v0.division, v0.line, v0.first, v0.second⟩, (IntKind.i64.wrap (1 + v3)), v4, v5, ⟨0, 0, 0, 0⟩, ⟨0, 0, 0, 0⟩⟩, k9, s9, by omega, ?_⟩
        refine MCall.of fn_s_l1Cur_arms (by simp) rfl (by simp) ?_
        simp [c_s_l1Cur_arms, r_s_l1Cur_arms_0, r_s_l1Cur_arms_1, r_s_l1Cur_arms_2, r_s_l1Cur_arms_3, r_s_l1Cur_arms_4, r_s_l1Cur_arms_5, r_s_l1Cur_arms_6, r_s_l1Cur_arms_8, r_s_l1Cur_arms_10]
        refine callQ_Mz [1000000] [] (MCall.arg hM0 (by simp)) (by simp) (by simp) (by simp) (by simp) (by simp) (by first | rfl | simp) (by simp) ?_
        simp [c_s_l1Cur_arms, r_s_l1Cur_arms_0, r_s_l1Cur_arms_1, r_s_l1Cur_arms_2, r_s_l1Cur_arms_3, r_s_l1Cur_arms_4, r_s_l1Cur_arms_5, r_s_l1Cur_arms_6, r_s_l1Cur_arms_8, r_s_l1Cur_arms_10]
        refine callQ_Mz [1000000] [] (MCall.arg hM1 (by simp)) (by simp) (by simp) (by simp) (by simp) (by simp) (by first | rfl | simp) (by simp) ?_
        simp [c_s_l1Cur_arms, r_s_l1Cur_arms_0, r_s_l1Cur_arms_1, r_s_l1Cur_arms_2, r_s_l1Cur_arms_3, r_s_l1Cur_arms_4, r_s_l1Cur_arms_5, r_s_l1Cur_arms_6, r_s_l1Cur_arms_8, r_s_l1Cur_arms_10]
        refine callQ_Mz [1000000] [] (MCall.arg hM3 (by simp)) (by simp) (by simp) (by simp) (by simp) (by simp) (by first | rfl | simp) (by simp) ?_
        simp [c_s_l1Cur_arms, r_s_l1Cur_arms_0, r_s_l1Cur_arms_1, r_s_l1Cur_arms_2, r_s_l1Cur_arms_3, r_s_l1Cur_arms_4, r_s_l1Cur_arms_5, r_s_l1Cur_arms_6, r_s_l1Cur_arms_8, r_s_l1Cur_arms_10]
        refine callQ_Mz [1000000] [15] (MCall.arg hM4 (by simp)) (by simp) (by simp) (by simp) (by simp) (by simp) (by first | rfl | simp) (by simp) ?_
        simp [c_s_l1Cur_arms, r_s_l1Cur_arms_0, r_s_l1Cur_arms_1, r_s_l1Cur_arms_2, r_s_l1Cur_arms_3, r_s_l1Cur_arms_4, r_s_l1Cur_arms_5, r_s_l1Cur_arms_6, r_s_l1Cur_arms_8, r_s_l1Cur_arms_10]
        refine callQ_Mz [1000000] [] (MCall.arg hM5 (by simp)) (by simp) (by simp) (by simp) (by simp) (by simp) (by first | rfl | simp) (by simp) ?_
        simp [c_s_l1Cur_arms, r_s_l1Cur_arms_0, r_s_l1Cur_arms_1, r_s_l1Cur_arms_2, r_s_l1Cur_arms_3, r_s_l1Cur_arms_4, r_s_l1Cur_arms_5, r_s_l1Cur_arms_6, r_s_l1Cur_arms_8, r_s_l1Cur_arms_10]
        refine callQ_Mz [1000000] [] (MCall.arg hM6 (by simp)) (by simp) (by simp) (by simp) (by simp) (by simp) (by first | rfl | simp) (by simp) ?_
        simp [c_s_l1Cur_arms, r_s_l1Cur_arms_0, r_s_l1Cur_arms_1, r_s_l1Cur_arms_2, r_s_l1Cur_arms_3, r_s_l1Cur_arms_4, r_s_l1Cur_arms_5, r_s_l1Cur_arms_6, r_s_l1Cur_arms_8, r_s_l1Cur_arms_10]
        refine callQ_Mz [1000000] [] (MCall.arg hM8 (by simp)) (by simp) (by simp) (by simp) (by simp) (by simp) (by first | rfl | simp) (by simp) ?_
        simp [c_s_l1Cur_arms, r_s_l1Cur_arms_0, r_s_l1Cur_arms_1, r_s_l1Cur_arms_2, r_s_l1Cur_arms_3, r_s_l1Cur_arms_4, r_s_l1Cur_arms_5, r_s_l1Cur_arms_6, r_s_l1Cur_arms_8, r_s_l1Cur_arms_10]
      | false =>
        obtain ⟨v10, k11, s11, hk10, hM10⟩ := s_l1Cur_group code k9 s9 (by omega)
        refine ⟨⟨⟨v0.division, v0.line, v0.first, v0.second⟩, (IntKind.i64.wrap (1 + v3)), v4, v5, ⟨0, 0, 0, 0⟩, ⟨v10.count, v10.kind, v10.attitude, v10.tincture⟩⟩, k11, s11, by omega, ?_⟩
        refine MCall.of fn_s_l1Cur_arms (by simp) rfl (by simp) ?_
        simp [c_s_l1Cur_arms, r_s_l1Cur_arms_0, r_s_l1Cur_arms_1, r_s_l1Cur_arms_2, r_s_l1Cur_arms_3, r_s_l1Cur_arms_4, r_s_l1Cur_arms_5, r_s_l1Cur_arms_6, r_s_l1Cur_arms_8, r_s_l1Cur_arms_9, r_s_l1Cur_arms_10]
        refine callQ_Mz [1000000] [] (MCall.arg hM0 (by simp)) (by simp) (by simp) (by simp) (by simp) (by simp) (by first | rfl | simp) (by simp) ?_
        simp [c_s_l1Cur_arms, r_s_l1Cur_arms_0, r_s_l1Cur_arms_1, r_s_l1Cur_arms_2, r_s_l1Cur_arms_3, r_s_l1Cur_arms_4, r_s_l1Cur_arms_5, r_s_l1Cur_arms_6, r_s_l1Cur_arms_8, r_s_l1Cur_arms_9, r_s_l1Cur_arms_10]
        refine callQ_Mz [1000000] [] (MCall.arg hM1 (by simp)) (by simp) (by simp) (by simp) (by simp) (by simp) (by first | rfl | simp) (by simp) ?_
        simp [c_s_l1Cur_arms, r_s_l1Cur_arms_0, r_s_l1Cur_arms_1, r_s_l1Cur_arms_2, r_s_l1Cur_arms_3, r_s_l1Cur_arms_4, r_s_l1Cur_arms_5, r_s_l1Cur_arms_6, r_s_l1Cur_arms_8, r_s_l1Cur_arms_9, r_s_l1Cur_arms_10]
        refine callQ_Mz [1000000] [] (MCall.arg hM3 (by simp)) (by simp) (by simp) (by simp) (by simp) (by simp) (by first | rfl | simp) (by simp) ?_
        simp [c_s_l1Cur_arms, r_s_l1Cur_arms_0, r_s_l1Cur_arms_1, r_s_l1Cur_arms_2, r_s_l1Cur_arms_3, r_s_l1Cur_arms_4, r_s_l1Cur_arms_5, r_s_l1Cur_arms_6, r_s_l1Cur_arms_8, r_s_l1Cur_arms_9, r_s_l1Cur_arms_10]
        refine callQ_Mz [1000000] [15] (MCall.arg hM4 (by simp)) (by simp) (by simp) (by simp) (by simp) (by simp) (by first | rfl | simp) (by simp) ?_
        simp [c_s_l1Cur_arms, r_s_l1Cur_arms_0, r_s_l1Cur_arms_1, r_s_l1Cur_arms_2, r_s_l1Cur_arms_3, r_s_l1Cur_arms_4, r_s_l1Cur_arms_5, r_s_l1Cur_arms_6, r_s_l1Cur_arms_8, r_s_l1Cur_arms_9, r_s_l1Cur_arms_10]
        refine callQ_Mz [1000000] [] (MCall.arg hM5 (by simp)) (by simp) (by simp) (by simp) (by simp) (by simp) (by first | rfl | simp) (by simp) ?_
        simp [c_s_l1Cur_arms, r_s_l1Cur_arms_0, r_s_l1Cur_arms_1, r_s_l1Cur_arms_2, r_s_l1Cur_arms_3, r_s_l1Cur_arms_4, r_s_l1Cur_arms_5, r_s_l1Cur_arms_6, r_s_l1Cur_arms_8, r_s_l1Cur_arms_9, r_s_l1Cur_arms_10]
        refine callQ_Mz [1000000] [] (MCall.arg hM6 (by simp)) (by simp) (by simp) (by simp) (by simp) (by simp) (by first | rfl | simp) (by simp) ?_
        simp [c_s_l1Cur_arms, r_s_l1Cur_arms_0, r_s_l1Cur_arms_1, r_s_l1Cur_arms_2, r_s_l1Cur_arms_3, r_s_l1Cur_arms_4, r_s_l1Cur_arms_5, r_s_l1Cur_arms_6, r_s_l1Cur_arms_8, r_s_l1Cur_arms_9, r_s_l1Cur_arms_10]
        refine callQ_Mz [1000000] [] (MCall.arg hM8 (by simp)) (by simp) (by simp) (by simp) (by simp) (by simp) (by first | rfl | simp) (by simp) ?_
        simp [c_s_l1Cur_arms, r_s_l1Cur_arms_0, r_s_l1Cur_arms_1, r_s_l1Cur_arms_2, r_s_l1Cur_arms_3, r_s_l1Cur_arms_4, r_s_l1Cur_arms_5, r_s_l1Cur_arms_6, r_s_l1Cur_arms_8, r_s_l1Cur_arms_9, r_s_l1Cur_arms_10]
        refine callQ_Mz [1000000] [] (MCall.arg hM10 (by simp)) (by simp) (by simp) (by simp) (by simp) (by simp) (by first | rfl | simp) (by simp) ?_
        simp [c_s_l1Cur_arms, r_s_l1Cur_arms_0, r_s_l1Cur_arms_1, r_s_l1Cur_arms_2, r_s_l1Cur_arms_3, r_s_l1Cur_arms_4, r_s_l1Cur_arms_5, r_s_l1Cur_arms_6, r_s_l1Cur_arms_8, r_s_l1Cur_arms_9, r_s_l1Cur_arms_10]
set_option maxHeartbeats 4000000 in
theorem s_l1Cur_anyArms (code : List UInt8) (k : Nat) (s : Int) (hk : k ≤ 100000000) : ∃ (r0 : Arms) (k' : Nat) (s' : Int), (k ≤ k' ∧ k' ≤ k + 54) ∧ MCall Tryz.prog n_s_l1Cur_anyArms [curB code k s] [cR] (eArms r0) [some (curB code k' s')] := by
  obtain ⟨v0, k1, s1, hk0, hM0⟩ := s_l1Cur_arms code k s (by omega)
  obtain ⟨v1, k2, s2, ⟨hv1, hk1⟩, hM1⟩ := s_l1Cur_pick code k1 s1 24 (by omega) (by omega)
  by_cases c2 : v1 = 0
  · obtain ⟨v3, k4, s4, hk3, hM3⟩ := s_l1Cur_anyField code k2 s2 (by omega)
    refine ⟨⟨⟨v3.division, v3.line, v3.first, v3.second⟩, v0.ordinary, v0.line, v0.tincture, ⟨v0.on.count, v0.on.kind, v0.on.attitude, v0.on.tincture⟩, ⟨v0.around.count, v0.around.kind, v0.around.attitude, v0.around.tincture⟩⟩, k4, s4, by omega, ?_⟩
    refine MCall.of fn_s_l1Cur_anyArms (by simp) rfl (by simp) ?_
    simp [c_s_l1Cur_anyArms, r_s_l1Cur_anyArms_0, r_s_l1Cur_anyArms_1, r_s_l1Cur_anyArms_2, r_s_l1Cur_anyArms_3, r_s_l1Cur_anyArms_4, r_s_l1Cur_anyArms_15, c2]
    refine callQ_Mz [1000000] [] (MCall.arg hM0 (by simp)) (by simp) (by simp) (by simp) (by simp) (by simp) (by first | rfl | simp) (by simp) ?_
    simp [c_s_l1Cur_anyArms, r_s_l1Cur_anyArms_0, r_s_l1Cur_anyArms_1, r_s_l1Cur_anyArms_2, r_s_l1Cur_anyArms_3, r_s_l1Cur_anyArms_4, r_s_l1Cur_anyArms_15, c2]
    refine callQ_Mz [1000000] [] (MCall.arg hM1 (by simp)) (by simp) (by simp) (by simp) (by simp) (by simp) (by first | rfl | simp) (by simp) ?_
    simp [c_s_l1Cur_anyArms, r_s_l1Cur_anyArms_0, r_s_l1Cur_anyArms_1, r_s_l1Cur_anyArms_2, r_s_l1Cur_anyArms_3, r_s_l1Cur_anyArms_4, r_s_l1Cur_anyArms_15, c2]
    refine callQ_Mz [1000000] [] (MCall.arg hM3 (by simp)) (by simp) (by simp) (by simp) (by simp) (by simp) (by first | rfl | simp) (by simp) ?_
    simp [c_s_l1Cur_anyArms, r_s_l1Cur_anyArms_0, r_s_l1Cur_anyArms_1, r_s_l1Cur_anyArms_2, r_s_l1Cur_anyArms_3, r_s_l1Cur_anyArms_4, r_s_l1Cur_anyArms_15, c2]
  · by_cases c3 : v1 = 1
    · obtain ⟨v4, k5, s5, ⟨hv4, hk4⟩, hM4⟩ := s_l1Cur_among code k2 s2 [-1, 8, 0, 7] (by omega) (by simp) (by simp)
      refine ⟨⟨⟨v0.field.division, v0.field.line, v0.field.first, v0.field.second⟩, v4, v0.line, v0.tincture, ⟨v0.on.count, v0.on.kind, v0.on.attitude, v0.on.tincture⟩, ⟨v0.around.count, v0.around.kind, v0.around.attitude, v0.around.tincture⟩⟩, k5, s5, by omega, ?_⟩
      refine MCall.of fn_s_l1Cur_anyArms (by simp) rfl (by simp) ?_
      simp [c_s_l1Cur_anyArms, r_s_l1Cur_anyArms_0, r_s_l1Cur_anyArms_1, r_s_l1Cur_anyArms_2, r_s_l1Cur_anyArms_3, r_s_l1Cur_anyArms_5, r_s_l1Cur_anyArms_6, r_s_l1Cur_anyArms_15, c2, c3]
      refine callQ_Mz [1000000] [] (MCall.arg hM0 (by simp)) (by simp) (by simp) (by simp) (by simp) (by simp) (by first | rfl | simp) (by simp) ?_
      simp [c_s_l1Cur_anyArms, r_s_l1Cur_anyArms_0, r_s_l1Cur_anyArms_1, r_s_l1Cur_anyArms_2, r_s_l1Cur_anyArms_3, r_s_l1Cur_anyArms_5, r_s_l1Cur_anyArms_6, r_s_l1Cur_anyArms_15, c2, c3]
      refine callQ_Mz [1000000] [] (MCall.arg hM1 (by simp)) (by simp) (by simp) (by simp) (by simp) (by simp) (by first | rfl | simp) (by simp) ?_
      simp [c_s_l1Cur_anyArms, r_s_l1Cur_anyArms_0, r_s_l1Cur_anyArms_1, r_s_l1Cur_anyArms_2, r_s_l1Cur_anyArms_3, r_s_l1Cur_anyArms_5, r_s_l1Cur_anyArms_6, r_s_l1Cur_anyArms_15, c2, c3]
      refine callQ_Mz [1000000] [16] (MCall.arg hM4 (by simp)) (by simp) (by simp) (by simp) (by simp) (by simp) (by first | rfl | simp) (by simp) ?_
      simp [c_s_l1Cur_anyArms, r_s_l1Cur_anyArms_0, r_s_l1Cur_anyArms_1, r_s_l1Cur_anyArms_2, r_s_l1Cur_anyArms_3, r_s_l1Cur_anyArms_5, r_s_l1Cur_anyArms_6, r_s_l1Cur_anyArms_15, c2, c3]
    · by_cases c4 : v1 = 2
      · obtain ⟨v5, k6, s6, ⟨hv5, hk5⟩, hM5⟩ := s_l1Cur_among code k2 s2 [-1, 5, 1] (by omega) (by simp) (by simp)
        refine ⟨⟨⟨v0.field.division, v0.field.line, v0.field.first, v0.field.second⟩, v0.ordinary, v5, v0.tincture, ⟨v0.on.count, v0.on.kind, v0.on.attitude, v0.on.tincture⟩, ⟨v0.around.count, v0.around.kind, v0.around.attitude, v0.around.tincture⟩⟩, k6, s6, by omega, ?_⟩
        refine MCall.of fn_s_l1Cur_anyArms (by simp) rfl (by simp) ?_
        simp [c_s_l1Cur_anyArms, r_s_l1Cur_anyArms_0, r_s_l1Cur_anyArms_1, r_s_l1Cur_anyArms_2, r_s_l1Cur_anyArms_3, r_s_l1Cur_anyArms_5, r_s_l1Cur_anyArms_7, r_s_l1Cur_anyArms_8, r_s_l1Cur_anyArms_15, c2, c3, c4]
        refine callQ_Mz [1000000] [] (MCall.arg hM0 (by simp)) (by simp) (by simp) (by simp) (by simp) (by simp) (by first | rfl | simp) (by simp) ?_
        simp [c_s_l1Cur_anyArms, r_s_l1Cur_anyArms_0, r_s_l1Cur_anyArms_1, r_s_l1Cur_anyArms_2, r_s_l1Cur_anyArms_3, r_s_l1Cur_anyArms_5, r_s_l1Cur_anyArms_7, r_s_l1Cur_anyArms_8, r_s_l1Cur_anyArms_15, c2, c3, c4]
        refine callQ_Mz [1000000] [] (MCall.arg hM1 (by simp)) (by simp) (by simp) (by simp) (by simp) (by simp) (by first | rfl | simp) (by simp) ?_
        simp [c_s_l1Cur_anyArms, r_s_l1Cur_anyArms_0, r_s_l1Cur_anyArms_1, r_s_l1Cur_anyArms_2, r_s_l1Cur_anyArms_3, r_s_l1Cur_anyArms_5, r_s_l1Cur_anyArms_7, r_s_l1Cur_anyArms_8, r_s_l1Cur_anyArms_15, c2, c3, c4]
        refine callQ_Mz [1000000] [22] (MCall.arg hM5 (by simp)) (by simp) (by simp) (by simp) (by simp) (by simp) (by first | rfl | simp) (by simp) ?_
        simp [c_s_l1Cur_anyArms, r_s_l1Cur_anyArms_0, r_s_l1Cur_anyArms_1, r_s_l1Cur_anyArms_2, r_s_l1Cur_anyArms_3, r_s_l1Cur_anyArms_5, r_s_l1Cur_anyArms_7, r_s_l1Cur_anyArms_8, r_s_l1Cur_anyArms_15, c2, c3, c4]
      · by_cases c5 : v1 = 3
        · obtain ⟨v6, k7, s7, ⟨hv6, hk6⟩, hM6⟩ := s_l1Cur_among code k2 s2 [0, 10, 3] (by omega) (by simp) (by simp)
          refine ⟨⟨⟨v0.field.division, v0.field.line, v0.field.first, v0.field.second⟩, v0.ordinary, v0.line, v6, ⟨v0.on.count, v0.on.kind, v0.on.attitude, v0.on.tincture⟩, ⟨v0.around.count, v0.around.kind, v0.around.attitude, v0.around.tincture⟩⟩, k7, s7, by omega, ?_⟩
          refine MCall.of fn_s_l1Cur_anyArms (by simp) rfl (by simp) ?_
          simp [c_s_l1Cur_anyArms, r_s_l1Cur_anyArms_0, r_s_l1Cur_anyArms_1, r_s_l1Cur_anyArms_2, r_s_l1Cur_anyArms_3, r_s_l1Cur_anyArms_5, r_s_l1Cur_anyArms_7, r_s_l1Cur_anyArms_9, r_s_l1Cur_anyArms_10, r_s_l1Cur_anyArms_15, c2, c3, c4, c5]
          refine callQ_Mz [1000000] [] (MCall.arg hM0 (by simp)) (by simp) (by simp) (by simp) (by simp) (by simp) (by first | rfl | simp) (by simp) ?_
          simp [c_s_l1Cur_anyArms, r_s_l1Cur_anyArms_0, r_s_l1Cur_anyArms_1, r_s_l1Cur_anyArms_2, r_s_l1Cur_anyArms_3, r_s_l1Cur_anyArms_5, r_s_l1Cur_anyArms_7, r_s_l1Cur_anyArms_9, r_s_l1Cur_anyArms_10, r_s_l1Cur_anyArms_15, c2, c3, c4, c5]
          refine callQ_Mz [1000000] [] (MCall.arg hM1 (by simp)) (by simp) (by simp) (by simp) (by simp) (by simp) (by first | rfl | simp) (by simp) ?_
          simp [c_s_l1Cur_anyArms, r_s_l1Cur_anyArms_0, r_s_l1Cur_anyArms_1, r_s_l1Cur_anyArms_2, r_s_l1Cur_anyArms_3, r_s_l1Cur_anyArms_5, r_s_l1Cur_anyArms_7, r_s_l1Cur_anyArms_9, r_s_l1Cur_anyArms_10, r_s_l1Cur_anyArms_15, c2, c3, c4, c5]
          refine callQ_Mz [1000000] [28] (MCall.arg hM6 (by simp)) (by simp) (by simp) (by simp) (by simp) (by simp) (by first | rfl | simp) (by simp) ?_
          simp [c_s_l1Cur_anyArms, r_s_l1Cur_anyArms_0, r_s_l1Cur_anyArms_1, r_s_l1Cur_anyArms_2, r_s_l1Cur_anyArms_3, r_s_l1Cur_anyArms_5, r_s_l1Cur_anyArms_7, r_s_l1Cur_anyArms_9, r_s_l1Cur_anyArms_10, r_s_l1Cur_anyArms_15, c2, c3, c4, c5]
        · by_cases c6 : v1 = 4
          · obtain ⟨v7, k8, s8, hk7, hM7⟩ := s_l1Cur_anyGroup code k2 s2 (by omega)
            refine ⟨⟨⟨v0.field.division, v0.field.line, v0.field.first, v0.field.second⟩, v0.ordinary, v0.line, v0.tincture, ⟨v7.count, v7.kind, v7.attitude, v7.tincture⟩, ⟨v0.around.count, v0.around.kind, v0.around.attitude, v0.around.tincture⟩⟩, k8, s8, by omega, ?_⟩
            refine MCall.of fn_s_l1Cur_anyArms (by simp) rfl (by simp) ?_
            simp [c_s_l1Cur_anyArms, r_s_l1Cur_anyArms_0, r_s_l1Cur_anyArms_1, r_s_l1Cur_anyArms_2, r_s_l1Cur_anyArms_3, r_s_l1Cur_anyArms_5, r_s_l1Cur_anyArms_7, r_s_l1Cur_anyArms_9, r_s_l1Cur_anyArms_11, r_s_l1Cur_anyArms_12, r_s_l1Cur_anyArms_15, c2, c3, c4, c5, c6]
            refine callQ_Mz [1000000] [] (MCall.arg hM0 (by simp)) (by simp) (by simp) (by simp) (by simp) (by simp) (by first | rfl | simp) (by simp) ?_
            simp [c_s_l1Cur_anyArms, r_s_l1Cur_anyArms_0, r_s_l1Cur_anyArms_1, r_s_l1Cur_anyArms_2, r_s_l1Cur_anyArms_3, r_s_l1Cur_anyArms_5, r_s_l1Cur_anyArms_7, r_s_l1Cur_anyArms_9, r_s_l1Cur_anyArms_11, r_s_l1Cur_anyArms_12, r_s_l1Cur_anyArms_15, c2, c3, c4, c5, c6]
            refine callQ_Mz [1000000] [] (MCall.arg hM1 (by simp)) (by simp) (by simp) (by simp) (by simp) (by simp) (by first | rfl | simp) (by simp) ?_
            simp [c_s_l1Cur_anyArms, r_s_l1Cur_anyArms_0, r_s_l1Cur_anyArms_1, r_s_l1Cur_anyArms_2, r_s_l1Cur_anyArms_3, r_s_l1Cur_anyArms_5, r_s_l1Cur_anyArms_7, r_s_l1Cur_anyArms_9, r_s_l1Cur_anyArms_11, r_s_l1Cur_anyArms_12, r_s_l1Cur_anyArms_15, c2, c3, c4, c5, c6]
            refine callQ_Mz [1000000] [] (MCall.arg hM7 (by simp)) (by simp) (by simp) (by simp) (by simp) (by simp) (by first | rfl | simp) (by simp) ?_
            simp [c_s_l1Cur_anyArms, r_s_l1Cur_anyArms_0, r_s_l1Cur_anyArms_1, r_s_l1Cur_anyArms_2, r_s_l1Cur_anyArms_3, r_s_l1Cur_anyArms_5, r_s_l1Cur_anyArms_7, r_s_l1Cur_anyArms_9, r_s_l1Cur_anyArms_11, r_s_l1Cur_anyArms_12, r_s_l1Cur_anyArms_15, c2, c3, c4, c5, c6]
          · by_cases c7 : v1 = 5
            · obtain ⟨v8, k9, s9, hk8, hM8⟩ := s_l1Cur_anyGroup code k2 s2 (by omega)
              refine ⟨⟨⟨v0.field.division, v0.field.line, v0.field.first, v0.field.second⟩, v0.ordinary, v0.line, v0.tincture, ⟨v0.on.count, v0.on.kind, v0.on.attitude, v0.on.tincture⟩, ⟨v8.count, v8.kind, v8.attitude, v8.tincture⟩⟩, k9, s9, by omega, ?_⟩
              refine MCall.of fn_s_l1Cur_anyArms (by simp) rfl (by simp) ?_
              simp [c_s_l1Cur_anyArms, r_s_l1Cur_anyArms_0, r_s_l1Cur_anyArms_1, r_s_l1Cur_anyArms_2, r_s_l1Cur_anyArms_3, r_s_l1Cur_anyArms_5, r_s_l1Cur_anyArms_7, r_s_l1Cur_anyArms_9, r_s_l1Cur_anyArms_11, r_s_l1Cur_anyArms_13, r_s_l1Cur_anyArms_14, r_s_l1Cur_anyArms_15, c2, c3, c4, c5, c6, c7]
              refine callQ_Mz [1000000] [] (MCall.arg hM0 (by simp)) (by simp) (by simp) (by simp) (by simp) (by simp) (by first | rfl | simp) (by simp) ?_
              simp [c_s_l1Cur_anyArms, r_s_l1Cur_anyArms_0, r_s_l1Cur_anyArms_1, r_s_l1Cur_anyArms_2, r_s_l1Cur_anyArms_3, r_s_l1Cur_anyArms_5, r_s_l1Cur_anyArms_7, r_s_l1Cur_anyArms_9, r_s_l1Cur_anyArms_11, r_s_l1Cur_anyArms_13, r_s_l1Cur_anyArms_14, r_s_l1Cur_anyArms_15, c2, c3, c4, c5, c6, c7]
              refine callQ_Mz [1000000] [] (MCall.arg hM1 (by simp)) (by simp) (by simp) (by simp) (by simp) (by simp) (by first | rfl | simp) (by simp) ?_
              simp [c_s_l1Cur_anyArms, r_s_l1Cur_anyArms_0, r_s_l1Cur_anyArms_1, r_s_l1Cur_anyArms_2, r_s_l1Cur_anyArms_3, r_s_l1Cur_anyArms_5, r_s_l1Cur_anyArms_7, r_s_l1Cur_anyArms_9, r_s_l1Cur_anyArms_11, r_s_l1Cur_anyArms_13, r_s_l1Cur_anyArms_14, r_s_l1Cur_anyArms_15, c2, c3, c4, c5, c6, c7]
              refine callQ_Mz [1000000] [] (MCall.arg hM8 (by simp)) (by simp) (by simp) (by simp) (by simp) (by simp) (by first | rfl | simp) (by simp) ?_
              simp [c_s_l1Cur_anyArms, r_s_l1Cur_anyArms_0, r_s_l1Cur_anyArms_1, r_s_l1Cur_anyArms_2, r_s_l1Cur_anyArms_3, r_s_l1Cur_anyArms_5, r_s_l1Cur_anyArms_7, r_s_l1Cur_anyArms_9, r_s_l1Cur_anyArms_11, r_s_l1Cur_anyArms_13, r_s_l1Cur_anyArms_14, r_s_l1Cur_anyArms_15, c2, c3, c4, c5, c6, c7]
            · refine ⟨⟨⟨v0.field.division, v0.field.line, v0.field.first, v0.field.second⟩, v0.ordinary, v0.line, v0.tincture, ⟨v0.on.count, v0.on.kind, v0.on.attitude, v0.on.tincture⟩, ⟨v0.around.count, v0.around.kind, v0.around.attitude, v0.around.tincture⟩⟩, k2, s2, by omega, ?_⟩
              refine MCall.of fn_s_l1Cur_anyArms (by simp) rfl (by simp) ?_
              simp [c_s_l1Cur_anyArms, r_s_l1Cur_anyArms_0, r_s_l1Cur_anyArms_1, r_s_l1Cur_anyArms_2, r_s_l1Cur_anyArms_3, r_s_l1Cur_anyArms_5, r_s_l1Cur_anyArms_7, r_s_l1Cur_anyArms_9, r_s_l1Cur_anyArms_11, r_s_l1Cur_anyArms_13, r_s_l1Cur_anyArms_15, c2, c3, c4, c5, c6, c7]
              refine callQ_Mz [1000000] [] (MCall.arg hM0 (by simp)) (by simp) (by simp) (by simp) (by simp) (by simp) (by first | rfl | simp) (by simp) ?_
              simp [c_s_l1Cur_anyArms, r_s_l1Cur_anyArms_0, r_s_l1Cur_anyArms_1, r_s_l1Cur_anyArms_2, r_s_l1Cur_anyArms_3, r_s_l1Cur_anyArms_5, r_s_l1Cur_anyArms_7, r_s_l1Cur_anyArms_9, r_s_l1Cur_anyArms_11, r_s_l1Cur_anyArms_13, r_s_l1Cur_anyArms_15, c2, c3, c4, c5, c6, c7]
              refine callQ_Mz [1000000] [] (MCall.arg hM1 (by simp)) (by simp) (by simp) (by simp) (by simp) (by simp) (by first | rfl | simp) (by simp) ?_
              simp [c_s_l1Cur_anyArms, r_s_l1Cur_anyArms_0, r_s_l1Cur_anyArms_1, r_s_l1Cur_anyArms_2, r_s_l1Cur_anyArms_3, r_s_l1Cur_anyArms_5, r_s_l1Cur_anyArms_7, r_s_l1Cur_anyArms_9, r_s_l1Cur_anyArms_11, r_s_l1Cur_anyArms_13, r_s_l1Cur_anyArms_15, c2, c3, c4, c5, c6, c7]
end Go.Proofs.YtbeoijlggphklaaGreatDoor

/- The compact code of the functions, and that it is theirs: written by a program of this claim. -/
namespace Go.Proofs.YtbeoijlggphklaaGreatDoor
open Go.Abs
set_option maxRecDepth 100000
def r_s_l1Cur_of_0 : List CO := [⟨none, (some 4), (.mv (.k (.v (.string (bs [])))))⟩]
def r_s_l1Cur_of_1 : List CO := [⟨none, (some 5), (.mv (.t 1))⟩, ⟨none, (some 6), (.mv (.t 0))⟩, ⟨none, (some 7), (.mv (.t 1))⟩, ⟨none, (some 8), (.len false (.t 7))⟩, ⟨none, (some 9), (.call n_s_l1Cur_pick [(.t 6), (.t 8)])⟩, ⟨none, (some 10), (.iaddr 1 (.t 5) (.t 9))⟩, ⟨none, (some 11), (.ld false 1 (.t 10))⟩, ⟨none, (some 4), (.mv (.t 11))⟩]
/-- (*loop.example/g00884/spec.l1Cur).of -/
def c_s_l1Cur_of : C := (.seq (.reg r_s_l1Cur_of_0 [0, 1]) (.seq (.reg r_s_l1Cur_of_1 [4]) .ret))
def k_s_l1Cur_of : Nat → List Nat
  | 0 => [0, 1]
  | 1 => [4]
  | _ => []
theorem fn_s_l1Cur_of : FnC Tryz.prog n_s_l1Cur_of c_s_l1Cur_of [(.tmp 4)] 12 :=
  ⟨Tryz.f115, _, k_s_l1Cur_of, Tryz.func115, rfl, by kernel_rfl, by kernel_rfl, by kernel_rfl, rfl⟩
end Go.Proofs.YtbeoijlggphklaaGreatDoor

/- Draws of texts. -/
set_option linter.unusedVariables false
set_option linter.unusedSimpArgs false
namespace Go.Proofs.YtbeoijlggphklaaGreatDoor
open Go.Abs

theorem s_l1Cur_of (code : List UInt8) (k : Nat) (s : Int) (l : List (List UInt8)) (hk : k ≤ 100000000000) (h0 : 0 < l.length) (hl : l.length ≤ 100000) :
    ∃ (v : List UInt8) (k' : Nat) (s' : Int), (v ∈ l ∧ (k ≤ k' ∧ k' ≤ k + 2)) ∧ MCall Tryz.prog n_s_l1Cur_of [curB code k s] [cR, .ro 1 (l.map S)] (S v) [some (curB code k' s')] := by
  obtain ⟨v, k', s', ⟨hv, hk'⟩, hM⟩ := s_l1Cur_pick code k s l.length hk (by omega)
  obtain ⟨i, rfl⟩ : ∃ i : Nat, v = i := ⟨v.toNat, by omega⟩
  have hi : i < l.length := by omega
  refine ⟨l[i], k', s', ⟨List.getElem_mem _, hk'⟩, ?_⟩
  refine MCall.of fn_s_l1Cur_of (by simp) rfl (by simp) ?_
  simp [c_s_l1Cur_of, r_s_l1Cur_of_0, r_s_l1Cur_of_1]
  refine callQ_Mz [1000000] [] (MCall.arg hM (by simp)) (by simp) (by simp) (by simp) (by simp) (by simp) (by first | rfl | simp) (by simp) ?_
  simp [hi]
end Go.Proofs.YtbeoijlggphklaaGreatDoor

/- Draws of registers. -/
set_option linter.unusedVariables false
set_option linter.unusedSimpArgs false
namespace Go.Proofs.YtbeoijlggphklaaGreatDoor
open Go.Abs

set_option maxHeartbeats 4000000 in
theorem s_l1Cur_like (code : List UInt8) (k : Nat) (s : Int) (a : Arms) (hk : k ≤ 100000000) : ∃ (b : Arms) (k' : Nat) (s' : Int), (k ≤ k' ∧ k' ≤ k + 50) ∧ MCall Tryz.prog n_s_l1Cur_like [curB code k s] [cR, eArms a] (eArms b) [some (curB code k' s')] := by
  obtain ⟨v, k1, s1, ⟨hv, hk1⟩, hM1⟩ := s_l1Cur_pick code k s 7 (by omega) (by omega)
  have hcs : v = 0 ∨ v = 1 ∨ v = 2 ∨ v = 3 ∨ v = 4 ∨ v = 5 ∨ v = 6 := by omega
  rcases hcs with rfl | rfl | rfl | rfl | rfl | rfl | rfl
  · obtain ⟨f, k2, s2, hk2, hM2⟩ := s_l1Cur_field code k1 s1 (by omega)
    refine ⟨⟨f, a.ordinary, a.line, a.tincture, a.on, a.around⟩, k2, s2, by omega, ?_⟩
    refine MCall.of fn_s_l1Cur_like (by simp) rfl (by simp) ?_
    simp [c_s_l1Cur_like, r_s_l1Cur_like_0, r_s_l1Cur_like_1, r_s_l1Cur_like_2]
    refine callQ_Mz [1000000] [] (MCall.arg hM1 (by simp)) (by simp) (by simp) (by simp) (by simp) (by simp) (by first | rfl | simp) (by simp) ?_
    simp [r_s_l1Cur_like_3, r_s_l1Cur_like_4]
    refine callQ_Mz [1000000] [] (MCall.arg hM2 (by simp)) (by simp) (by simp) (by simp) (by simp) (by simp) (by first | rfl | simp) (by simp) ?_
    simp [r_s_l1Cur_like_18]
  · by_cases ho : 0 < a.ordinary
    · obtain ⟨f, k2, s2, ⟨_, hk2⟩, hM2⟩ := s_l1Cur_tincture code k1 s1 (by omega)
      refine ⟨⟨a.field, a.ordinary, a.line, f, a.on, a.around⟩, k2, s2, by omega, ?_⟩
      refine MCall.of fn_s_l1Cur_like (by simp) rfl (by simp) ?_
      simp [c_s_l1Cur_like, r_s_l1Cur_like_0, r_s_l1Cur_like_1, r_s_l1Cur_like_2]
      refine callQ_Mz [1000000] [] (MCall.arg hM1 (by simp)) (by simp) (by simp) (by simp) (by simp) (by simp) (by first | rfl | simp) (by simp) ?_
      simp [r_s_l1Cur_like_3, r_s_l1Cur_like_5, r_s_l1Cur_like_6, r_s_l1Cur_like_7, ho]
      refine callQ_Mz [1000000] [] (MCall.arg hM2 (by simp)) (by simp) (by simp) (by simp) (by simp) (by simp) (by first | rfl | simp) (by simp) ?_
      simp [r_s_l1Cur_like_18]
    · refine ⟨a, k1, s1, by omega, ?_⟩
      refine MCall.of fn_s_l1Cur_like (by simp) rfl (by simp) ?_
      simp [c_s_l1Cur_like, r_s_l1Cur_like_0, r_s_l1Cur_like_1, r_s_l1Cur_like_2]
      refine callQ_Mz [1000000] [] (MCall.arg hM1 (by simp)) (by simp) (by simp) (by simp) (by simp) (by simp) (by first | rfl | simp) (by simp) ?_
      simp [r_s_l1Cur_like_3, r_s_l1Cur_like_5, r_s_l1Cur_like_6, r_s_l1Cur_like_18, ho]
  · obtain ⟨f, k2, s2, hk2, hM2⟩ := s_l1Cur_group code k1 s1 (by omega)
    refine ⟨⟨a.field, a.ordinary, a.line, a.tincture, a.on, f⟩, k2, s2, by omega, ?_⟩
    refine MCall.of fn_s_l1Cur_like (by simp) rfl (by simp) ?_
    simp [c_s_l1Cur_like, r_s_l1Cur_like_0, r_s_l1Cur_like_1, r_s_l1Cur_like_2]
    refine callQ_Mz [1000000] [] (MCall.arg hM1 (by simp)) (by simp) (by simp) (by simp) (by simp) (by simp) (by first | rfl | simp) (by simp) ?_
    simp [r_s_l1Cur_like_3, r_s_l1Cur_like_5, r_s_l1Cur_like_8, r_s_l1Cur_like_9]
    refine callQ_Mz [1000000] [] (MCall.arg hM2 (by simp)) (by simp) (by simp) (by simp) (by simp) (by simp) (by first | rfl | simp) (by simp) ?_
    simp [r_s_l1Cur_like_18]
  · by_cases ho : 0 < a.ordinary
    · obtain ⟨f, k2, s2, ⟨_, hk2⟩, hM2⟩ := s_l1Cur_pick code k1 s1 7 (by omega) (by omega)
      refine ⟨⟨a.field, 1 + f, a.line, a.tincture, a.on, a.around⟩, k2, s2, by omega, ?_⟩
      refine MCall.of fn_s_l1Cur_like (by simp) rfl (by simp) ?_
      simp [c_s_l1Cur_like, r_s_l1Cur_like_0, r_s_l1Cur_like_1, r_s_l1Cur_like_2]
      refine callQ_Mz [1000000] [] (MCall.arg hM1 (by simp)) (by simp) (by simp) (by simp) (by simp) (by simp) (by first | rfl | simp) (by simp) ?_
      simp [r_s_l1Cur_like_3, r_s_l1Cur_like_5, r_s_l1Cur_like_8, r_s_l1Cur_like_10, r_s_l1Cur_like_11, r_s_l1Cur_like_12, ho]
      refine callQ_Mz [1000000] [] (MCall.arg hM2 (by simp)) (by simp) (by simp) (by simp) (by simp) (by simp) (by first | rfl | simp) (by simp) ?_
      simp
      rw [wrap64 (by omega) (by omega)]
      simp [r_s_l1Cur_like_18]
    · refine ⟨a, k1, s1, by omega, ?_⟩
      refine MCall.of fn_s_l1Cur_like (by simp) rfl (by simp) ?_
      simp [c_s_l1Cur_like, r_s_l1Cur_like_0, r_s_l1Cur_like_1, r_s_l1Cur_like_2]
      refine callQ_Mz [1000000] [] (MCall.arg hM1 (by simp)) (by simp) (by simp) (by simp) (by simp) (by simp) (by first | rfl | simp) (by simp) ?_
      simp [r_s_l1Cur_like_3, r_s_l1Cur_like_5, r_s_l1Cur_like_8, r_s_l1Cur_like_10, r_s_l1Cur_like_11, r_s_l1Cur_like_18, ho]
  · obtain ⟨b, k2, s2, hk2, hM2⟩ := s_l1Cur_arms code k1 s1 (by omega)
    refine ⟨b, k2, s2, by omega, ?_⟩
    refine MCall.of fn_s_l1Cur_like (by simp) rfl (by simp) ?_
    simp [c_s_l1Cur_like, r_s_l1Cur_like_0, r_s_l1Cur_like_1, r_s_l1Cur_like_2]
    refine callQ_Mz [1000000] [] (MCall.arg hM1 (by simp)) (by simp) (by simp) (by simp) (by simp) (by simp) (by first | rfl | simp) (by simp) ?_
    simp [r_s_l1Cur_like_3, r_s_l1Cur_like_5, r_s_l1Cur_like_8, r_s_l1Cur_like_10, r_s_l1Cur_like_13, r_s_l1Cur_like_14]
    refine callQ_Mz [1000000] [] (MCall.arg hM2 (by simp)) (by simp) (by simp) (by simp) (by simp) (by simp) (by first | rfl | simp) (by simp) ?_
    simp [r_s_l1Cur_like_18]
  · cases hr : g0 a.around with
    | false =>
      obtain ⟨f, k2, s2, ⟨_, hk2⟩, hM2⟩ := s_l1Cur_pick code k1 s1 6 (by omega) (by omega)
      refine ⟨⟨a.field, a.ordinary, a.line, a.tincture, a.on, ⟨1 + f, a.around.kind, a.around.attitude, a.around.tincture⟩⟩, k2, s2, by omega, ?_⟩
      refine MCall.of fn_s_l1Cur_like (by simp) rfl (by simp) ?_
      simp [c_s_l1Cur_like, r_s_l1Cur_like_0, r_s_l1Cur_like_1, r_s_l1Cur_like_2]
      refine callQ_Mz [1000000] [] (MCall.arg hM1 (by simp)) (by simp) (by simp) (by simp) (by simp) (by simp) (by first | rfl | simp) (by simp) ?_
      simp [r_s_l1Cur_like_3, r_s_l1Cur_like_5, r_s_l1Cur_like_8, r_s_l1Cur_like_10, r_s_l1Cur_like_13, r_s_l1Cur_like_15, r_s_l1Cur_like_16]
      refine callQ_v (PCall.arg (s_l4None a.around) (by simp)) ?_
      simp [hr, r_s_l1Cur_like_17]
      refine callQ_Mz [1000000] [] (MCall.arg hM2 (by simp)) (by simp) (by simp) (by simp) (by simp) (by simp) (by first | rfl | simp) (by simp) ?_
      simp
      rw [wrap64 (by omega) (by omega)]
      simp [r_s_l1Cur_like_18]
    | true =>
      refine ⟨a, k1, s1, by omega, ?_⟩
      refine MCall.of fn_s_l1Cur_like (by simp) rfl (by simp) ?_
      simp [c_s_l1Cur_like, r_s_l1Cur_like_0, r_s_l1Cur_like_1, r_s_l1Cur_like_2]
      refine callQ_Mz [1000000] [] (MCall.arg hM1 (by simp)) (by simp) (by simp) (by simp) (by simp) (by simp) (by first | rfl | simp) (by simp) ?_
      simp [r_s_l1Cur_like_3, r_s_l1Cur_like_5, r_s_l1Cur_like_8, r_s_l1Cur_like_10, r_s_l1Cur_like_13, r_s_l1Cur_like_15, r_s_l1Cur_like_16]
      refine callQ_v (PCall.arg (s_l4None a.around) (by simp)) ?_
      simp [hr, r_s_l1Cur_like_18]
  · refine ⟨a, k1, s1, by omega, ?_⟩
    refine MCall.of fn_s_l1Cur_like (by simp) rfl (by simp) ?_
    simp [c_s_l1Cur_like, r_s_l1Cur_like_0, r_s_l1Cur_like_1, r_s_l1Cur_like_2]
    refine callQ_Mz [1000000] [] (MCall.arg hM1 (by simp)) (by simp) (by simp) (by simp) (by simp) (by simp) (by first | rfl | simp) (by simp) ?_
    simp [r_s_l1Cur_like_3, r_s_l1Cur_like_5, r_s_l1Cur_like_8, r_s_l1Cur_like_10, r_s_l1Cur_like_13, r_s_l1Cur_like_15, r_s_l1Cur_like_18]
def confN (r : Register) (b : Arms) (i : Nat) : List Int := (r.take i).filterMap fun g => if diffs g.arms b < 2 then some g.number else none
theorem confN_len (r : Register) (b : Arms) (i : Nat) : (confN r b i).length ≤ i := by
  have h := List.length_filterMap_le (fun g : Grant => if diffs g.arms b < 2 then some g.number else none) (r.take i)
  rw [List.length_take] at h
  unfold confN
  omega
theorem confN_succ {r : Register} {b : Arms} {i : Nat} (h : i < List.length r) : confN r b (i + 1) = confN r b i ++ (if diffs (r[i]'h).arms b < 2 then [(r[i]'h).number] else []) := by
  unfold confN
  rw [take_succ' (l := (r : List Grant)) h, List.filterMap_append]
  congr 1
  rw [List.filterMap_cons]
  split <;> split <;> simp_all
theorem s_l16Conflicts (r : Register) (b : Arms) (hr : List.length r ≤ 100) : PCall Tryz.prog n_s_l16Conflicts [eRegister r, eArms b] (.own 1 (ints (confN r b (List.length r)))) := by
  refine PCall.of fn_s_l16Conflicts (by simp) ?_
  simp [c_s_l16Conflicts, r_s_l16Conflicts_0, r_s_l16Conflicts_1, r_s_l16Conflicts_2]
  refine loopK (fun i : Nat => ⟨[(2, .ref 2 0 0), (3, .ref 3 0 0), (5, .sl 7 0 (confN r b i).length), (6, I i)], [(2, ⟨1, [eRegister r]⟩), (3, ⟨15, [eArms b]⟩), (7, ⟨1, ints (confN r b i)⟩)], []⟩) (fun i => List.length r - i) (fun i => i ≤ List.length r) 0 (Wk.list rfl (by simp [confN]) (by simp [confN])) (by simp) ?_
  intro i hi K hN hR hE
  have hcl := confN_len r b i
  simp [l_s_l16Conflicts_7, r_s_l16Conflicts_3]
  refine ⟨fun hlt => ?_, fun hge => ?_⟩
  · have hcs := confN_succ (b := b) hlt
    simp [r_s_l16Conflicts_4, p_s_l16Conflicts_4, hlt]
    refine callD_v (PCall.arg (s_l15Conflict (r[i]'hlt).arms b) (by simp)) ?_ ?_ ?_
    · simp
    · simp
    by_cases hd : diffs (r[i]'hlt).arms b < 2
    · rw [if_pos hd] at hcs
      simp [hd]
      refine ⟨oEnd_of (by simp [p_s_l16Conflicts_4]) (by simp), ?_⟩
      simp [r_s_l16Conflicts_5, r_s_l16Conflicts_6, hlt]
      refine ⟨by unfold lenBound; omega, ?_⟩
      rw [wrap64 (by omega) (by omega)]
      refine hN (i + 1) _ (by omega) (by omega) (Wk.trans (Wk.ren 31 7 (by decide) (by simp)) (Wk.list rfl ?_ ?_))
      · simp [AS.ren, ren, reN, hcs]
      · simp [AS.ren, ren, reN, renB, hcs]
    · rw [if_neg hd] at hcs
      simp [hd]
      refine ⟨oEnd_of (by simp [p_s_l16Conflicts_4]) (by simp), ?_⟩
      simp [r_s_l16Conflicts_6]
      rw [wrap64 (by omega) (by omega)]
      refine hN (i + 1) _ (by omega) (by omega) (Wk.list rfl ?_ ?_)
      · simp [hcs]
      · simp [hcs]
  · obtain rfl : i = List.length r := by omega
    refine hE _ _ ?_
    simp only [blockK_exit]
    simp [r_s_l16Conflicts_8]
end Go.Proofs.YtbeoijlggphklaaGreatDoor

/- Chains of steps by choice; the first place of many. No program in sight. -/
set_option linter.unusedVariables false
set_option linter.unusedSimpArgs false
namespace Go.Proofs.YtbeoijlggphklaaGreatDoor
open Go.Abs

/-- A chain of steps, by choice. -/
theorem iter_of {A : Type} {R : A → A → Prop} {ok : Nat → A → Prop} (a0 : A) (N : Nat) (h0 : ok 0 a0) (h : ∀ n a, n < N → ok n a → ∃ a', R a a' ∧ ok (n + 1) a') :
    ∃ t : Nat → A, t 0 = a0 ∧ (∀ n, n ≤ N → ok n (t n)) ∧ ∀ n, n < N → R (t n) (t (n + 1)) := by
  classical
  let nxt : Nat → A → A := fun n a => if hh : n < N ∧ ok n a then (h n a hh.1 hh.2).choose else a
  let t : Nat → A := fun n => Nat.rec a0 (fun n a => nxt n a) n
  have key : ∀ n, n ≤ N → ok n (t n) := by
    intro n
    induction n with
    | zero => intro _; exact h0
    | succ n ih =>
      intro hn
      have hk := ih (by omega)
      have e : t (n + 1) = (h n (t n) (by omega) hk).choose := by
        show nxt n (t n) = _
        exact dif_pos ⟨by omega, hk⟩
      rw [e]
      exact (h n (t n) (by omega) hk).choose_spec.2
  refine ⟨t, rfl, key, fun n hn => ?_⟩
  have hk := key n (by omega)
  have e : t (n + 1) = (h n (t n) hn hk).choose := by
    show nxt n (t n) = _
    exact dif_pos ⟨hn, hk⟩
  rw [e]
  exact (h n (t n) hn hk).choose_spec.1
theorem least_of {p : Nat → Prop} : ∀ {n : Nat}, p n → ∃ m, m ≤ n ∧ p m ∧ ∀ j, j < m → ¬ p j := by
  intro n
  induction n using Nat.strongRecOn with
  | ind n ih =>
    intro h
    by_cases hx : ∃ j, j < n ∧ p j
    · obtain ⟨j, hj, hp⟩ := hx
      obtain ⟨m, h1, h2, h3⟩ := ih j hj hp
      exact ⟨m, by omega, h2, h3⟩
    · exact ⟨n, by omega, h, fun j hj hp => hx ⟨j, hj, hp⟩⟩
end Go.Proofs.YtbeoijlggphklaaGreatDoor

/- The draw of a valid register. -/
set_option linter.unusedVariables false
set_option linter.unusedSimpArgs false
namespace Go.Proofs.YtbeoijlggphklaaGreatDoor
open Go.Abs

structure RegSt where
  l : List Grant
  year : Int
  num : Int
  k : Nat
  s : Int
def nameL : List (List UInt8) := [[65, 115, 104, 101], [66, 114, 111, 111, 107], [67, 111, 108, 101], [68, 117, 110, 110]]
/-- One round. -/
def RegStep (code : List UInt8) (a : Arms) (u v : RegSt) : Prop := ∃ (b0 : Arms) (ka : Nat) (sa : Int) (o : Bool) (kb : Nat) (sb : Int) (b1 : Arms) (kc : Nat) (sc : Int),
  MCall Tryz.prog n_s_l1Cur_like [curB code u.k u.s] [cR, eArms a] (eArms b0) [some (curB code ka sa)] ∧
  MCall Tryz.prog n_s_l1Cur_one [curB code ka sa] [cR, I 2] (B o) [some (curB code kb sb)] ∧
  ((o = false ∧ b1 = b0 ∧ kc = kb ∧ sc = sb) ∨ (o = true ∧ MCall Tryz.prog n_s_l1Cur_arms [curB code kb sb] [cR] (eArms b1) [some (curB code kc sc)])) ∧
  ((0 < (confN u.l b1 (List.length u.l)).length ∧ v = ⟨u.l, u.year, u.num, kc, sc⟩) ∨
   ((confN u.l b1 (List.length u.l)).length = 0 ∧ ∃ (p : Int) (kd : Nat) (sd : Int) (q : Int) (ke : Nat) (se : Int) (n : List UInt8) (kf : Nat) (sf : Int), ((0 ≤ p ∧ p < 20) ∧ (0 ≤ q ∧ q < 2)) ∧
    MCall Tryz.prog n_s_l1Cur_pick [curB code kc sc] [cR, I 20] (I p) [some (curB code kd sd)] ∧
    MCall Tryz.prog n_s_l1Cur_pick [curB code kd sd] [cR, I 2] (I q) [some (curB code ke se)] ∧
    MCall Tryz.prog n_s_l1Cur_of [curB code ke se] [cR, .ro 1 (nameL.map S)] (S n) [some (curB code kf sf)] ∧
    v = ⟨u.l ++ [⟨u.num + 1 + q, n, u.year + p, b1⟩], u.year + p, u.num + 1 + q, kf, sf⟩))
theorem regStep_ex (code : List UInt8) (a : Arms) (u : RegSt) (hu : u.k ≤ 10000000) : ∃ v, RegStep code a u v ∧ (List.length v.l ≤ List.length u.l + 1 ∧ (u.year ≤ v.year ∧ v.year ≤ u.year + 20) ∧ (u.num ≤ v.num ∧ v.num ≤ u.num + 2) ∧ (u.k ≤ v.k ∧ v.k ≤ u.k + 120)) := by
  obtain ⟨b0, ka, sa, h1, hM1⟩ := s_l1Cur_like code u.k u.s a (by omega)
  obtain ⟨o, kb, sb, h2, hM2⟩ := s_l1Cur_one code ka sa 2 (by omega) (by omega)
  obtain ⟨b1, kc, sc, h3, hk3⟩ : ∃ (b1 : Arms) (kc : Nat) (sc : Int), ((o = false ∧ b1 = b0 ∧ kc = kb ∧ sc = sb) ∨ (o = true ∧ MCall Tryz.prog n_s_l1Cur_arms [curB code kb sb] [cR] (eArms b1) [some (curB code kc sc)])) ∧ (kb ≤ kc ∧ kc ≤ kb + 38) := by
    cases o with
    | false => exact ⟨b0, kb, sb, .inl ⟨rfl, rfl, rfl, rfl⟩, by omega⟩
    | true =>
      obtain ⟨b1, kc, sc, h3, hM3⟩ := s_l1Cur_arms code kb sb (by omega)
      exact ⟨b1, kc, sc, .inr ⟨rfl, hM3⟩, h3⟩
  by_cases hc : (confN u.l b1 (List.length u.l)).length = 0
  · obtain ⟨p, kd, sd, ⟨hp, h4⟩, hM4⟩ := s_l1Cur_pick code kc sc 20 (by omega) (by omega)
    obtain ⟨q, ke, se, ⟨hq, h5⟩, hM5⟩ := s_l1Cur_pick code kd sd 2 (by omega) (by omega)
    obtain ⟨n, kf, sf, ⟨_, h6⟩, hM6⟩ := s_l1Cur_of code ke se nameL (by omega) (by simp [nameL]) (by simp [nameL])
    exact ⟨⟨u.l ++ [⟨u.num + 1 + q, n, u.year + p, b1⟩], u.year + p, u.num + 1 + q, kf, sf⟩, ⟨b0, ka, sa, o, kb, sb, b1, kc, sc, hM1, hM2, h3, .inr ⟨hc, p, kd, sd, q, ke, se, n, kf, sf, by omega, hM4, hM5, hM6, rfl⟩⟩,
      by simp, by dsimp only; omega, by dsimp only; omega, by dsimp only; omega⟩
  · exact ⟨⟨u.l, u.year, u.num, kc, sc⟩, ⟨b0, ka, sa, o, kb, sb, b1, kc, sc, hM1, hM2, h3, .inl ⟨by omega, rfl⟩⟩, by simp, by dsimp only; omega, by dsimp only; omega, by dsimp only; omega⟩
/-- Behind the drawing of the arms of a round. -/
def regMid (code : List UInt8) (ul : Register) (uy un : Int) (N j : Nat) (a b1 : Arms) (kc : Nat) (sc : Int) : AS :=
  ⟨[(0, cR), (2, .ref 2 0 0), (3, .ref 3 0 0), (4, I uy), (5, I un), (6, .ref 6 0 0), (7, I ((N : Int) - j)), (8, .ref 8 0 0)], [(1000000, curB code kc sc), (2, ⟨1, [.agg [.v (.slice none 0 0)]]⟩), (3, ⟨1, [.agg [.sl 9 0 (List.length ul)]]⟩), (9, ⟨18, List.map eGrant ul⟩), (6, ⟨15, [eArms a]⟩), (8, ⟨15, [eArms b1]⟩)], [1000000]⟩
set_option maxHeartbeats 4000000 in
theorem s_l1Cur_register (code : List UInt8) (k : Nat) (s : Int) (hk : k ≤ 1000000) : ∃ (l : Register) (k' : Nat) (s' : Int), (List.length l ≤ 6 ∧ (k ≤ k' ∧ k' ≤ k + 1000)) ∧
    MCall Tryz.prog n_s_l1Cur_register [curB code k s] [cR] (oRegister l) [some (curB code k' s')] := by
  obtain ⟨y, k1, s1, ⟨hy, hk1⟩, hM1⟩ := s_l1Cur_pick code k s 100 (by omega) (by omega)
  obtain ⟨a, k2, s2, hk2, hM2⟩ := s_l1Cur_arms code k1 s1 (by omega)
  obtain ⟨c, k3, s3, ⟨hc, hk3⟩, hM3⟩ := s_l1Cur_pick code k2 s2 6 (by omega) (by omega)
  obtain ⟨N, rfl⟩ : ∃ N : Nat, c = N := ⟨c.toNat, by omega⟩
  obtain ⟨t, ht0, htok, htR⟩ := iter_of (R := RegStep code a) (ok := fun n u => List.length u.l ≤ n ∧ (1500 ≤ u.year ∧ u.year ≤ 1600 + 20 * (n : Int)) ∧ (0 ≤ u.num ∧ u.num ≤ 2 * (n : Int)) ∧ (k3 ≤ u.k ∧ u.k ≤ k3 + 120 * n)) ⟨[], 1500 + y, 0, k3, s3⟩ N ⟨by simp, by dsimp only; omega, by dsimp only; omega, by dsimp only; omega⟩
    (fun n u hn hu => by
      obtain ⟨v, h1, h2, h3, h4, h5⟩ := regStep_ex code a u (by omega)
      exact ⟨v, h1, by omega, by omega, by omega, by omega⟩)
  have htN := htok N (by omega)
  refine ⟨(t N).l, (t N).k, (t N).s, by omega, ?_⟩
  refine MCall.of fn_s_l1Cur_register (by simp) rfl (by simp) ?_
  simp [c_s_l1Cur_register, r_s_l1Cur_register_0, r_s_l1Cur_register_1, r_s_l1Cur_register_2]
  refine callQ_Mz [1000000] [] (MCall.arg hM1 (by simp)) (by simp) (by simp) (by simp) (by simp) (by simp) (by first | rfl | simp) (by simp) ?_
  simp
  rw [wrap64 (by omega) (by omega)]
  simp [r_s_l1Cur_register_3]
  refine callQ_Mz [1000000] [] (MCall.arg hM2 (by simp)) (by simp) (by simp) (by simp) (by simp) (by simp) (by first | rfl | simp) (by simp) ?_
  simp [r_s_l1Cur_register_4]
  refine callQ_Mz [1000000] [] (MCall.arg hM3 (by simp)) (by simp) (by simp) (by simp) (by simp) (by simp) (by first | rfl | simp) (by simp) ?_
  simp
  refine loopK (fun j : Nat => ⟨[(0, cR), (2, .ref 2 0 0), (3, .ref 3 0 0), (4, I (t j).year), (5, I (t j).num), (6, .ref 6 0 0), (7, I ((N : Int) - j))], [(1000000, curB code (t j).k (t j).s), (2, ⟨1, [.agg [.v (.slice none 0 0)]]⟩), (3, ⟨1, [.agg [.sl 9 0 (t j).l.length]]⟩), (9, ⟨18, (t j).l.map eGrant⟩), (6, ⟨15, [eArms a]⟩)], [1000000]⟩)
    (fun j => N - j) (fun j => j ≤ N) 0 (Wk.list rfl (by simp [ht0]) (by simp [ht0])) (by simp) ?_
  intro j hj K hN hR hE
  obtain ⟨hul, huy, hun, huk⟩ := htok j hj
  simp [l_s_l1Cur_register_14, r_s_l1Cur_register_5]
  refine ⟨fun hlt => ?_, fun hge => ?_⟩
  · obtain ⟨b0, ka, sa, o, kb, sb, b1, kc, sc, hMa, hMb, harm, hend⟩ := htR j hlt
    obtain ⟨u, hu⟩ : ∃ u, t j = u := ⟨_, rfl⟩
    obtain ⟨v, hv⟩ : ∃ v, t (j + 1) = v := ⟨_, rfl⟩
    rw [hu] at hul huy hun huk hMa hend ⊢
    rw [hv] at hend
    obtain ⟨ul, uy, un, uk, us⟩ := u
    dsimp only at hul huy hun huk hMa hend ⊢
    simp [r_s_l1Cur_register_6]
    refine callQ_Mz [1000000] [] (MCall.arg hMa (by simp)) (by simp) (by simp) (by simp) (by simp) (by simp) (by first | rfl | simp) (by simp) ?_
    simp [r_s_l1Cur_register_7]
    refine callQ_Mz [1000000] [] (MCall.arg hMb (by simp)) (by simp) (by simp) (by simp) (by simp) (by simp) (by first | rfl | simp) (by simp) ?_
    have hcnt := confN_len ul b1 (List.length ul)
    rcases harm with ⟨rfl, rfl, rfl, rfl⟩ | ⟨rfl, hMc⟩
    case' inl =>
      simp
      refine wk_of (regMid code ul uy un N j a b1 kc sc) (Wk.list rfl (by simp [regMid]) (by simp [regMid])) ?_
    case' inr =>
      simp [r_s_l1Cur_register_8]
      refine callQ_Mz [1000000] [] (MCall.arg hMc (by simp)) (by simp) (by simp) (by simp) (by simp) (by simp) (by first | rfl | simp) (by simp) ?_
      simp
      refine wk_of (regMid code ul uy un N j a b1 kc sc) (Wk.list rfl (by simp [regMid]) (by simp [regMid])) ?_
    all_goals
      have hcf := s_l16Conflicts ul b1 (by omega)
      simp [regMid, r_s_l1Cur_register_9]
      refine callQ_of (PCall.arg hcf (by simp [List.take_of_length_le])) rfl (.inl (by simp)) (by simp) ?_
      rcases hend with ⟨hpos, rfl⟩ | ⟨hzero, p, kd, sd, q, ke, se, n, kf, sf, ⟨hp, hq⟩, hMd, hMe, hMf, rfl⟩
      · simp [show (0 : Int) < (confN ul b1 (List.length ul)).length by omega, hpos]
        simp [r_s_l1Cur_register_13]
        rw [wrap64 (by omega) (by omega)]
        refine hN (j + 1) _ (by omega) (by omega) (Wk.list rfl ?_ ?_)
        · simp [hv]; omega
        · simp [hv]
      · simp [show ¬ (0 : Int) < (confN ul b1 (List.length ul)).length by omega, hzero]
        simp [r_s_l1Cur_register_10]
        refine callQ_Mz [1000000] [] (MCall.arg hMd (by simp)) (by simp) (by simp) (by simp) (by simp) (by simp) (by first | rfl | simp) (by simp) ?_
        simp
        rw [wrap64 (n := uy + p) (by omega) (by omega)]
        simp [r_s_l1Cur_register_11]
        refine callQ_Mz [1000000] [] (MCall.arg hMe (by simp)) (by simp) (by simp) (by simp) (by simp) (by simp) (by first | rfl | simp) (by simp) ?_
        simp
        rw [wrap64 (n := un + 1) (by omega) (by omega), wrap64 (n := un + 1 + q) (by omega) (by omega)]
        simp [r_s_l1Cur_register_12, p_s_l1Cur_register_12]
        simp only [nameL, List.map_cons, List.map_nil] at hMf
        refine callD_M [1000000] [47] (l := [_]) (MCall.arg hMf (by simp)) (by simp) (by simp) (by simp) (by simp) (by simp) (by first | rfl | simp) (by simp) (by simp) ?_
        simp
        refine ⟨by unfold lenBound; omega, oEnd_of (by simp [p_s_l1Cur_register_12]) (by simp), ?_⟩
        simp [r_s_l1Cur_register_13]
        rw [wrap64 (by omega) (by omega)]
        refine hN (j + 1) _ (by omega) (by omega) (Wk.trans (Wk.ren 53 9 (by decide) (by simp)) (Wk.list rfl ?_ ?_))
        · simp [AS.ren, ren, reN, hv]; omega
        · simp [AS.ren, ren, reN, renB, hv]
  · obtain rfl : j = N := by omega
    refine hE _ _ ?_
    simp only [blockK_exit]
    simp [r_s_l1Cur_register_15]
end Go.Proofs.YtbeoijlggphklaaGreatDoor

/- The draw of a register that may not be valid. -/
set_option linter.unusedVariables false
set_option linter.unusedSimpArgs false
namespace Go.Proofs.YtbeoijlggphklaaGreatDoor
open Go.Abs

def zed (n : Nat) : Grant := ⟨100 + (n : Int), [90, 101, 100], 2900, ⟨⟨0, 0, 1 + (n : Int).tmod 9, 0⟩, 0, 0, 0, ⟨0, 0, 0, 0⟩, ⟨1 + (n : Int).tmod 6, 4 + (n : Int).tmod 5, 0, 1 + (n : Int) / 2⟩⟩⟩
def zeds (n : Nat) : List Grant := (List.range n).map zed
theorem zeds_len (n : Nat) : (zeds n).length = n := by simp [zeds]
theorem zeds_succ (n : Nat) : zeds (n + 1) = zeds n ++ [zed n] := by simp only [zeds, List.range_succ, List.map_append, List.map_cons, List.map_nil]
def badN : List (List UInt8) := [[], [97, 115, 104, 101], [65, 98, 99, 100, 101, 102, 103, 104, 105, 106, 107, 108], [65, 98, 99, 100, 101, 102, 103, 104, 105, 106, 107, 108, 109], [65]]
set_option maxHeartbeats 8000000 in
theorem s_l1Cur_anyRegister (code : List UInt8) (k : Nat) (s : Int) (hk : k ≤ 100000) : ∃ (l : Register) (k' : Nat) (s' : Int), (List.length l ≤ 30 ∧ (k ≤ k' ∧ k' ≤ k + 2000)) ∧
    MCall Tryz.prog n_s_l1Cur_anyRegister [curB code k s] [cR] (oRegister l) [some (curB code k' s')] := by
  obtain ⟨L, k1, s1, ⟨hL, hk1⟩, hM1⟩ := s_l1Cur_register code k s (by omega)
  obtain ⟨w0, k2, s2, ⟨hw, hk2⟩, hM2⟩ := s_l1Cur_pick code k1 s1 (List.length L) (by omega) (by omega)
  obtain ⟨w, rfl⟩ : ∃ w : Nat, w0 = w := ⟨w0.toNat, by omega⟩
  obtain ⟨x, k3, s3, ⟨hx, hk3⟩, hM3⟩ := s_l1Cur_pick code k2 s2 20 (by omega) (by omega)
  obtain ⟨z0, k4, s4, ⟨_, hk4⟩, hM4⟩ := s_l1Cur_among code k3 s3 [0, 1000, 1, 999] (by omega) (by simp) (by simp)
  obtain ⟨z1, k5, s5, ⟨_, hk5⟩, hM5⟩ := s_l1Cur_of code k3 s3 badN (by omega) (by simp [badN]) (by simp [badN])
  obtain ⟨z2, k6, s6, ⟨_, hk6⟩, hM6⟩ := s_l1Cur_among code k3 s3 [999, 1000, 2999, 3000] (by omega) (by simp) (by simp)
  obtain ⟨z3, k7, s7, hk7, hM7⟩ := s_l1Cur_anyArms code k3 s3 (by omega)
  obtain ⟨gz, hgz⟩ : ∃ gz, List.getD L 0 g00 = gz := ⟨_, rfl⟩
  obtain ⟨z4, k8, s8, hk8, hM8⟩ := s_l1Cur_like code k3 s3 gz.arms (by omega)
  obtain ⟨t, ht0, htok, htR⟩ := iter_of (A := (Nat × Int) × Int) (R := fun a b => (0 ≤ b.2 ∧ b.2 < 2) ∧ MCall Tryz.prog n_s_l1Cur_pick [curB code a.1.1 a.1.2] [cR, I 2] (I b.2) [some (curB code b.1.1 b.1.2)])
    (ok := fun n a => k3 ≤ a.1.1 ∧ a.1.1 ≤ k3 + 2 * n) ((k3, s3), 0) 16 (by dsimp only; omega) (fun n a hn ha => by
      obtain ⟨v, ka, sa, ⟨hv, hka⟩, hMv⟩ := s_l1Cur_pick code a.1.1 a.1.2 2 (by omega) (by omega)
      exact ⟨((ka, sa), v), ⟨by dsimp only; omega, hMv⟩, by dsimp only; omega⟩)
  obtain ⟨m, hm, hmstop, hmgo⟩ := least_of (p := fun n => ¬ ((List.length L : Int) + n < 12 + (t (n + 1)).2 ∧ n < 14)) (n := 14) (by omega)
  simp only [badN, List.map_cons, List.map_nil] at hM5
  have main : ∀ (l' : Register) (k' : Nat) (s' : Int), ((L = [] ∧ l' = [] ∧ k' = k1 ∧ s' = s1) ∨ (∃ g, L[w]? = some g ∧
      ((x = 0 ∧ l' = L.set w ⟨z0, g.name, g.year, g.arms⟩ ∧ k' = k4 ∧ s' = s4) ∨ (x = 1 ∧ l' = L.set w ⟨g.number, z1, g.year, g.arms⟩ ∧ k' = k5 ∧ s' = s5) ∨ (x = 2 ∧ l' = L.set w ⟨g.number, g.name, z2, g.arms⟩ ∧ k' = k6 ∧ s' = s6) ∨
       (x = 3 ∧ l' = L.set w ⟨g.number, g.name, g.year, z3⟩ ∧ k' = k7 ∧ s' = s7) ∨ (x = 4 ∧ l' = L.set w ⟨g.number, g.name, g.year, z4⟩ ∧ k' = k8 ∧ s' = s8) ∨
       (x = 5 ∧ l' = L ++ zeds m ∧ k' = (t (m + 1)).1.1 ∧ s' = (t (m + 1)).1.2) ∨ ((x ≠ 0 ∧ x ≠ 1 ∧ x ≠ 2 ∧ x ≠ 3 ∧ x ≠ 4 ∧ x ≠ 5) ∧ l' = L.set w g ∧ k' = k3 ∧ s' = s3)))) →
      MCall Tryz.prog n_s_l1Cur_anyRegister [curB code k s] [cR] (oRegister l') [some (curB code k' s')] := by
    intro l' k' s' hfin
    refine MCall.of fn_s_l1Cur_anyRegister (by simp) rfl (by simp) ?_
    simp [c_s_l1Cur_anyRegister, r_s_l1Cur_anyRegister_0, r_s_l1Cur_anyRegister_1]
    refine callQ_Mz [1000000] [] (MCall.arg hM1 (by simp)) (by simp) (by simp) (by simp) (by simp) (by simp) (by first | rfl | simp) (by simp) ?_
    simp
    simp [r_s_l1Cur_anyRegister_2]
    rcases hfin with ⟨rfl, rfl, rfl, rfl⟩ | ⟨g, hg, hfin⟩
    · simp [r_s_l1Cur_anyRegister_3]
    have hLn : L ≠ [] := by rintro rfl; simp at hg
    have hwl : w < List.length L := (List.getElem?_eq_some_iff.1 hg).1
    have hg' : ∀ h, L[w]'h = g := fun h => by rw [List.getElem_eq_iff]; exact hg
    have hLp : 0 < List.length L := by omega
    have hL0 : ∀ h, L[0]'h = gz := fun h => by rw [← hgz]; simp [hLp]
    simp [hLn]
    simp [r_s_l1Cur_anyRegister_4]
    refine callQ_Mz [1000000] [] (MCall.arg hM2 (by simp)) (by simp) (by simp) (by simp) (by simp) (by simp) (by first | rfl | simp) (by simp) ?_
    simp [r_s_l1Cur_anyRegister_5, hwl, hg']
    simp [r_s_l1Cur_anyRegister_6]
    refine callQ_Mz [1000000] [] (MCall.arg hM3 (by simp)) (by simp) (by simp) (by simp) (by simp) (by simp) (by first | rfl | simp) (by simp) ?_
    simp [r_s_l1Cur_anyRegister_7]
    have hsp : ∀ q : Grant, (List.map eGrant L).set w (eGrant q) = List.map eGrant (L.set w q) := fun q => by rw [List.map_set]
    rcases hfin with ⟨rfl, rfl, rfl, rfl⟩ | ⟨rfl, rfl, rfl, rfl⟩ | ⟨rfl, rfl, rfl, rfl⟩ | ⟨rfl, rfl, rfl, rfl⟩ | ⟨rfl, rfl, rfl, rfl⟩ | ⟨rfl, rfl, rfl, rfl⟩ | ⟨⟨n0, n1, n2, n3, n4, n5⟩, rfl, rfl, rfl⟩
    · simp [r_s_l1Cur_anyRegister_8]
      refine callQ_Mz [1000000] [29] (MCall.arg hM4 (by simp)) (by simp) (by simp) (by simp) (by simp) (by simp) (by first | rfl | simp) (by simp) ?_
      simp [r_s_l1Cur_anyRegister_24, r_s_l1Cur_anyRegister_25, hwl]
    · simp [r_s_l1Cur_anyRegister_9, r_s_l1Cur_anyRegister_10]
      refine callQ_Mz [1000000] [35] (MCall.arg hM5 (by simp)) (by simp) (by simp) (by simp) (by simp) (by simp) (by first | rfl | simp) (by simp) ?_
      simp [r_s_l1Cur_anyRegister_24, r_s_l1Cur_anyRegister_25, hwl]
    · simp [r_s_l1Cur_anyRegister_9, r_s_l1Cur_anyRegister_11, r_s_l1Cur_anyRegister_12]
      refine callQ_Mz [1000000] [41] (MCall.arg hM6 (by simp)) (by simp) (by simp) (by simp) (by simp) (by simp) (by first | rfl | simp) (by simp) ?_
      simp [r_s_l1Cur_anyRegister_24, r_s_l1Cur_anyRegister_25, hwl]
    · simp [r_s_l1Cur_anyRegister_9, r_s_l1Cur_anyRegister_11, r_s_l1Cur_anyRegister_13, r_s_l1Cur_anyRegister_14]
      refine callQ_Mz [1000000] [] (MCall.arg hM7 (by simp)) (by simp) (by simp) (by simp) (by simp) (by simp) (by first | rfl | simp) (by simp) ?_
      simp [r_s_l1Cur_anyRegister_24, r_s_l1Cur_anyRegister_25, hwl]
    · simp [r_s_l1Cur_anyRegister_9, r_s_l1Cur_anyRegister_11, r_s_l1Cur_anyRegister_13, r_s_l1Cur_anyRegister_15, r_s_l1Cur_anyRegister_16, hLp, hL0]
      refine callQ_Mz [1000000] [] (MCall.arg hM8 (by simp)) (by simp) (by simp) (by simp) (by simp) (by simp) (by first | rfl | simp) (by simp) ?_
      simp [r_s_l1Cur_anyRegister_24, r_s_l1Cur_anyRegister_25, hwl]
    · simp [r_s_l1Cur_anyRegister_9, r_s_l1Cur_anyRegister_11, r_s_l1Cur_anyRegister_13, r_s_l1Cur_anyRegister_15, r_s_l1Cur_anyRegister_17, r_s_l1Cur_anyRegister_18]
      refine loopK (fun n : Nat => ⟨[(0, cR), (2, .ref 2 0 0), (3, .ref 3 0 0), (6, I n)], [(1000000, curB code (t n).1.1 (t n).1.2), (3, ⟨1, [.agg [.sl 8 0 (List.length L + n)]]⟩), (8, ⟨18, List.map eGrant (L ++ zeds n)⟩), (2, ⟨1, [.agg [.v (.slice none 0 0)]]⟩)], [1000000]⟩) (fun n => m - n) (fun n => n ≤ m) 0
        (Wk.list rfl (by simp) (by simp [ht0, zeds])) (by simp) ?_
      intro n hn K hN hR hE
      obtain ⟨hv, hMv⟩ := htR n (by omega)
      have hmg := hmgo n
      simp [l_s_l1Cur_anyRegister_22, r_s_l1Cur_anyRegister_19, p_s_l1Cur_anyRegister_19]
      refine callD_M [1000000] [] (l := [_]) (MCall.arg hMv (by simp)) (by simp) (by simp) (by simp) (by simp) (by simp) (by first | rfl | simp) (by simp) (by simp) ?_
      simp
      rw [wrap64 (n := 12 + (t (n + 1)).2) (by omega) (by omega)]
      have hend : ¬ ((List.length L : Int) + n < 12 + (t (n + 1)).2 ∧ n < 14) → n = m := fun h => Classical.byContradiction fun hc => hmg (by omega) h
      refine ⟨fun h1 => ⟨oEnd_of (by simp [p_s_l1Cur_anyRegister_19]) (by simp), fun h2 => ?_, fun h2 => ?_⟩, fun h1 => ⟨oEnd_of (by simp [p_s_l1Cur_anyRegister_19]) (by simp), ?_⟩⟩
      · have hnm : n < m := Classical.byContradiction fun hc => by
          obtain rfl : n = m := by omega
          exact hmstop ⟨h1, by omega⟩
        have e9 : 0 ≤ (n : Int).tmod 9 ∧ (n : Int).tmod 9 < 9 := ⟨Int.tmod_nonneg _ (by omega), Int.tmod_lt_of_pos _ (by omega)⟩
        have e6 : 0 ≤ (n : Int).tmod 6 ∧ (n : Int).tmod 6 < 6 := ⟨Int.tmod_nonneg _ (by omega), Int.tmod_lt_of_pos _ (by omega)⟩
        have e5 : 0 ≤ (n : Int).tmod 5 ∧ (n : Int).tmod 5 < 5 := ⟨Int.tmod_nonneg _ (by omega), Int.tmod_lt_of_pos _ (by omega)⟩
        have hzs := zeds_succ n
        have hzl := zeds_len n
        simp [r_s_l1Cur_anyRegister_20, r_s_l1Cur_anyRegister_21, hzl]
        have ht2 : List.take (List.length L + n) (List.map eGrant L ++ List.map eGrant (zeds n)) = List.map eGrant L ++ List.map eGrant (zeds n) := List.take_of_length_le (by simp [hzl])
        rw [ht2, wrap64 (n := (n : Int) / 2) (by omega) (by omega), wrap64 (n := 1 + (n : Int) / 2) (by omega) (by omega), wrap64 (n := 100 + (n : Int)) (by omega) (by omega), wrap64 (n := 1 + (n : Int).tmod 9) (by omega) (by omega), wrap64 (n := 1 + (n : Int).tmod 6) (by omega) (by omega), wrap64 (n := 4 + (n : Int).tmod 5) (by omega) (by omega), wrap64 (n := (n : Int) + 1) (by omega) (by omega)]
        refine ⟨by unfold lenBound; omega, ?_⟩
        refine hN (n + 1) _ (by omega) (by omega) (Wk.trans (Wk.ren 95 8 (by decide) (by simp)) (Wk.list rfl ?_ ?_))
        · simp [AS.ren, ren, reN]
        · simp [AS.ren, ren, reN, renB, hzs, zed]; omega
      · obtain rfl := hend (by omega)
        refine hE _ _ ?_
        simp only [blockK_exit]
        simp [r_s_l1Cur_anyRegister_23, zeds_len]
      · obtain rfl := hend (by omega)
        refine hE _ _ ?_
        simp only [blockK_exit]
        simp [r_s_l1Cur_anyRegister_23, zeds_len]
    · simp [r_s_l1Cur_anyRegister_9, r_s_l1Cur_anyRegister_11, r_s_l1Cur_anyRegister_13, r_s_l1Cur_anyRegister_15, r_s_l1Cur_anyRegister_17, r_s_l1Cur_anyRegister_24, r_s_l1Cur_anyRegister_25, n0, n1, n2, n3, n4, n5, hwl]
  by_cases hL0 : L = []
  · exact ⟨_, _, _, ⟨by simp, by omega⟩, main [] _ _ (.inl ⟨hL0, rfl, rfl, rfl⟩)⟩
  have hwl : w < List.length L := by have := List.length_pos_iff.2 hL0; omega
  have hg := List.getElem?_eq_getElem hwl
  have hset : ∀ q : Grant, List.length (L.set w q) ≤ 30 := fun q => by rw [List.length_set]; omega
  by_cases c0 : x = 0
  · exact ⟨_, _, _, ⟨hset _, by omega⟩, main _ _ _ (.inr ⟨_, hg, .inl ⟨c0, rfl, rfl, rfl⟩⟩)⟩
  by_cases c1 : x = 1
  · exact ⟨_, _, _, ⟨hset _, by omega⟩, main _ _ _ (.inr ⟨_, hg, .inr (.inl ⟨c1, rfl, rfl, rfl⟩)⟩)⟩
  by_cases c2 : x = 2
  · exact ⟨_, _, _, ⟨hset _, by omega⟩, main _ _ _ (.inr ⟨_, hg, .inr (.inr (.inl ⟨c2, rfl, rfl, rfl⟩))⟩)⟩
  by_cases c3 : x = 3
  · exact ⟨_, _, _, ⟨hset _, by omega⟩, main _ _ _ (.inr ⟨_, hg, .inr (.inr (.inr (.inl ⟨c3, rfl, rfl, rfl⟩)))⟩)⟩
  by_cases c4 : x = 4
  · exact ⟨_, _, _, ⟨hset _, by omega⟩, main _ _ _ (.inr ⟨_, hg, .inr (.inr (.inr (.inr (.inl ⟨c4, rfl, rfl, rfl⟩))))⟩)⟩
  by_cases c5 : x = 5
  · have h2 := htok (m + 1) (by omega)
    exact ⟨_, _, _, ⟨by rw [List.length_append, zeds_len]; omega, by omega⟩, main _ _ _ (.inr ⟨_, hg, .inr (.inr (.inr (.inr (.inr (.inl ⟨c5, rfl, rfl, rfl⟩)))))⟩)⟩
  · exact ⟨_, _, _, ⟨hset _, by omega⟩, main _ _ _ (.inr ⟨_, hg, .inr (.inr (.inr (.inr (.inr (.inr ⟨⟨c0, c1, c2, c3, c4, c5⟩, rfl, rfl, rfl⟩)))))⟩)⟩
end Go.Proofs.YtbeoijlggphklaaGreatDoor

/- Draws of rolls. -/
set_option linter.unusedVariables false
set_option linter.unusedSimpArgs false
namespace Go.Proofs.YtbeoijlggphklaaGreatDoor
open Go.Abs

set_option maxHeartbeats 4000000 in
theorem s_l1Cur_roll (code : List UInt8) (k : Nat) (s : Int) (hk : k ≤ 10000000) : ∃ (r : Roll) (k' : Nat) (s' : Int), (k ≤ k' ∧ k' ≤ k + 10) ∧ MCall Tryz.prog n_s_l1Cur_roll [curB code k s] [cR] (eRoll r) [some (curB code k' s')] := by
  obtain ⟨v0, k1, s1, ⟨h0, hk1⟩, hM1⟩ := s_l1Cur_pick code k s 3 (by omega) (by omega)
  obtain ⟨v1, k2, s2, ⟨_, hk2⟩, hM2⟩ := s_l1Cur_among code k1 s1 [20, 24, 30, 60] (by omega) (by simp) (by simp)
  obtain ⟨v2, k3, s3, ⟨_, hk3⟩, hM3⟩ := s_l1Cur_among code k2 s2 [4, 5, 8, 12, 20] (by omega) (by simp) (by simp)
  obtain ⟨x, k4, s4, ⟨hx, hk4⟩, hM4⟩ := s_l1Cur_pick code k3 s3 40 (by omega) (by omega)
  obtain ⟨z0, k5, s5, ⟨_, hk5⟩, hM5⟩ := s_l1Cur_among code k4 s4 [0, 4] (by omega) (by simp) (by simp)
  obtain ⟨z1, k6, s6, ⟨_, hk6⟩, hM6⟩ := s_l1Cur_among code k4 s4 [19, 61] (by omega) (by simp) (by simp)
  obtain ⟨z2, k7, s7, ⟨_, hk7⟩, hM7⟩ := s_l1Cur_among code k4 s4 [3, 21] (by omega) (by simp) (by simp)
  have main : ∀ (r : Roll) (k' : Nat) (s' : Int), ((x = 0 ∧ r = ⟨z0, v1, v2⟩ ∧ k' = k5 ∧ s' = s5) ∨ (x = 1 ∧ r = ⟨1 + v0, z1, v2⟩ ∧ k' = k6 ∧ s' = s6) ∨ (x = 2 ∧ r = ⟨1 + v0, v1, z2⟩ ∧ k' = k7 ∧ s' = s7) ∨ ((x ≠ 0 ∧ x ≠ 1 ∧ x ≠ 2) ∧ r = ⟨1 + v0, v1, v2⟩ ∧ k' = k4 ∧ s' = s4)) →
      MCall Tryz.prog n_s_l1Cur_roll [curB code k s] [cR] (eRoll r) [some (curB code k' s')] := by
    intro r k' s' hfin
    refine MCall.of fn_s_l1Cur_roll (by simp) rfl (by simp) ?_
    simp [c_s_l1Cur_roll, r_s_l1Cur_roll_0, r_s_l1Cur_roll_1]
    refine callQ_Mz [1000000] [] (MCall.arg hM1 (by simp)) (by simp) (by simp) (by simp) (by simp) (by simp) (by first | rfl | simp) (by simp) ?_
    simp
    refine callQ_Mz [1000000] [8] (MCall.arg hM2 (by simp)) (by simp) (by simp) (by simp) (by simp) (by simp) (by first | rfl | simp) (by simp) ?_
    simp
    refine callQ_Mz [1000000] [11] (MCall.arg hM3 (by simp)) (by simp) (by simp) (by simp) (by simp) (by simp) (by first | rfl | simp) (by simp) ?_
    simp
    rw [wrap64 (n := 1 + v0) (by omega) (by omega)]
    simp [r_s_l1Cur_roll_2]
    refine callQ_Mz [1000000] [] (MCall.arg hM4 (by simp)) (by simp) (by simp) (by simp) (by simp) (by simp) (by first | rfl | simp) (by simp) ?_
    simp [r_s_l1Cur_roll_3]
    rcases hfin with ⟨rfl, rfl, rfl, rfl⟩ | ⟨rfl, rfl, rfl, rfl⟩ | ⟨rfl, rfl, rfl, rfl⟩ | ⟨⟨n0, n1, n2⟩, rfl, rfl, rfl⟩
    · simp [r_s_l1Cur_roll_4]
      refine callQ_Mz [1000000] [19] (MCall.arg hM5 (by simp)) (by simp) (by simp) (by simp) (by simp) (by simp) (by first | rfl | simp) (by simp) ?_
      simp [r_s_l1Cur_roll_9]
    · simp [r_s_l1Cur_roll_5, r_s_l1Cur_roll_6]
      refine callQ_Mz [1000000] [25] (MCall.arg hM6 (by simp)) (by simp) (by simp) (by simp) (by simp) (by simp) (by first | rfl | simp) (by simp) ?_
      simp [r_s_l1Cur_roll_9]
    · simp [r_s_l1Cur_roll_5, r_s_l1Cur_roll_7, r_s_l1Cur_roll_8]
      refine callQ_Mz [1000000] [31] (MCall.arg hM7 (by simp)) (by simp) (by simp) (by simp) (by simp) (by simp) (by first | rfl | simp) (by simp) ?_
      simp [r_s_l1Cur_roll_9]
    · simp [r_s_l1Cur_roll_5, r_s_l1Cur_roll_7, r_s_l1Cur_roll_9, n0, n1, n2]
  by_cases c0 : x = 0
  · exact ⟨_, _, _, by omega, main _ _ _ (.inl ⟨c0, rfl, rfl, rfl⟩)⟩
  by_cases c1 : x = 1
  · exact ⟨_, _, _, by omega, main _ _ _ (.inr (.inl ⟨c1, rfl, rfl, rfl⟩))⟩
  by_cases c2 : x = 2
  · exact ⟨_, _, _, by omega, main _ _ _ (.inr (.inr (.inl ⟨c2, rfl, rfl, rfl⟩)))⟩
  · exact ⟨_, _, _, by omega, main _ _ _ (.inr (.inr (.inr ⟨⟨c0, c1, c2⟩, rfl, rfl, rfl⟩)))⟩
set_option maxHeartbeats 4000000 in
theorem s_DrawRollPages (code : List UInt8) : ∃ (l : Register) (x : Roll), List.length l ≤ 30 ∧ PCall Tryz.prog n_s_DrawRollPages [.ro 1 (code.map Y)] (.tup [oRegister l, eRoll x]) := by
  obtain ⟨l, k1, s1, ⟨hl, hk1⟩, hM1⟩ := s_l1Cur_anyRegister code 0 0 (by omega)
  obtain ⟨x, k2, s2, hk2, hM2⟩ := s_l1Cur_roll code k1 s1 (by omega)
  refine ⟨l, x, hl, ?_⟩
  refine PCall.of fn_s_DrawRollPages (by simp) ?_
  simp [c_s_DrawRollPages, r_s_DrawRollPages_0, r_s_DrawRollPages_1]
  simp [r_s_DrawRollPages_2]
  refine callQ_Mz [8] [] (MCall.arg hM1 (by simp)) (by simp) (by simp) (by simp) (by simp) (by simp) (by first | rfl | simp) (by simp) ?_
  simp
  simp [r_s_DrawRollPages_3, p_s_DrawRollPages_3]
  refine callD_M [8] [] (l := [_]) (MCall.arg hM2 (by simp)) (by simp) (by simp) (by simp) (by simp) (by simp) (by first | rfl | simp) (by simp) (by simp) ?_
  simp
  exact oEnd_of (by simp [p_s_DrawRollPages_3]) (by simp)
set_option maxHeartbeats 4000000 in
theorem s_DrawRollOrder (code : List UInt8) : ∃ (l : Register) (y : Int), List.length l ≤ 30 ∧ PCall Tryz.prog n_s_DrawRollOrder [.ro 1 (code.map Y)] (.tup [oRegister l, I y]) := by
  obtain ⟨l, k1, s1, ⟨hl, hk1⟩, hM1⟩ := s_l1Cur_anyRegister code 0 0 (by omega)
  obtain ⟨v, k2, s2, ⟨hv, hk2⟩, hM2⟩ := s_l1Cur_pick code k1 s1 24 (by omega) (by omega)
  have hd : IntKind.i64.wrap (v.tdiv 11) = 0 ∨ IntKind.i64.wrap (v.tdiv 11) = 1 ∨ IntKind.i64.wrap (v.tdiv 11) = 2 := by rw [Int.tdiv_eq_ediv_of_nonneg (by omega), wrap64 (by omega) (by omega)]; omega
  rcases hd with hd | hd | hd
  · obtain ⟨y, k3, s3, ⟨_, hk3⟩, hM3⟩ := s_l1Cur_among code k2 s2 [1, 2, 3] (by omega) (by simp) (by simp)
    have e3 : IntKind.i64.wrap (3 + 0) = 3 := wrap64 (by omega) (by omega)
    refine ⟨l, y, hl, ?_⟩
    refine PCall.of fn_s_DrawRollOrder (by simp) ?_
    simp [c_s_DrawRollOrder, r_s_DrawRollOrder_0, r_s_DrawRollOrder_1]
    simp [r_s_DrawRollOrder_2]
    refine callQ_Mz [7] [] (MCall.arg hM1 (by simp)) (by simp) (by simp) (by simp) (by simp) (by simp) (by first | rfl | simp) (by simp) ?_
    simp
    refine callQ_Mz [7] [] (MCall.arg hM2 (by simp)) (by simp) (by simp) (by simp) (by simp) (by simp) (by first | rfl | simp) (by simp) ?_
    simp
    rw [hd, e3]
    refine ⟨by omega, ?_⟩
    refine callQ_Mz [7] [11] (MCall.arg hM3 (by simp)) (by simp) (by simp) (by simp) (by simp) (by simp) (by first | rfl | simp) (by simp) ?_
    simp
  · obtain ⟨y, k3, s3, ⟨_, hk3⟩, hM3⟩ := s_l1Cur_among code k2 s2 [1, 2, 3, 0] (by omega) (by simp) (by simp)
    have e3 : IntKind.i64.wrap (3 + 1) = 4 := wrap64 (by omega) (by omega)
    refine ⟨l, y, hl, ?_⟩
    refine PCall.of fn_s_DrawRollOrder (by simp) ?_
    simp [c_s_DrawRollOrder, r_s_DrawRollOrder_0, r_s_DrawRollOrder_1]
    simp [r_s_DrawRollOrder_2]
    refine callQ_Mz [7] [] (MCall.arg hM1 (by simp)) (by simp) (by simp) (by simp) (by simp) (by simp) (by first | rfl | simp) (by simp) ?_
    simp
    refine callQ_Mz [7] [] (MCall.arg hM2 (by simp)) (by simp) (by simp) (by simp) (by simp) (by simp) (by first | rfl | simp) (by simp) ?_
    simp
    rw [hd, e3]
    refine ⟨by omega, ?_⟩
    refine callQ_Mz [7] [11] (MCall.arg hM3 (by simp)) (by simp) (by simp) (by simp) (by simp) (by simp) (by first | rfl | simp) (by simp) ?_
    simp
  · obtain ⟨y, k3, s3, ⟨_, hk3⟩, hM3⟩ := s_l1Cur_among code k2 s2 [1, 2, 3, 0, 4] (by omega) (by simp) (by simp)
    have e3 : IntKind.i64.wrap (3 + 2) = 5 := wrap64 (by omega) (by omega)
    refine ⟨l, y, hl, ?_⟩
    refine PCall.of fn_s_DrawRollOrder (by simp) ?_
    simp [c_s_DrawRollOrder, r_s_DrawRollOrder_0, r_s_DrawRollOrder_1]
    simp [r_s_DrawRollOrder_2]
    refine callQ_Mz [7] [] (MCall.arg hM1 (by simp)) (by simp) (by simp) (by simp) (by simp) (by simp) (by first | rfl | simp) (by simp) ?_
    simp
    refine callQ_Mz [7] [] (MCall.arg hM2 (by simp)) (by simp) (by simp) (by simp) (by simp) (by simp) (by first | rfl | simp) (by simp) ?_
    simp
    rw [hd, e3]
    refine ⟨by omega, ?_⟩
    refine callQ_Mz [7] [11] (MCall.arg hM3 (by simp)) (by simp) (by simp) (by simp) (by simp) (by simp) (by first | rfl | simp) (by simp) ?_
    simp
end Go.Proofs.YtbeoijlggphklaaGreatDoor

/- The compact code of the functions, and that it is theirs: written by a program of this claim. -/
namespace Go.Proofs.YtbeoijlggphklaaGreatDoor
open Go.Abs
set_option maxRecDepth 100000
def r_w_rTexts_0 : List CO := [⟨none, (some 4), (.mv (.k (.v (.bool false))))⟩]
def r_w_rTexts_1 : List CO := [⟨none, (some 6), (.mv (.t 0))⟩, ⟨none, (some 7), (.len false (.t 6))⟩, ⟨none, (some 8), (.mv (.t 1))⟩, ⟨none, (some 9), (.len false (.t 8))⟩, ⟨none, (some 10), (.bin .neq .none (.t 7) (.t 9))⟩]
def r_w_rTexts_2 : List CO := [⟨none, (some 4), (.mv (.k (.v (.bool false))))⟩]
def r_w_rTexts_3 : List CO := [⟨none, (some 5), (.mv (.k (.v (.int .i64 (0)))))⟩]
def r_w_rTexts_4 : List CO := [⟨none, (some 11), (.mv (.t 5))⟩, ⟨none, (some 12), (.mv (.t 0))⟩, ⟨none, (some 13), (.len false (.t 12))⟩, ⟨none, (some 14), (.bin .lss .none (.t 11) (.t 13))⟩]
def r_w_rTexts_5 : List CO := [⟨none, (some 17), (.mv (.t 0))⟩, ⟨none, (some 18), (.mv (.t 5))⟩, ⟨none, (some 19), (.iaddr 1 (.t 17) (.t 18))⟩, ⟨none, (some 20), (.ld false 1 (.t 19))⟩, ⟨none, (some 21), (.mv (.t 1))⟩, ⟨none, (some 22), (.mv (.t 5))⟩, ⟨none, (some 23), (.iaddr 1 (.t 21) (.t 22))⟩, ⟨none, (some 24), (.ld false 1 (.t 23))⟩, ⟨none, (some 25), (.bin .neq .none (.t 20) (.t 24))⟩]
def p_w_rTexts_5 : List (List Nat) := [[], [], [0, 1], [0, 1, 2], [], [], [4, 5], [4, 5, 6], [0, 1, 2, 3, 4, 5, 6, 7]]
def r_w_rTexts_6 : List CO := [⟨none, (some 4), (.mv (.k (.v (.bool false))))⟩]
def r_w_rTexts_7 : List CO := [⟨none, (some 15), (.mv (.t 5))⟩, ⟨none, (some 16), (.bin .add .none (.t 15) (.k (.v (.int .i64 (1)))))⟩, ⟨none, (some 5), (.mv (.t 16))⟩]
def l_w_rTexts_8 : C := (.seq (.seq (.reg r_w_rTexts_4 [0, 1, 5, 14]) (.cond (.t 14) .skip (.exit 0))) (.seq (.block 1 (.seq (.regD r_w_rTexts_5 p_w_rTexts_5 [0, 1, 5, 25]) (.cond (.t 25) (.seq (.reg r_w_rTexts_6 [4]) .ret) .skip))) (.reg r_w_rTexts_7 [0, 1, 5])))
def r_w_rTexts_9 : List CO := [⟨none, (some 4), (.mv (.k (.v (.bool true))))⟩]
/-- loop.example/g00884/laws.rTexts -/
def c_w_rTexts : C := (.seq (.reg r_w_rTexts_0 [0, 1]) (.seq (.seq (.reg r_w_rTexts_1 [0, 1, 10]) (.cond (.t 10) (.seq (.reg r_w_rTexts_2 [4]) .ret) .skip)) (.seq (.seq (.reg r_w_rTexts_3 [0, 1, 5]) (.block 0 (.loop l_w_rTexts_8))) (.seq (.reg r_w_rTexts_9 [4]) .ret))))
def k_w_rTexts : Nat → List Nat
  | 0 => [0, 1]
  | 1 => [0, 1, 10]
  | 2 => [4]
  | 3 => [0, 1, 5]
  | 4 => [0, 1, 5, 14]
  | 6 => [0, 1, 5, 25]
  | 7 => [4]
  | 5 => [0, 1, 5]
  | 8 => [4]
  | _ => []
theorem fn_w_rTexts : FnC Tryz.prog n_w_rTexts c_w_rTexts [(.tmp 4)] 26 :=
  ⟨Tryz.f40, _, k_w_rTexts, Tryz.func40, rfl, by kernel_rfl, by kernel_rfl, by kernel_rfl, rfl⟩
end Go.Proofs.YtbeoijlggphklaaGreatDoor

/- Rows of texts: are they the same. -/
set_option linter.unusedVariables false
set_option linter.unusedSimpArgs false
namespace Go.Proofs.YtbeoijlggphklaaGreatDoor
open Go.Abs

theorem w_rTexts (a b : List (List UInt8)) : PCall Tryz.prog n_w_rTexts [.ro 1 (a.map S), .ro 1 (b.map S)] (B (decide (a = b))) := by
  refine PCall.ofL fn_w_rTexts (by simp) fun hl => ?_
  simp at hl
  by_cases hl : a.length = b.length
  · simp [c_w_rTexts, r_w_rTexts_0, r_w_rTexts_1, r_w_rTexts_2, r_w_rTexts_3, r_w_rTexts_9, hl]
    refine loopK (fun i : Nat => ⟨[(0, .ro 1 (a.map S)), (1, .ro 1 (b.map S)), (5, I i)], [], []⟩) (fun i => a.length - i) (fun i => i ≤ a.length ∧ ∀ j, j < i → a[j]? = b[j]?) 0 (Wk.list rfl (by simp) (by simp)) ⟨by simp, by simp⟩ ?_
    rintro i ⟨hi, hj⟩ K hN hR hE
    simp [l_w_rTexts_8, r_w_rTexts_4]
    refine ⟨fun hlt => ?_, fun hge => ?_⟩
    · have hlb : i < b.length := by omega
      simp [r_w_rTexts_5, p_w_rTexts_5, hlt, hlb]
      refine ⟨⟨rfl, rfl⟩, fun hne => ?_, fun he => ?_⟩
      · simp [r_w_rTexts_6]
        refine hR _ ?_
        simp
        rintro rfl
        exact hne rfl
      · simp [r_w_rTexts_7]
        rw [wrap64 (by omega) (by omega)]
        refine hN (i + 1) _ (by omega) ⟨by omega, fun j hj' => ?_⟩ (Wk.list rfl (by simp) (by simp))
        by_cases e : j = i
        · subst e; simp [hlt, hlb, he]
        · exact hj j (by omega)
    · refine hE _ _ ?_
      have : a = b := by
        apply List.ext_getElem?
        intro j
        by_cases h : j < i
        · exact hj j h
        · rw [List.getElem?_eq_none (by omega), List.getElem?_eq_none (by omega)]
      simp only [blockK_exit]
      simp [r_w_rTexts_9, this]
  · simp [c_w_rTexts, r_w_rTexts_0, r_w_rTexts_1, r_w_rTexts_2, hl]
    exact ⟨fun _ e => hl (by rw [e]), fun e => absurd e (by omega)⟩
end Go.Proofs.YtbeoijlggphklaaGreatDoor

/- The compact code of the functions, and that it is theirs: written by a program of this claim. -/
namespace Go.Proofs.YtbeoijlggphklaaGreatDoor
open Go.Abs
set_option maxRecDepth 100000
def r_w_rInts_0 : List CO := [⟨none, (some 4), (.mv (.k (.v (.bool false))))⟩]
def r_w_rInts_1 : List CO := [⟨none, (some 6), (.mv (.t 0))⟩, ⟨none, (some 7), (.len false (.t 6))⟩, ⟨none, (some 8), (.mv (.t 1))⟩, ⟨none, (some 9), (.len false (.t 8))⟩, ⟨none, (some 10), (.bin .neq .none (.t 7) (.t 9))⟩]
def r_w_rInts_2 : List CO := [⟨none, (some 4), (.mv (.k (.v (.bool false))))⟩]
def r_w_rInts_3 : List CO := [⟨none, (some 5), (.mv (.k (.v (.int .i64 (0)))))⟩]
def r_w_rInts_4 : List CO := [⟨none, (some 11), (.mv (.t 5))⟩, ⟨none, (some 12), (.mv (.t 0))⟩, ⟨none, (some 13), (.len false (.t 12))⟩, ⟨none, (some 14), (.bin .lss .none (.t 11) (.t 13))⟩]
def r_w_rInts_5 : List CO := [⟨none, (some 17), (.mv (.t 0))⟩, ⟨none, (some 18), (.mv (.t 5))⟩, ⟨none, (some 19), (.iaddr 1 (.t 17) (.t 18))⟩, ⟨none, (some 20), (.ld false 1 (.t 19))⟩, ⟨none, (some 21), (.mv (.t 1))⟩, ⟨none, (some 22), (.mv (.t 5))⟩, ⟨none, (some 23), (.iaddr 1 (.t 21) (.t 22))⟩, ⟨none, (some 24), (.ld false 1 (.t 23))⟩, ⟨none, (some 25), (.bin .neq .none (.t 20) (.t 24))⟩]
def p_w_rInts_5 : List (List Nat) := [[], [], [0, 1], [0, 1, 2], [], [], [4, 5], [4, 5, 6], [0, 1, 2, 3, 4, 5, 6, 7]]
def r_w_rInts_6 : List CO := [⟨none, (some 4), (.mv (.k (.v (.bool false))))⟩]
def r_w_rInts_7 : List CO := [⟨none, (some 15), (.mv (.t 5))⟩, ⟨none, (some 16), (.bin .add .none (.t 15) (.k (.v (.int .i64 (1)))))⟩, ⟨none, (some 5), (.mv (.t 16))⟩]
def l_w_rInts_8 : C := (.seq (.seq (.reg r_w_rInts_4 [0, 1, 5, 14]) (.cond (.t 14) .skip (.exit 0))) (.seq (.block 1 (.seq (.regD r_w_rInts_5 p_w_rInts_5 [0, 1, 5, 25]) (.cond (.t 25) (.seq (.reg r_w_rInts_6 [4]) .ret) .skip))) (.reg r_w_rInts_7 [0, 1, 5])))
def r_w_rInts_9 : List CO := [⟨none, (some 4), (.mv (.k (.v (.bool true))))⟩]
/-- loop.example/g00884/laws.rInts -/
def c_w_rInts : C := (.seq (.reg r_w_rInts_0 [0, 1]) (.seq (.seq (.reg r_w_rInts_1 [0, 1, 10]) (.cond (.t 10) (.seq (.reg r_w_rInts_2 [4]) .ret) .skip)) (.seq (.seq (.reg r_w_rInts_3 [0, 1, 5]) (.block 0 (.loop l_w_rInts_8))) (.seq (.reg r_w_rInts_9 [4]) .ret))))
def k_w_rInts : Nat → List Nat
  | 0 => [0, 1]
  | 1 => [0, 1, 10]
  | 2 => [4]
  | 3 => [0, 1, 5]
  | 4 => [0, 1, 5, 14]
  | 6 => [0, 1, 5, 25]
  | 7 => [4]
  | 5 => [0, 1, 5]
  | 8 => [4]
  | _ => []
theorem fn_w_rInts : FnC Tryz.prog n_w_rInts c_w_rInts [(.tmp 4)] 26 :=
  ⟨Tryz.f45, _, k_w_rInts, Tryz.func45, rfl, by kernel_rfl, by kernel_rfl, by kernel_rfl, rfl⟩
def r_w_rBig_0 : List CO := [⟨none, (some 2), (.mv (.k (.v (.bool false))))⟩]
def r_w_rBig_1 : List CO := [⟨none, (some 3), (.mv (.t 0))⟩, ⟨none, (some 4), (.len false (.t 3))⟩, ⟨none, (some 5), (.bin .gtr .none (.t 4) (.k (.v (.int .i64 (65536)))))⟩, ⟨none, (some 2), (.mv (.t 5))⟩]
/-- loop.example/g00884/laws.rBig -/
def c_w_rBig : C := (.seq (.reg r_w_rBig_0 [0]) (.seq (.reg r_w_rBig_1 [2]) .ret))
def k_w_rBig : Nat → List Nat
  | 0 => [0]
  | 1 => [2]
  | _ => []
theorem fn_w_rBig : FnC Tryz.prog n_w_rBig c_w_rBig [(.tmp 2)] 6 :=
  ⟨Tryz.f38, _, k_w_rBig, Tryz.func38, rfl, by kernel_rfl, by kernel_rfl, by kernel_rfl, rfl⟩
end Go.Proofs.YtbeoijlggphklaaGreatDoor

/- Rows, and rows of rows, of whole numbers: are they the same? -/
set_option linter.unusedVariables false
set_option linter.unusedSimpArgs false
namespace Go.Proofs.YtbeoijlggphklaaGreatDoor
open Go.Abs

theorem w_rInts (a b : List Int) : PCall Tryz.prog n_w_rInts [.ro 1 (ints a), .ro 1 (ints b)] (B (decide (a = b))) := by
  refine PCall.ofL fn_w_rInts (by simp) fun hl => ?_
  simp at hl
  by_cases hl : a.length = b.length
  · simp [c_w_rInts, r_w_rInts_0, r_w_rInts_1, r_w_rInts_2, r_w_rInts_3, r_w_rInts_9, hl]
    refine loopQ_ix (fun i : Nat => ⟨[(0, .ro 1 (ints a)), (1, .ro 1 (ints b)), (5, I i)], [], []⟩) (fun i => a.length - i) (fun i => i ≤ a.length ∧ ∀ j, j < i → a[j]? = b[j]?) 0 (Wk.list rfl (by simp) (by simp)) ⟨by simp, by simp⟩ ?_
    rintro i ⟨hi, hj⟩
    simp [l_w_rInts_8, r_w_rInts_4]
    refine ⟨fun hlt => ?_, fun hge => ?_⟩
    · have hlb : i < b.length := by omega
      simp [r_w_rInts_5, p_w_rInts_5, hlt, hlb]
      refine ⟨⟨rfl, rfl⟩, fun hne => ?_, fun he => ?_⟩
      · simp [r_w_rInts_6]
        rintro rfl
        exact hne rfl
      · simp [r_w_rInts_7]
        rw [wrap64 (by omega) (by omega)]
        refine roundA_of (i + 1) (by omega) ⟨by omega, fun j hj' => ?_⟩ (Wk.list rfl (by simp) (by simp))
        by_cases e : j = i
        · subst e; simp [hlt, hlb, he]
        · exact hj j (by omega)
    · apply List.ext_getElem?
      intro j
      by_cases h : j < i
      · exact hj j h
      · rw [List.getElem?_eq_none (by omega), List.getElem?_eq_none (by omega)]
  · simp [c_w_rInts, r_w_rInts_0, r_w_rInts_1, r_w_rInts_2, hl]
    refine ⟨fun _ e => hl (by rw [e]), fun e => absurd (by omega) hl⟩
theorem w_rBig (code : List UInt8) : PCall Tryz.prog n_w_rBig [.ro 1 (code.map Y)] (B (decide (65536 < code.length))) := by
  refine PCall.ofL fn_w_rBig (by simp) fun hl => ?_
  simp [c_w_rBig, r_w_rBig_0, r_w_rBig_1]
  omega
end Go.Proofs.YtbeoijlggphklaaGreatDoor

/- The compact code of the functions, and that it is theirs: written by a program of this claim. -/
namespace Go.Proofs.YtbeoijlggphklaaGreatDoor
open Go.Abs
set_option maxRecDepth 100000
def r_i_RollOrder_0 : List CO := [⟨none, (some 2), (.box 1 (.t 0))⟩, ⟨none, (some 4), (.mv (.k (.v (.slice none 0 0))))⟩, ⟨none, (some 5), (.mv (.k (.v (.bool false))))⟩]
def r_i_RollOrder_1 : List CO := [⟨none, (some 9), (.ld true 1 (.t 2))⟩, ⟨none, (some 10), (.call n_i_IsValidRegister [(.t 9)])⟩, ⟨none, (some 11), (.un .not (.t 10))⟩, ⟨none, (some 12), (.mv (.t 11))⟩, ⟨(some (12, false)), (some 13), (.mv (.t 1))⟩, ⟨(some (12, false)), (some 14), (.call n_i_inside [(.t 13), (.k (.v (.int .i64 (1)))), (.k (.v (.int .i64 (3))))])⟩, ⟨(some (12, false)), (some 15), (.un .not (.t 14))⟩, ⟨none, (some 16), (.pick (.t 12) (.k (.v (.bool true))) (.t 15))⟩]
def r_i_RollOrder_2 : List CO := [⟨none, (some 4), (.mv (.k (.v (.slice none 0 0))))⟩, ⟨none, (some 5), (.mv (.k (.v (.bool false))))⟩]
def r_i_RollOrder_3 : List CO := [⟨none, (some 17), (.bslice 1 (.v (.int .i64 (0))) 0 [])⟩, ⟨none, (some 6), (.mv (.t 17))⟩]
def r_i_RollOrder_4 : List CO := [⟨none, (some 18), (.ld true 1 (.t 2))⟩, ⟨none, (some 19), (.mv (.t 1))⟩, ⟨none, (some 20), (.call n_i_Register_ordered [(.t 18), (.t 19)])⟩, ⟨none, (some 21), (.len false (.t 20))⟩, ⟨none, (some 22), (.mv (.k (.v (.int .i64 (0)))))⟩]
def r_i_RollOrder_5 : List CO := [⟨none, (some 23), (.bin .lss .none (.t 22) (.t 21))⟩]
def r_i_RollOrder_6 : List CO := [⟨none, (some 24), (.iaddr 18 (.t 20) (.t 22))⟩, ⟨none, (some 25), (.ld true 18 (.t 24))⟩, ⟨none, (some 8), (.box 18 (.k (.agg [(.v (.int .i64 (0))), (.v (.string (bs []))), (.v (.int .i64 (0))), (.v (.int .i64 (0))), (.v (.int .i64 (0))), (.v (.int .i64 (0))), (.v (.int .i64 (0))), (.v (.int .i64 (0))), (.v (.int .i64 (0))), (.v (.int .i64 (0))), (.v (.int .i64 (0))), (.v (.int .i64 (0))), (.v (.int .i64 (0))), (.v (.int .i64 (0))), (.v (.int .i64 (0))), (.v (.int .i64 (0))), (.v (.int .i64 (0))), (.v (.int .i64 (0)))])))⟩, ⟨none, none, (.st 18 (.t 8) (.t 25))⟩]
def r_i_RollOrder_7 : List CO := [⟨none, (some 26), (.mv (.t 6))⟩, ⟨none, (some 27), (.faddr 0 (.t 8))⟩, ⟨none, (some 28), (.ld false 1 (.t 27))⟩, ⟨none, (some 29), (.bslice 1 (.v (.int .i64 (0))) 1 [(0, (.t 28))])⟩, ⟨none, (some 30), (.app 1 8 (.t 26) (.t 29))⟩, ⟨none, (some 6), (.mv (.t 30))⟩]
def r_i_RollOrder_8 : List CO := [⟨none, (some 31), (.bin .add .none (.t 22) (.k (.v (.int .i64 (1)))))⟩, ⟨none, (some 22), (.mv (.t 31))⟩]
def l_i_RollOrder_9 : C := (.seq (.reg r_i_RollOrder_5 [6, 20, 21, 22, 23]) (.seq (.cond (.t 23) .skip (.exit 0)) (.seq (.block 1 (.seq (.reg r_i_RollOrder_6 [6, 8, 20, 21, 22]) (.reg r_i_RollOrder_7 [6, 20, 21, 22]))) (.reg r_i_RollOrder_8 [6, 20, 21, 22]))))
def r_i_RollOrder_10 : List CO := [⟨none, (some 32), (.mv (.t 6))⟩, ⟨none, (some 4), (.mv (.t 32))⟩, ⟨none, (some 5), (.mv (.k (.v (.bool true))))⟩]
/-- loop.example/g00884/impl.RollOrder -/
def c_i_RollOrder : C := (.seq (.reg r_i_RollOrder_0 [1, 2]) (.seq (.seq (.reg r_i_RollOrder_1 [1, 2, 16]) (.cond (.t 16) (.seq (.reg r_i_RollOrder_2 [4, 5]) .ret) .skip)) (.seq (.reg r_i_RollOrder_3 [1, 2, 6]) (.seq (.seq (.reg r_i_RollOrder_4 [6, 20, 21, 22]) (.block 0 (.loop l_i_RollOrder_9))) (.seq (.reg r_i_RollOrder_10 [4, 5]) .ret)))))
def k_i_RollOrder : Nat → List Nat
  | 0 => [1, 2]
  | 1 => [1, 2, 16]
  | 2 => [4, 5]
  | 3 => [1, 2, 6]
  | 4 => [6, 20, 21, 22]
  | 5 => [6, 20, 21, 22, 23]
  | 6 => [6, 8, 20, 21, 22]
  | 7 => [6, 20, 21, 22]
  | 8 => [6, 20, 21, 22]
  | 9 => [4, 5]
  | _ => []
theorem fn_i_RollOrder : FnC Tryz.prog n_i_RollOrder c_i_RollOrder [(.tmp 4), (.tmp 5)] 33 :=
  ⟨Tryz.f43, _, k_i_RollOrder, Tryz.func43, rfl, by kernel_rfl, by kernel_rfl, by kernel_rfl, rfl⟩
def r_s_RollOrder_0 : List CO := [⟨none, (some 2), (.box 1 (.t 0))⟩, ⟨none, (some 4), (.mv (.k (.v (.slice none 0 0))))⟩, ⟨none, (some 5), (.mv (.k (.v (.bool false))))⟩]
def r_s_RollOrder_1 : List CO := [⟨none, (some 9), (.bslice 1 (.v (.int .i64 (0))) 0 [])⟩, ⟨none, (some 6), (.mv (.t 9))⟩]
def r_s_RollOrder_2 : List CO := [⟨none, (some 10), (.ld true 1 (.t 2))⟩, ⟨none, (some 11), (.call n_s_l16Good [(.t 10)])⟩, ⟨none, (some 12), (.un .not (.t 11))⟩, ⟨none, (some 13), (.mv (.t 12))⟩, ⟨(some (13, false)), (some 14), (.mv (.t 1))⟩, ⟨(some (13, false)), (some 15), (.call n_s_l25By [(.t 14)])⟩, ⟨(some (13, false)), (some 16), (.un .not (.t 15))⟩, ⟨none, (some 17), (.pick (.t 13) (.k (.v (.bool true))) (.t 16))⟩]
def r_s_RollOrder_3 : List CO := [⟨none, (some 18), (.mv (.t 6))⟩, ⟨none, (some 4), (.mv (.t 18))⟩, ⟨none, (some 5), (.mv (.k (.v (.bool false))))⟩]
def r_s_RollOrder_4 : List CO := [⟨none, (some 19), (.ld true 1 (.t 2))⟩, ⟨none, (some 20), (.mv (.t 1))⟩, ⟨none, (some 21), (.call n_s_l25Order [(.t 19), (.t 20)])⟩, ⟨none, (some 7), (.mv (.t 21))⟩]
def r_s_RollOrder_5 : List CO := [⟨none, (some 8), (.mv (.k (.v (.int .i64 (0)))))⟩]
def r_s_RollOrder_6 : List CO := [⟨none, (some 22), (.mv (.t 8))⟩, ⟨none, (some 23), (.mv (.t 7))⟩, ⟨none, (some 24), (.len false (.t 23))⟩, ⟨none, (some 25), (.bin .lss .none (.t 22) (.t 24))⟩]
def r_s_RollOrder_7 : List CO := [⟨none, (some 28), (.mv (.t 6))⟩, ⟨none, (some 29), (.faddr 0 (.t 2))⟩, ⟨none, (some 30), (.ld false 1 (.t 29))⟩, ⟨none, (some 31), (.mv (.t 7))⟩, ⟨none, (some 32), (.mv (.t 8))⟩, ⟨none, (some 33), (.iaddr 1 (.t 31) (.t 32))⟩, ⟨none, (some 34), (.ld false 1 (.t 33))⟩, ⟨none, (some 35), (.iaddr 18 (.t 30) (.t 34))⟩, ⟨none, (some 36), (.faddr 0 (.t 35))⟩, ⟨none, (some 37), (.ld false 1 (.t 36))⟩, ⟨none, (some 38), (.bslice 1 (.v (.int .i64 (0))) 1 [(0, (.t 37))])⟩, ⟨none, (some 39), (.app 1 8 (.t 28) (.t 38))⟩, ⟨none, (some 6), (.mv (.t 39))⟩]
def p_s_RollOrder_7 : List (List Nat) := [[], [], [1], [], [], [3, 4], [3, 4, 5], [1, 2, 3, 4, 5, 6], [1, 2, 3, 4, 5, 6, 7], [1, 2, 3, 4, 5, 6, 7, 8], [1, 2, 3, 4, 5, 6, 7, 8, 9], [0, 1, 2, 3, 4, 5, 6, 7, 8, 9, 10], [0, 1, 2, 3, 4, 5, 6, 7, 8, 9, 10, 11]]
def r_s_RollOrder_8 : List CO := [⟨none, (some 26), (.mv (.t 8))⟩, ⟨none, (some 27), (.bin .add .none (.t 26) (.k (.v (.int .i64 (1)))))⟩, ⟨none, (some 8), (.mv (.t 27))⟩]
def l_s_RollOrder_9 : C := (.seq (.seq (.reg r_s_RollOrder_6 [2, 6, 7, 8, 25]) (.cond (.t 25) .skip (.exit 0))) (.seq (.block 1 (.regD r_s_RollOrder_7 p_s_RollOrder_7 [2, 6, 7, 8])) (.reg r_s_RollOrder_8 [2, 6, 7, 8])))
def r_s_RollOrder_10 : List CO := [⟨none, (some 40), (.mv (.t 6))⟩, ⟨none, (some 4), (.mv (.t 40))⟩, ⟨none, (some 5), (.mv (.k (.v (.bool true))))⟩]
/-- loop.example/g00884/spec.RollOrder -/
def c_s_RollOrder : C := (.seq (.reg r_s_RollOrder_0 [1, 2]) (.seq (.reg r_s_RollOrder_1 [1, 2, 6]) (.seq (.seq (.reg r_s_RollOrder_2 [1, 2, 6, 17]) (.cond (.t 17) (.seq (.reg r_s_RollOrder_3 [4, 5]) .ret) .skip)) (.seq (.reg r_s_RollOrder_4 [2, 6, 7]) (.seq (.seq (.reg r_s_RollOrder_5 [2, 6, 7, 8]) (.block 0 (.loop l_s_RollOrder_9))) (.seq (.reg r_s_RollOrder_10 [4, 5]) .ret))))))
def k_s_RollOrder : Nat → List Nat
  | 0 => [1, 2]
  | 1 => [1, 2, 6]
  | 2 => [1, 2, 6, 17]
  | 3 => [4, 5]
  | 4 => [2, 6, 7]
  | 5 => [2, 6, 7, 8]
  | 6 => [2, 6, 7, 8, 25]
  | 8 => [2, 6, 7, 8]
  | 7 => [2, 6, 7, 8]
  | 9 => [4, 5]
  | _ => []
theorem fn_s_RollOrder : FnC Tryz.prog n_s_RollOrder c_s_RollOrder [(.tmp 4), (.tmp 5)] 41 :=
  ⟨Tryz.f44, _, k_s_RollOrder, Tryz.func44, rfl, by kernel_rfl, by kernel_rfl, by kernel_rfl, rfl⟩
end Go.Proofs.YtbeoijlggphklaaGreatDoor

/- RollOrder: program, reference, law. -/
set_option linter.unusedVariables false
set_option linter.unusedSimpArgs false
namespace Go.Proofs.YtbeoijlggphklaaGreatDoor
open Go.Abs

/-- The numbers of the first ones. -/
def upto {α : Type} (f : α → Int) (L : List α) (i : Nat) : List Int := (L.take i).map f
theorem upto_len {α : Type} {f : α → Int} {L : List α} {i : Nat} (h : i ≤ L.length) : (upto f L i).length = i := by rw [upto, List.length_map, List.length_take]; omega
theorem upto_succ {α : Type} {f : α → Int} {L : List α} {i : Nat} (h : i < L.length) : upto f L (i + 1) = upto f L i ++ [f L[i]] := by rw [upto, take_succ' h, List.map_append]; rfl
theorem upto_all {α : Type} {f : α → Int} {L : List α} : upto f L L.length = L.map f := by rw [upto, List.take_length]
theorem upto_row {α : Type} {f : α → Int} {L : List α} {i : Nat} (h : i < L.length) : List.take i (ints (upto f L i)) ++ [I (f L[i])] = ints (upto f L (i + 1)) := by
  rw [upto_succ h, ints, ints, List.map_append, List.take_of_length_le (by rw [List.length_map, upto_len (by omega)]; omega)]; rfl
theorem i_RollOrder (l : Register) (y : Int) : PCall Tryz.prog n_i_RollOrder [eRegister l, I y] (.tup [.own 1 (ints (orderN l y)), B (orderOk l y)]) := by
  refine PCall.ofN fn_i_RollOrder (by simp) ?_
  simp [c_i_RollOrder, r_i_RollOrder_0, r_i_RollOrder_1]
  refine callQ_v (PCall.arg (i_IsValidRegister l) (by simp)) ?_
  cases h1 : register l with
  | false => simp [r_i_RollOrder_2, orderN, orderOk, h1]
  | true =>
  simp
  refine callQ_v (i_inside ..) ?_
  cases h2 : inR y 1 3 with
  | false => simp [r_i_RollOrder_2, orderN, orderOk, h1, h2]
  | true =>
  have hok : orderOk l y = true := by simp [orderOk, h1, h2]
  have hN0 : orderN l y = (rollOrd y l).map Grant.number := by simp [orderN, hok]
  have hl := register_len h1
  have hL := rollOrd_len y l
  simp [r_i_RollOrder_3, r_i_RollOrder_4]
  refine callQ_of (PCall.arg (i_Register_ordered l y h1) (by simp)) rfl (.inl (by simp)) (by simp) ?_
  rw [hok, hN0]
  generalize rollOrd y l = L at hL ⊢
  simp
  refine loopK (fun i : Nat => ⟨[(6, .sl 17 0 i), (20, .sl 20 0 L.length), (21, I L.length), (22, I i)], [(20, ⟨18, L.map eGrant⟩), (17, ⟨1, ints (upto Grant.number L i)⟩)], []⟩) (fun i => L.length - i) (fun i => i ≤ L.length) 0 (Wk.list rfl (by simp) (by simp [upto])) (by simp) ?_
  intro i hi K hN hR hE
  simp [l_i_RollOrder_9, r_i_RollOrder_5]
  refine ⟨fun hlt => ?_, fun hge => ?_⟩
  · simp [r_i_RollOrder_6, hlt]
    simp [r_i_RollOrder_7, r_i_RollOrder_8, upto_len (f := Grant.number) hi]
    have hul := upto_len (f := Grant.number) hi
    have hrow := upto_row (f := Grant.number) hlt
    refine ⟨by unfold lenBound; omega, ?_⟩
    rw [wrap64 (by omega) (by omega), hrow]
    refine hN (i + 1) _ (by omega) (by omega) (Wk.trans (Wk.ren 30 17 (by decide) (by simp)) (Wk.list rfl ?_ ?_))
    · simp [AS.ren, ren, reN]
    · simp [AS.ren, ren, reN, renB]
  · obtain rfl : i = L.length := by omega
    refine hE _ _ ?_
    simp only [blockK_exit]
    simp [r_i_RollOrder_10, upto_all, upto_len (f := Grant.number) (Nat.le_refl L.length)]
def numAt (l : Register) (q : Nat) : Int := (List.getD l q g00).number
theorem s_RollOrder (l : Register) (y : Int) : PCall Tryz.prog n_s_RollOrder [eRegister l, I y] (.tup [.own 1 (ints (orderN l y)), B (orderOk l y)]) := by
  refine PCall.of fn_s_RollOrder (by simp) ?_
  simp [c_s_RollOrder, r_s_RollOrder_0, r_s_RollOrder_1, r_s_RollOrder_2]
  refine callQ_v (PCall.arg (s_l16Good l) (by simp)) ?_
  cases h1 : register l with
  | false => simp [r_s_RollOrder_3, orderN, orderOk, h1]
  | true =>
  simp
  refine callQ_v (s_l25By ..) ?_
  cases h2 : inR y 1 3 with
  | false => simp [r_s_RollOrder_3, orderN, orderOk, h1, h2]
  | true =>
  have hok : orderOk l y = true := by simp [orderOk, h1, h2]
  have hN0 : orderN l y = (rollIx y l).map (numAt l) := by
    rw [orderN, if_pos hok, ← rollIx_map h1, List.map_map]; rfl
  have hl := register_len h1
  have hL := rollIx_len y l
  have hLm : ∀ q ∈ rollIx y l, q < List.length l := rollIx_lt
  simp [r_s_RollOrder_4, r_s_RollOrder_5]
  refine callQ_of (PCall.arg (s_l25Order l y h1) (by simp)) rfl (.inl (by simp)) (by simp) ?_
  rw [hok, hN0]
  generalize rollIx y l = L at hL hLm ⊢
  simp
  refine loopK (fun i : Nat => ⟨[(2, .ref 2 0 0), (6, .sl 9 0 i), (7, .sl 21 0 L.length), (8, I i)], [(2, ⟨1, [eRegister l]⟩), (21, ⟨1, L.map eIx⟩), (9, ⟨1, ints (upto (numAt l) L i)⟩)], []⟩) (fun i => L.length - i) (fun i => i ≤ L.length) 0 (Wk.list rfl (by simp) (by simp [upto])) (by simp) ?_
  intro i hi K hN hR hE
  simp [l_s_RollOrder_9, r_s_RollOrder_6]
  refine ⟨fun hlt => ?_, fun hge => ?_⟩
  · have hq := hLm L[i] (List.getElem_mem _)
    have hgq : l[L[i]]? = some l[L[i]] := List.getElem?_eq_getElem hq
    have hgd : numAt l L[i] = l[L[i]].number := by simp [numAt, hgq]
    have hul := upto_len (f := numAt l) hi
    have hrow := upto_row (f := numAt l) hlt
    simp only [hgd] at hrow
    simp [r_s_RollOrder_7, p_s_RollOrder_7, r_s_RollOrder_8, hlt, hq, hul]
    refine ⟨by unfold lenBound; omega, oEnd_of (by simp [p_s_RollOrder_7]) (by simp), ?_⟩
    rw [wrap64 (by omega) (by omega), hrow]
    refine hN (i + 1) _ (by omega) (by omega) (Wk.trans (Wk.ren 39 9 (by decide) (by simp)) (Wk.list rfl ?_ ?_))
    · simp [AS.ren, ren, reN]
    · simp [AS.ren, ren, reN, renB]
  · obtain rfl : i = L.length := by omega
    refine hE _ _ ?_
    simp only [blockK_exit]
    simp [r_s_RollOrder_10, upto_all, upto_len (f := numAt l) (Nat.le_refl L.length)]
end Go.Proofs.YtbeoijlggphklaaGreatDoor
