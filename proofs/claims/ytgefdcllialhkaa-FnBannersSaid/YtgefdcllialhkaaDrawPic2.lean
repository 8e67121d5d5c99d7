/- Pictures that are drawn: the fields' pictures, ordinaries that are laid over them. -/
import Derived.Test.YtgefdcllialhkaaCodeDrawPic2
import Derived.Test.YtgefdcllialhkaaDrawPic
import Derived.Test.YtgefdcllialhkaaDrawBan
set_option linter.unusedVariables false
set_option linter.unusedSimpArgs false
namespace Go.Proofs.Ytgefdcllialhkaa
open Go.Abs

theorem choose2 {α : Type} [Inhabited α] {P : Nat → Nat → α → Prop} (h : ∀ x y, x < 20 → y < 24 → ∃ v, P x y v) : ∃ f : Nat → Nat → α, ∀ x y, x < 20 → y < 24 → P x y (f x y) :=
  ⟨fun x y => if h' : x < 20 ∧ y < 24 then (h x y h'.1 h'.2).choose else default, fun x y hx hy => by dsimp only; rw [dif_pos ⟨hx, hy⟩]; exact (h x y hx hy).choose_spec⟩
theorem choose3 {β α : Type} [Inhabited α] {Q : β → Prop} {P : β → Nat → Nat → α → Prop} (h : ∀ l x y, Q l → x < 20 → y < 24 → ∃ v, P l x y v) : ∃ f : β → Nat → Nat → α, ∀ l x y, Q l → x < 20 → y < 24 → P l x y (f l x y) := by
  classical
  exact ⟨fun l x y => if h' : Q l ∧ x < 20 ∧ y < 24 then (h l x y h'.1 h'.2.1 h'.2.2).choose else default, fun l x y hl hx hy => by dsimp only; rw [dif_pos ⟨hl, hx, hy⟩]; exact (h l x y hl hx hy).choose_spec⟩
def iterN {β : Type} (f : Nat → β → β) (b : β) : Nat → β
  | 0 => b
  | n + 1 => f n (iterN f b n)
theorem iterN_inv {β : Type} {f : Nat → β → β} {P : β → Prop} {b : β} (hb : P b) (hf : ∀ n b, P b → P (f n b)) : ∀ n, P (iterN f b n)
  | 0 => hb
  | n + 1 => hf n _ (iterN_inv hb hf n)
def cellS (h : Nat → Nat → Bool) (a : List Int → Nat → Nat → Int) (y x : Nat) (l : List Int) : List Int := if h x y then l.set y (a l x y) else l
def rowS (h : Nat → Nat → Bool) (a : List Int → Nat → Nat → Int) (l : List Int) (y n : Nat) : List Int := iterN (fun x l => cellS h a y x l) l n
def gridS (h : Nat → Nat → Bool) (a : List Int → Nat → Nat → Int) (l : List Int) (n : Nat) : List Int := iterN (fun y l => rowS h a l y 20) l n
theorem rowS_len {h : Nat → Nat → Bool} {a : List Int → Nat → Nat → Int} {l : List Int} {y : Nat} (hl : l.length = 24) (n : Nat) : (rowS h a l y n).length = 24 :=
  iterN_inv (P := fun l : List Int => l.length = 24) hl (fun n b hb => by unfold cellS; split <;> simp [hb]) n
theorem gridS_len {h : Nat → Nat → Bool} {a : List Int → Nat → Nat → Int} {l : List Int} (hl : l.length = 24) (n : Nat) : (gridS h a l n).length = 24 :=
  iterN_inv (P := fun l : List Int => l.length = 24) hl (fun n b hb => rowS_len hb 20) n
set_option maxHeartbeats 1000000 in
theorem s_OrdinaryCells (o : Int) (ho : 0 ≤ o ∧ o ≤ 7) : ∃ l : List Int, l.length = 24 ∧ PCall Try.prog n_s_OrdinaryCells [I o] (.tup [.agg [.own 1 (l.map I)], B true]) := by
  obtain ⟨h, hh⟩ := choose2 fun x y (hx : x < 20) (hy : y < 24) => s_l9Ord o x y (by omega) (by omega)
  obtain ⟨a, ha⟩ := choose3 (Q := fun l : List Int => l.length = 24) fun l x y hl hx hy => s_l9Add l x y hl hx hy
  have h0 : (List.replicate 24 (0 : Int)).length = 24 := by simp
  refine ⟨gridS h a (List.replicate 24 0) 24, gridS_len h0 24, ?_⟩
  generalize hz : List.replicate 24 (0 : Int) = z0 at h0
  have hin : inR o 0 7 = true := by rw [inR_iff]; exact ho
  refine PCall.of fn_s_OrdinaryCells (by simp) ?_
  simp [c_s_OrdinaryCells, r_s_OrdinaryCells_0, r_s_OrdinaryCells_1]
  refine callQ_v (s_l1In ..) ?_
  simp [hin, r_s_OrdinaryCells_3]
  refine callQ_of s_l9Empty rfl (.inl (by simp)) (by simp) ?_
  rw [hz]
  simp [r_s_OrdinaryCells_4, l_s_OrdinaryCells_13]
  refine loopK (fun y : Nat => ⟨[(0, I o), (2, .ref 2 0 0), (4, .ref 4 0 0), (5, I y)], [(2, ⟨1, [.agg [.v (.slice none 0 0)]]⟩), (4, ⟨1, [.agg [.sl 11 0 24]]⟩), (11, ⟨1, (gridS h a z0 y).map I⟩)], []⟩) (fun y => 24 - y) (fun y => y ≤ 24) 0 (Wk.list rfl (by simp) (by simp [gridS, iterN, h0])) (by simp) ?_
  intro y hy K hN hR hE
  simp [r_s_OrdinaryCells_5, r_s_OrdinaryCells_12]
  refine ⟨fun hlt => ?_, fun hge => ?_⟩
  · simp [r_s_OrdinaryCells_6, l_s_OrdinaryCells_11]
    have hgl := gridS_len (h := h) (a := a) h0 y
    have hgs : gridS h a z0 (y + 1) = rowS h a (gridS h a z0 y) y 20 := rfl
    generalize gridS h a z0 y = g at hgl hgs ⊢
    refine loopK (fun x : Nat => ⟨[(0, I o), (2, .ref 2 0 0), (4, .ref 4 0 0), (5, I y), (6, I x)], [(2, ⟨1, [.agg [.v (.slice none 0 0)]]⟩), (4, ⟨1, [.agg [.sl 11 0 24]]⟩), (11, ⟨1, (rowS h a g y x).map I⟩)], []⟩) (fun x => 20 - x) (fun x => x ≤ 20) 0 (Wk.list rfl (by simp) (by simp [rowS, iterN])) (by simp) ?_
    intro x hx K' hN' hR' hE'
    have hrl := rowS_len (h := h) (a := a) (y := y) hgl x
    have hrs : rowS h a g y (x + 1) = cellS h a y x (rowS h a g y x) := rfl
    obtain ⟨r, hr⟩ : ∃ r, rowS h a g y x = r := ⟨_, rfl⟩
    rw [hr] at hrl hrs ⊢
    simp [r_s_OrdinaryCells_7, r_s_OrdinaryCells_10]
    refine ⟨fun hltx => ?_, fun hgex => ?_⟩
    · have hO := hh x y (by omega) (by omega)
      have hA := ha r x y hrl (by omega) (by omega)
      simp [r_s_OrdinaryCells_8]
      refine callQ_v hO ?_
      cases hc : h x y with
      | true =>
        simp [r_s_OrdinaryCells_9]
        refine callQ_Mz [11] [] (MCall.arg hA (by simp)) (by simp) (by simp) (by simp) (by simp) (by simp) (by first | rfl | simp) (by simp) ?_
        simp
        rw [wrap64 (by omega) (by omega)]
        refine hN' (x + 1) _ (by omega) (by omega) (Wk.list rfl ?_ ?_)
        · simp
        · simp [hrs, cellS, hc]
      | false =>
        simp
        rw [wrap64 (by omega) (by omega)]
        refine hN' (x + 1) _ (by omega) (by omega) (Wk.list rfl ?_ ?_)
        · simp
        · simp [hrs, cellS, hc]
    · obtain rfl : x = 20 := by omega
      refine hE' _ _ ?_
      simp only [blockK_exit]
      simp
      rw [wrap64 (by omega) (by omega)]
      refine hN (y + 1) _ (by omega) (by omega) (Wk.list rfl ?_ ?_)
      · simp
      · simp [hgs, hr]
  · obtain rfl : y = 24 := by omega
    refine hE _ _ ?_
    simp only [blockK_exit]
    simp [r_s_OrdinaryCells_14]
    exact (gridS_len h0 24).symm
theorem s_l14Picture (f : Field) (hf : fieldOk f = true) (l : List Int) (hl : l.length = 24) : ∃ F : Nat → Nat → Int, PCall Try.prog n_s_l14Picture [eField f, .agg [.ro 1 (l.map I)]] (.own 1 ((tbl 24 20 F).map ownI)) := by
  obtain ⟨t, ht⟩ := choose2 fun x y (hx : x < 20) (hy : y < 24) => s_FieldTincture f x y (by omega) (by omega) hf
  obtain ⟨o, ho⟩ := choose2 ht
  obtain ⟨h, hh⟩ := choose2 fun x y (hx : x < 20) (hy : y < 24) => s_l9Has_in l x y hl hx hy
  refine ⟨fun x y => if h x y then IntKind.i64.wrap (IntKind.i64.wrap (f.first + f.second) - t x y) else t x y, ?_⟩
  generalize hF : (fun x y => if h x y then IntKind.i64.wrap (IntKind.i64.wrap (f.first + f.second) - t x y) else t x y) = F
  refine PCall.ofN fn_s_l14Picture (by simp) ?_
  simp [c_s_l14Picture, r_s_l14Picture_0, r_s_l14Picture_1, r_s_l14Picture_2, l_s_l14Picture_15]
  refine loopK (fun y : Nat => ⟨[(2, .ref 2 0 0), (3, .ref 3 0 0), (5, .sl 11 0 y), (6, I y)], [(11, ⟨1, (tbl y 20 F).map ownI⟩), (3, ⟨1, [.agg [.ro 1 (l.map I)]]⟩), (2, ⟨4, [eField f]⟩)], []⟩) (fun y => 24 - y) (fun y => y ≤ 24) 0 (Wk.list rfl (by simp) (by simp [tbl])) (by simp) ?_
  intro y hy K hN hR hE
  simp [r_s_l14Picture_3, r_s_l14Picture_14]
  refine ⟨fun hlt => ?_, fun hge => ?_⟩
  · simp [r_s_l14Picture_4, r_s_l14Picture_5, l_s_l14Picture_12]
    refine loopK (fun x : Nat => ⟨[(2, .ref 2 0 0), (3, .ref 3 0 0), (5, .sl 11 0 y), (6, I y), (7, .sl 16 0 x), (8, I x)], [(11, ⟨1, (tbl y 20 F).map ownI⟩), (16, ⟨1, ints (rowOf x fun x => F x y)⟩), (3, ⟨1, [.agg [.ro 1 (l.map I)]]⟩), (2, ⟨4, [eField f]⟩)], []⟩) (fun x => 20 - x) (fun x => x ≤ 20) 0 (Wk.list rfl (by simp) (by simp [rowOf])) (by simp) ?_
    intro x hx K' hN' hR' hE'
    simp [r_s_l14Picture_6, r_s_l14Picture_11]
    refine ⟨fun hltx => ?_, fun hgex => ?_⟩
    · have hT := ho x y (by omega) (by omega)
      have hH := hh x y (by omega) (by omega)
      simp [r_s_l14Picture_7]
      refine callQ_of (PCall.arg hT (by simp)) rfl (.inl (by simp)) (by simp) ?_
      simp [r_s_l14Picture_8]
      refine callQ_v (PCall.arg hH (by simp)) ?_
      have hFx : F x y = if h x y then IntKind.i64.wrap (IntKind.i64.wrap (f.first + f.second) - t x y) else t x y := by rw [← hF]
      cases hc : h x y with
      | true =>
        rw [hc] at hFx
        simp [r_s_l14Picture_9]
        refine callQ_v (PCall.arg (s_l14Other f (t x y)) (by simp)) ?_
        simp [r_s_l14Picture_10, rowOf_len]
        refine ⟨by unfold lenBound; omega, ?_⟩
        rw [wrap64 (n := (x : Int) + 1) (by omega) (by omega)]
        rw [List.take_of_length_le (by simp [rowOf_len])]
        refine hN' (x + 1) _ (by omega) (by omega) (Wk.trans (Wk.ren 38 16 (by decide) (by simp)) (Wk.list rfl ?_ ?_))
        · simp [AS.ren, ren, reN]
        · simp [AS.ren, ren, reN, renB, rowOf_succ, hFx]
      | false =>
        rw [hc] at hFx
        simp [r_s_l14Picture_10, rowOf_len]
        refine ⟨by unfold lenBound; omega, ?_⟩
        rw [wrap64 (n := (x : Int) + 1) (by omega) (by omega)]
        rw [List.take_of_length_le (by simp [rowOf_len])]
        refine hN' (x + 1) _ (by omega) (by omega) (Wk.trans (Wk.ren 38 16 (by decide) (by simp)) (Wk.list rfl ?_ ?_))
        · simp [AS.ren, ren, reN]
        · simp [AS.ren, ren, reN, renB, rowOf_succ, hFx]
    · refine hE' _ _ ?_
      obtain rfl : x = 20 := by omega
      simp only [blockK_exit]
      simp [r_s_l14Picture_13, tbl_len, rowOf_len]
      refine ⟨by unfold lenBound; omega, ?_⟩
      rw [wrap64 (by omega) (by omega)]
      have hlen : ((tbl y 20 F).map ownI).length = y := by simp [tbl_len]
      rw [List.take_of_length_le (l := (tbl y 20 F).map ownI) (by omega)]
      refine hN (y + 1) _ (by omega) (by omega) (Wk.trans (Wk.fold1 42 y 16 (n := 20) (by rfl) (by rfl) (app_get hlen) (by simp [rowOf_len]) (by simp) (by simp)) (Wk.trans (Wk.ren 42 11 (by decide) ?_) (Wk.list rfl ?_ ?_)))
      · simp [app_set hlen, rmbs]
      · simp [AS.ren, ren, reN]
      · simp [AS.ren, ren, reN, renB, rmbs, app_set hlen, tbl_succ]
  · refine hE _ _ ?_
    obtain rfl : y = 24 := by omega
    simp only [blockK_exit]
    simp [r_s_l14Picture_16, tbl_len]
theorem s_FieldPicture (f : Field) (hf : fieldOk f = true) : ∃ F : Nat → Nat → Int, PCall Try.prog n_s_FieldPicture [eField f] (.tup [.own 1 ((tbl 24 20 F).map ownI), B true]) := by
  obtain ⟨F, hP⟩ := s_l14Picture f hf (List.replicate 24 0) (by simp)
  refine ⟨F, ?_⟩
  refine PCall.of fn_s_FieldPicture (by simp) ?_
  simp [c_s_FieldPicture, r_s_FieldPicture_0, r_s_FieldPicture_1]
  refine callQ_v (PCall.arg (s_l3Good f) (by simp)) ?_
  simp [hf, r_s_FieldPicture_3, p_s_FieldPicture_3]
  refine callD_of s_l9Empty rfl (.inl (by simp)) ?_ ?_ ?_
  · simp
  · simp
  simp
  refine callD_of (PCall.arg hP (by simp)) rfl (.inl (by simp)) ?_ ?_ ?_
  · simp
  · simp
  simp
  exact oEnd_of (by first | kernel_rfl | simp) (by first | kernel_rfl | simp)
end Go.Proofs.Ytgefdcllialhkaa
