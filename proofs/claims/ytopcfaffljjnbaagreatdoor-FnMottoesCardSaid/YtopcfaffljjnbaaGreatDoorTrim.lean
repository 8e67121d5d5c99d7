/- strings.Trim at a set of more than one ASCII byte. -/
import Derived.Test.YtopcfaffljjnbaaGreatDoorStrs
import Derived.Shelf.Strings.AsciiSet
set_option linter.unusedVariables false
set_option linter.unusedSimpArgs false
namespace Go.Proofs
open Go.Shelf Go.RowKit Go.Lib
set_option maxHeartbeats 4000000 in
set_option maxRecDepth 1000000 in
theorem Any.asciiSet_contains_at {P : Program} {ρ : Ren} (L : Lays.n228 P ρ) (b o : Nat) (x : UInt8) (v : Bool) (w : World) (hc : w.cell? ⟨b, o + x.toNat, none⟩ = some (.bool v)) :
    Calls P (ρ.f 228) #[.pointer (some ⟨b, o, none⟩), .int .u8 x.toNat] w fun e w' => e = .returned (.bool v) ∧ w' = w := by
  have hx256 : (x.toNat : Int) < 256 := by have := UInt8.toNat_lt x; omega
  have t4 := L.t4; have a4 := L.a4; have z4 := L.z4; have v4 := L.v4
  have t5 := L.t5; have a5 := L.a5; have z5 := L.z5; have v5 := L.v5
  have t116 := L.t116
  go_enter L.f228, Body.n228_ntmps ρ
  go_wp2
  go_ret
  exact ⟨rfl, rfl⟩
end Go.Proofs
namespace Go.Proofs.YtopcfaffljjnbaaGreatDoor
open Go.Abs Go.RowKit

def setV (l : List UInt8) : List V := (Lib.setCells l).toList.map V.v
theorem asciiSet_contains (l : List UInt8) (x : UInt8) : PCall Tryz.prog n_strings_asciiSet_contains [.rp 256 [.agg (setV l)] 0 0, Y x] (B (l.contains x)) := by
  refine ⟨by kernel_rfl, fun w D xs hD hg hxs => ?_⟩
  simp only [CVs, CV, CR] at hxs
  obtain ⟨p, xs', f1, f2, rfl, hf, ⟨rfl, b, o, arr, rfl, hDb, hb, ⟨y, rest, g1, g2, hc, ⟨hs, _⟩, hg0, ⟨ys, rfl, hv⟩, rfl⟩, _⟩, q, xs'', f3, f4, rfl, hf2, ⟨rfl, _, rfl⟩, rfl, rfl⟩ := hxs
  have hg1 : g1 = [] := (List.append_eq_nil_iff.1 hg0.symm).1
  subst hg1
  have hys := CVs_vals hv
  have hat := Lib.setCells_at l x
  have hcell : w.cell? ⟨b, o + x.toNat, none⟩ = some (.bool (l.contains x)) := by
    rw [cell?_of_blk hb]
    have h1 : (arr.toList.drop o)[x.toNat]? = some (.bool (l.contains x)) := by
      rw [hc]
      have : (Value.agg ys).cells.toList = ys.toList := rfl
      rw [this, hys]
      have hl : x.toNat < (Lib.setCells l).toList.length := by rw [Array.length_toList, Lib.setCells_size]; exact UInt8.toNat_lt x
      rw [List.getElem?_append_left hl]
      simpa using hat
    rw [List.getElem?_drop] at h1
    simpa using h1
  refine (Any.asciiSet_contains_at Tryz.lays228 b o x _ w hcell).mono ?_
  rintro e w' ⟨rfl, rfl⟩
  exact ⟨_, D, [], rfl, Grow.same _ _ hD, CV_mkv rfl, List.nodup_nil, by simp⟩
theorem makeASCIISet (l : List UInt8) (hl : l.length ≤ 1000) (ha : ∀ b ∈ l, b.toNat < 128) : PCall Tryz.prog n_strings_makeASCIISet [S l] (.tup [.agg (setV l), B true]) := by
  refine PCall.below (vs := [.string (bs l)]) (y := .tuple #[.agg (Lib.setCells l), .bool true]) (by kernel_rfl) (fun w D => ?_) (fun w _ _ => ?_)
  · have hv : CVs w D (setV l) (fun _ => none) (Lib.setCells l).toList [] := CVs_map_v _ fun x hx => by
      have h1 := Lib.setCells_eq l
      rw [h1] at hx
      simp only [Array.toList_map, List.mem_map] at hx
      obtain ⟨j, _, rfl⟩ := hx
      rfl
    simp only [CV, CVs]
    exact ⟨_, rfl, _, _, [], [], rfl, rfl, ⟨_, rfl, hv⟩, _, _, [], [], rfl, rfl, ⟨rfl, rfl, rfl⟩, rfl, rfl⟩
  · refine (Tryz.strings_makeASCIISet (fun w => by kernel_rfl) (bs l) w ?_ ?_).mono ?_
    · have : (bs l).size = l.length := by simp [bs, ByteArray.size]
      omega
    · intro j b hj
      exact ha b (List.mem_of_getElem? hj)
    · rintro e w' ⟨rfl, rfl⟩
      exact ⟨rfl, (Below.refl _ _).alloc (Nat.le_refl _) _⟩

theorem trimLeftASCII (l s : List UInt8) : PCall Tryz.prog n_strings_trimLeftASCII [S s, .rp 256 [.agg (setV l)] 0 0] (S (s.dropWhile l.contains)) := by
  refine PCall.ofL fn_strings_trimLeftASCII (by simp) fun hs => ?_
  simp at hs
  simp [c_strings_trimLeftASCII, r_strings_trimLeftASCII_0, r_strings_trimLeftASCII_5]
  refine loopK (fun r : List UInt8 => ⟨[(0, S r), (1, .rp 256 [.agg (setV l)] 0 0)], [], []⟩) (fun r => r.length) (fun r => r.length ≤ s.length ∧ s.dropWhile l.contains = r.dropWhile l.contains) s (Wk.list rfl (by simp) (by simp)) (by simp) ?_
  rintro r ⟨hr, h⟩ K hN hR hE
  cases r with
  | nil =>
    simp [r_strings_trimLeftASCII_1, l_strings_trimLeftASCII_4]
    refine hE _ _ ?_
    simp only [blockK_exit]
    simp [r_strings_trimLeftASCII_5, h]
  | cons x r =>
    simp [r_strings_trimLeftASCII_1, l_strings_trimLeftASCII_4]
    simp [r_strings_trimLeftASCII_2]
    refine callQ_v (asciiSet_contains l x) ?_
    cases hx : l.contains x with
    | false =>
      simp
      refine hE _ _ ?_
      simp only [blockK_exit]
      have : (x :: r).dropWhile l.contains = x :: r := by rw [List.dropWhile_cons, if_neg (by rw [hx]; simp)]
      rw [this] at h
      simp [r_strings_trimLeftASCII_5, h]
    | true =>
      simp [r_strings_trimLeftASCII_3]
      refine ⟨by omega, ?_⟩
      refine hN r _ (by simp) ⟨by simp at hr; omega, by rw [h, List.dropWhile_cons, if_pos hx]⟩ (Wk.list rfl (by simp) (by simp))
theorem trimRightASCII (l s : List UInt8) : PCall Tryz.prog n_strings_trimRightASCII [S s, .rp 256 [.agg (setV l)] 0 0] (S (s.reverse.dropWhile l.contains).reverse) := by
  refine PCall.ofL fn_strings_trimRightASCII (by simp) fun hs => ?_
  simp at hs
  simp [c_strings_trimRightASCII, r_strings_trimRightASCII_0, r_strings_trimRightASCII_5]
  refine loopK (fun r : List UInt8 => ⟨[(0, S r), (1, .rp 256 [.agg (setV l)] 0 0)], [], []⟩) (fun r => r.length) (fun r => r.length ≤ s.length ∧ s.reverse.dropWhile l.contains = r.reverse.dropWhile l.contains) s (Wk.list rfl (by simp) (by simp)) (by simp) ?_
  rintro r ⟨hr, h⟩ K hN hR hE
  rcases List.eq_nil_or_concat r with rfl | ⟨r, x, rfl⟩
  · simp [r_strings_trimRightASCII_1, l_strings_trimRightASCII_4]
    refine hE _ _ ?_
    simp only [blockK_exit]
    simp [r_strings_trimRightASCII_5, h]
  · simp at hr
    simp [r_strings_trimRightASCII_1, l_strings_trimRightASCII_4]
    simp [r_strings_trimRightASCII_2]
    rw [wrap64 (by omega) (by omega)]
    refine ⟨⟨by omega, by omega⟩, ?_⟩
    have e1 : (r ++ [x])[(r.length : Int).toNat]?.getD 0 = x := by simp
    rw [e1]
    refine callQ_v (asciiSet_contains l x) ?_
    have e2 : (r.concat x).reverse = x :: r.reverse := by simp
    rw [e2] at h
    cases hx : l.contains x with
    | false =>
      simp
      refine hE _ _ ?_
      simp only [blockK_exit]
      have : (x :: r.reverse).dropWhile l.contains = x :: r.reverse := by rw [List.dropWhile_cons, if_neg (by rw [hx]; simp)]
      rw [this] at h
      simp [r_strings_trimRightASCII_5, h]
    | true =>
      simp [r_strings_trimRightASCII_3]
      rw [wrap64 (by omega) (by omega)]
      refine ⟨⟨by omega, by omega⟩, ?_⟩
      refine hN r _ (by simp) ⟨by omega, by rw [h, List.dropWhile_cons, if_pos hx]⟩ (Wk.list rfl (by simp) (by simp))
section
variable (xs : List Value)
theorem noRos_v : noRos (xs.map V.v) = true := by induction xs with | nil => rfl | cons x xs ih => simpa [noRos, noRo] using ih
theorem resOks_v : resOks (xs.map V.v) = true := by induction xs with | nil => rfl | cons x xs ih => simpa [resOks, resOk] using ih
theorem noOwns_v : noOwns (xs.map V.v) = true := by induction xs with | nil => rfl | cons x xs ih => simpa [noOwns, noOwn] using ih
theorem noIdss_v : noIdss (xs.map V.v) = true := by induction xs with | nil => rfl | cons x xs ih => simpa [noIdss, noIds] using ih
theorem flat1_v : flat1 (xs.map V.v) = true := by induction xs with | nil => rfl | cons x xs ih => simpa [flat1, scal1] using ih
theorem ments_v (d : Nat) : ments d (xs.map V.v) = false := by induction xs with | nil => rfl | cons x xs ih => simpa [ments, ment] using ih
theorem takes_v (d k : Nat) : takes d k (xs.map V.v) = (xs.map V.v, [], k) := by induction xs with | nil => rfl | cons x xs ih => simp [takes, take, ih]
theorem borrow_v (hp : Nat → Option Blk) (k : Nat) : (xs.map V.v).map (borrow hp (k + 1)) = xs.map V.v := by simp [borrow, Function.comp_def]
end
section
variable (l : List UInt8)
theorem noRos_set : noRos (setV l) = true := noRos_v _
theorem resOks_set : resOks (setV l) = true := resOks_v _
theorem noOwns_set : noOwns (setV l) = true := noOwns_v _
theorem noIdss_set : noIdss (setV l) = true := noIdss_v _
theorem flat1_set : flat1 (setV l) = true := flat1_v _
theorem ments_set (d : Nat) : ments d (setV l) = false := ments_v _ d
theorem takes_set (d k : Nat) : takes d k (setV l) = (setV l, [], k) := takes_v _ d k
theorem borrow_set (hp : Nat → Option Blk) (k : Nat) : (setV l).map (borrow hp (k + 1)) = setV l := borrow_v _ hp k
theorem set_len : (setV l).length = 256 := by simp [setV, Lib.setCells_size]
end
attribute [local simp] noRos_set resOks_set noOwns_set noIdss_set flat1_set ments_set takes_set borrow_set set_len
def AZs : List UInt8 := [65, 66, 67, 68, 69, 70, 71, 72, 73, 74, 75, 76, 77, 78, 79, 80, 81, 82, 83, 84, 85, 86, 87, 88, 89, 90]
set_option maxRecDepth 100000 in
set_option maxHeartbeats 4000000 in
theorem strings_Trim_AZ (s : List UInt8) : PCall Tryz.prog n_strings_Trim [S s, S AZs] (S ((s.reverse.dropWhile AZs.contains).reverse.dropWhile AZs.contains)) := by
  refine PCall.ofL fn_strings_Trim (by simp) fun hs => ?_
  simp at hs
  simp [c_strings_Trim, r_strings_Trim_0, r_strings_Trim_1]
  refine ⟨fun h0 => ⟨fun h => absurd h (by decide), fun _ => ?_⟩, fun h => ?_⟩
  · have hl : (AZs.length : Int) = 26 := rfl
    simp [r_strings_Trim_3, hl]
    have hm := makeASCIISet AZs (by decide) (by decide)
    have hr := trimRightASCII AZs s
    have ht := trimLeftASCII AZs
    have hsz : (setV AZs).length = 256 := by simp [setV, Lib.setCells_size]
    generalize AZs = l at *
    simp [r_strings_Trim_5]
    refine callQ_of hm (by simp) (.inl (by simp)) (by simp) ?_
    simp
    simp [r_strings_Trim_6]
    simp [r_strings_Trim_7]
    refine callQ_v (PCall.arg hr (by simp)) ?_
    simp
    refine callQ_v (PCall.arg (ht (s.reverse.dropWhile l.contains).reverse) (by simp)) ?_
    simp
  · subst h
    simp [r_strings_Trim_2]
theorem dropWhile_nil {α : Type} {p : α → Bool} : ∀ {s : List α}, s.dropWhile p = [] ↔ s.all p = true
  | [] => by simp
  | x :: s => by
    rw [List.dropWhile_cons, List.all_cons]
    cases h : p x with
    | false => simp
    | true => simpa using dropWhile_nil
theorem trim_nil {p : UInt8 → Bool} {s : List UInt8} : (s.reverse.dropWhile p).reverse.dropWhile p = [] ↔ s.all p = true := by
  constructor
  · intro h
    have h1 := dropWhile_nil.1 h
    rw [List.all_reverse] at h1
    cases hd : s.reverse.dropWhile p with
    | nil => have := dropWhile_nil.1 hd; rwa [List.all_reverse] at this
    | cons x r =>
      have h2 := List.head_dropWhile_not (p := p) (l := s.reverse) (by rw [hd]; simp)
      rw [hd, List.all_cons] at h1
      simp only [hd, List.head_cons] at h2
      rw [h2] at h1; cases h1
  · intro h
    have : s.reverse.dropWhile p = [] := dropWhile_nil.2 (by rw [List.all_reverse]; exact h)
    rw [this]; rfl
end Go.Proofs.YtopcfaffljjnbaaGreatDoor
