/- The words of the text of arms are not empty; entries of a roll. No program in sight. -/
import Derived.Test.YtbeoijlggphklaaGreatBlazon2
import Derived.Test.YtbeoijlggphklaaGreatWrap
import Derived.Test.YtbeoijlggphklaaGreatRegister
set_option linter.unusedVariables false
set_option linter.unusedSimpArgs false
namespace Go.Proofs.YtbeoijlggphklaaGreat
open Go.Abs

/-- Words are not empty, read from the left; 'sp': at the start or behind a space. -/
def neatS : Bool → List UInt8 → Bool
  | sp, [] => !sp
  | sp, x :: s => if x = 32 then !sp && neatS true s else neatS false s
theorem neat_parts : ∀ (s p : List UInt8) (ps : List (List UInt8)), parts 32 s = p :: ps → (neatS true s = ((!p.isEmpty) && ps.all fun x => !x.isEmpty)) ∧ (neatS false s = ps.all fun x => !x.isEmpty)
  | [], p, ps, h => by
    rw [parts] at h
    simp only [List.cons.injEq] at h
    obtain ⟨rfl, rfl⟩ := h
    simp [neatS]
  | x :: s, p, ps, h => by
    obtain ⟨q, qs, h1, h2⟩ := parts_cons 32 x s
    rw [h2] at h
    have ih := neat_parts s q qs h1
    by_cases e : x = 32
    · rw [if_pos e] at h
      simp only [List.cons.injEq] at h
      obtain ⟨rfl, rfl⟩ := h
      simp [neatS, e, ih.1]
    · rw [if_neg e] at h
      simp only [List.cons.injEq] at h
      obtain ⟨rfl, rfl⟩ := h
      simp [neatS, e, ih.2]
theorem neat_ne {s : List UInt8} (h : neatS true s = true) : ∀ x ∈ parts 32 s, x ≠ [] := by
  obtain ⟨p, ps, hp⟩ : ∃ p ps, parts 32 s = p :: ps := by
    cases hp : parts 32 s with
    | nil => exact absurd hp (parts_ne s)
    | cons p ps => exact ⟨p, ps, rfl⟩
  have h1 := (neat_parts s p ps hp).1
  rw [h1, Bool.and_eq_true, List.all_eq_true] at h
  rw [hp]
  intro x hx
  rcases List.mem_cons.1 hx with rfl | hx
  · rintro rfl; simp at h
  · rintro rfl
    have := h.2 [] hx
    simp at this
theorem neat_sp : ∀ (sp : Bool) (a b : List UInt8), neatS sp (a ++ 32 :: b) = (neatS sp a && neatS true b)
  | sp, [], b => by simp [neatS]
  | sp, x :: a, b => by
    rw [List.cons_append, neatS, neatS]
    split
    · rw [neat_sp true a b, Bool.and_assoc]
    · rw [neat_sp false a b]
theorem neat_snoc {x : UInt8} (hx : x ≠ 32) : ∀ (sp : Bool) (a : List UInt8), neatS sp a = true → neatS sp (a ++ [x]) = true
  | sp, [], h => by simp [neatS, hx]
  | sp, y :: a, h => by
    rw [neatS] at h
    rw [List.cons_append, neatS]
    split
    · rename_i e
      rw [if_pos e, Bool.and_eq_true] at h
      rw [Bool.and_eq_true]
      exact ⟨h.1, neat_snoc hx true a h.2⟩
    · rename_i e
      rw [if_neg e] at h
      exact neat_snoc hx false a h
theorem neat_two {a b : List UInt8} (h1 : neatS true a = true) (h2 : neatS true b = true) : neatS true (a ++ 32 :: b) = true := by rw [neat_sp, h1, h2]; rfl
theorem neat_comma {a b : List UInt8} (h1 : neatS true a = true) (h2 : neatS true b = true) : neatS true (a ++ [44, 32] ++ b) = true := by
  have := neat_two (neat_snoc (x := 44) (by decide) true a h1) h2
  simpa using this
theorem neat_get {l : List (List UInt8)} {i : Nat} (hl : ∀ w ∈ l, neatS true w = true) (h : i < l.length) : neatS true (l.getD i []) = true := by
  rw [List.getD_eq_getElem?_getD, List.getElem?_eq_getElem h]
  exact hl _ (List.getElem_mem h)
theorem neat_tinc {x : Int} (h : inR x 1 9 = true) : neatS true (tincW x) = true := by
  have h := inR_iff.1 h
  exact neat_get (by decide) (by show _ < 9; omega)
theorem neat_with {t : List UInt8} {x : Int} (ht : neatS true t = true) (h : 0 ≤ x ∧ x ≤ 4) : neatS true (withL t x) = true := by
  unfold withL
  split
  · exact ht
  · exact neat_two ht (neat_get (by decide) (by show _ < 4; omega))
theorem neat_field {f : Field} (h : fieldOk f = true) : neatS true (fieldT f) = true := by
  simp only [fieldOk, Bool.and_eq_true, inR_iff] at h
  obtain ⟨⟨⟨h1, h2⟩, h3⟩, h4⟩ := h
  unfold fieldT
  split
  · exact neat_tinc (inR_iff.2 h3)
  · rename_i h0
    rw [if_neg h0] at h4
    simp only [Bool.and_eq_true, inR_iff] at h4
    have hd : neatS true (divW f.division) = true := neat_get (by decide) (by show _ < 7; omega)
    have ha := neat_two (neat_tinc (inR_iff.2 h3)) (neat_two (a := [97, 110, 100]) (by decide) (neat_tinc (inR_iff.2 h4.1)))
    have := neat_two (neat_with hd h2) ha
    simpa using this
theorem neat_group {g : Group} (h : groupOk g = true) : neatS true (groupT g) = true := by
  obtain ⟨h1, h2, h3, h4⟩ := groupOk_iff h
  have hc : neatS true (countW g.count g.kind) = true := by
    unfold countW
    split
    · decide
    · exact neat_get (by decide) (by show _ < 6; omega)
  have hk : neatS true (kindW g.kind g.count) = true := by
    unfold kindW
    have := neat_get (l := kindL) (i := (g.kind - 1).toNat) (by decide) (by show _ < 8; omega)
    split
    · exact neat_snoc (by decide) _ _ this
    · simpa using this
  unfold groupT
  split
  · rename_i ha
    have ha' : neatS true ((attitudes g.kind).getD (g.attitude - 1).toNat []) = true := by
      refine neat_get ?_ (att_get h ha).1
      unfold attitudes
      split
      · decide
      · split
        · decide
        · split
          · decide
          · simp
    have := neat_two hc (neat_two hk (neat_two ha' (neat_tinc h3)))
    simpa using this
  · have := neat_two hc (neat_two hk (neat_tinc h3))
    simpa using this
theorem neat_arms {a : Arms} (h : arms a = true) : neatS true (armsT a) = true := by
  have h0 := neat_field (arms_field h)
  obtain ⟨ho, hg, hr⟩ := arms_parts h
  have hon : g0 a.on = false → neatS true (groupT a.on) = true := fun e => neat_group (hg e)
  have har : g0 a.around = false → neatS true (groupT a.around) = true := fun e => neat_group (hr e)
  unfold armsT
  obtain ⟨t1, ht1⟩ : ∃ t1, fieldT a.field ++ (if a.ordinary = 0 then [] else [44, 32] ++ ordT a.ordinary a.line ++ 32 :: tincW a.tincture) = t1 := ⟨_, rfl⟩
  have n1 : neatS true t1 = true := by
    rw [← ht1]
    split
    · simpa using h0
    · rename_i e
      obtain ⟨g2, g3⟩ := ho.2.2.2 e
      have g1 := ho.1
      have g4 := ho.2.1
      have hord : neatS true (ordT a.ordinary a.line) = true := by
        unfold ordT
        refine neat_with ?_ g2
        have := neat_two (a := [97]) (by decide) (neat_get (l := ordL) (i := (a.ordinary - 1).toNat) (by decide) (by show _ < 7; omega))
        simpa [ordW] using this
      have := neat_comma h0 (neat_two hord (neat_tinc g3))
      simpa using this
  rw [ht1]
  obtain ⟨t2, ht2⟩ : ∃ t2, t1 ++ (if g0 a.on then [] else [32, 99, 104, 97, 114, 103, 101, 100, 32, 119, 105, 116, 104, 32] ++ groupT a.on) = t2 := ⟨_, rfl⟩
  have n2 : neatS true t2 = true := by
    rw [← ht2]
    split
    · simpa using n1
    · rename_i e
      have := neat_two n1 (neat_two (a := [99, 104, 97, 114, 103, 101, 100]) (by decide) (neat_two (a := [119, 105, 116, 104]) (by decide) (hon (by simpa using e))))
      simpa using this
  rw [ht2]
  split
  · simpa using n2
  · rename_i e
    have hr := har (by simpa using e)
    unfold joinT
    split
    · have := neat_comma n2 hr
      simpa using this
    · split
      · have := neat_two n2 (neat_two (a := [97, 98, 111, 118, 101]) (by decide) hr)
        simpa using this
      · have := neat_two n2 (neat_two (a := [98, 101, 116, 119, 101, 101, 110]) (by decide) hr)
        simpa using this
end Go.Proofs.YtbeoijlggphklaaGreat
