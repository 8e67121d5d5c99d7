/- The abstract layer, part 8: every operation that calls nothing. -/
import Derived.Test.YtcfmohcpfmedaaaDoorAbsOk4
set_option linter.unusedVariables false
set_option linter.unusedSimpArgs false
namespace Go.Abs
variable [GInv]

def isSt : O → Bool
  | .st _ _ _ => true
  | _ => false

def dOk (st : Bool) (d : Option Nat) (n : Nat) : Bool := match st, d with
  | true, none => true
  | false, some d => decide (d < n)
  | _, _ => false

/-- The compact form of an operation with its slot and its guard. 'ops': the region's operations. -/
def cOper (P : Program) (ops : Array Oper) (n : Nat) (o : Oper) : Option CO :=
  match cOp P o.op with
  | none => none
  | some q =>
    if dOk (isSt q) o.dst n = true then
      match o.guard with
      | none => some ⟨none, o.dst, q⟩
      | some (j, b) => match (ops[j]?).bind (·.dst) with
        | some t => some ⟨some (t, b), o.dst, q⟩
        | none => none
    else none

section
variable {P : Program} {X : Ctx} {s : St} {a : Act} {w : World} {D : Nat → Prop} {φ : Nat → Option Pl} {F : Nat → List Nat} {o : Oper}

omit [GInv] in
theorem ro_ments {sz : Nat} {es : List V} {x : Value} {f : List Nat} (h : CV w D (.ro sz es) φ x f) (d : Nat) : ments d es = false := by
  simp only [CV] at h
  obtain ⟨_, ⟨rfl, _⟩ | ⟨b, o', cap, arr, hxv, hnc, hcm, hD, hbk, hcr, hni⟩⟩ := h
  · rfl
  · exact ments_noIds d es hni

theorem eff_ok {q : O} (hc : cOp P o.op = some q) (h : RelD X s a w D φ F []) (hd : ∀ d, o.dst = some d → d < X.n) (hst : isSt q = true → o.dst = none) (hns : isSt q = false → ∃ d, o.dst = some d)
    {p : Prop} {δ : Dl} (he : eff s.ev s.hp (o.dst.getD 0) q = some (p, δ)) (hp : p) (hn : δ.new.isSome = true → ∀ d, o.dst = some d → Fresh s d ∧ d ∉ X.pin) : Runs P o X a w (δ.app o.dst s) := by
  cases hop : o.op with
  | move x =>
    simp only [hop, cOp, Option.map_eq_some_iff] at hc
    obtain ⟨x', hx, rfl⟩ := hc
    simp only [eff, pure1, Option.some.injEq, Prod.mk.injEq] at he
    obtain ⟨_, rfl⟩ := he
    exact ok_mv h hd (.inl hop) hx
  | assign x =>
    simp only [hop, cOp, Option.map_eq_some_iff] at hc
    obtain ⟨x', hx, rfl⟩ := hc
    simp only [eff, pure1, Option.some.injEq, Prod.mk.injEq] at he
    obtain ⟨_, rfl⟩ := he
    exact ok_mv h hd (.inr hop) hx
  | pick c y z =>
    simp only [hop, cOp] at hc
    split at hc <;> simp only [Option.some.injEq, reduceCtorEq] at hc
    rename_i xc xy xz h1 h2 h3
    subst hc
    simp only [eff] at he
    split at he
    · rename_i t ht
      simp only [pure1, Option.some.injEq, Prod.mk.injEq] at he
      obtain ⟨_, rfl⟩ := he
      exact ok_pick h hd hop h1 h2 h3 ht
    · cases he
  | alloc t =>
    simp only [hop, cOp] at hc
    split at hc
    · rename_i i hi
      split at hc <;> simp only [Option.some.injEq, reduceCtorEq] at hc
      rename_i z hz
      subst hc
      obtain ⟨d, hdst⟩ := hns rfl
      simp only [eff, hdst, Option.getD_some] at he
      split at he
      · rename_i hcond
        simp only [Option.some.injEq, Prod.mk.injEq] at he
        obtain ⟨_, rfl⟩ := he
        obtain ⟨hf, hpin⟩ := hn rfl d hdst
        obtain ⟨x0, hx0, hof⟩ := zeroOf_eq hz
        exact ok_box (y := .const .nilFunc) h (.inr ⟨hop, i, hi, hx0⟩) (ofV_ok hof) hcond.1 hcond.2.2 (ment_noIds _ _ (ofV_noIds hof)) hdst (hd d hdst) hf hpin
      · cases he
    · cases hc
  | box t y =>
    simp only [hop, cOp] at hc
    split at hc <;> simp only [Option.some.injEq, reduceCtorEq] at hc
    rename_i i x hi hx
    subst hc
    obtain ⟨d, hdst⟩ := hns rfl
    simp only [eff, hdst, Option.getD_some] at he
    split at he
    · rename_i hcond
      simp only [Option.some.injEq, Prod.mk.injEq] at he
      obtain ⟨_, rfl⟩ := he
      obtain ⟨hf, hpin⟩ := hn rfl d hdst
      exact ok_box h (.inl ⟨hop, rfl⟩) (cX_ok hx h) hcond.1 hcond.2.2 (cX_fresh hx hf) hdst (hd d hdst) hf hpin
    · cases he
  | build t ps =>
    simp only [hop, cOp] at hc
    split at hc
    · rename_i fs i hfs hi
      split at hc
      · rename_i z pl hz hpl
        simp only [Option.map_eq_some_iff] at hc
        obtain ⟨ps', hps, rfl⟩ := hc
        simp only [eff] at he
        exact ok_build h hd hop hfs hi hz hpl hps he
      · cases hc
    · cases hc
  | buildSlice t n ps =>
    simp only [hop, cOp] at hc
    split at hc
    · rename_i i hi
      split at hc <;> simp only [Option.some.injEq, reduceCtorEq] at hc
      rename_i z ps' hz hps
      subst hc
      obtain ⟨d, hdst⟩ := hns rfl
      simp only [eff, hdst, Option.getD_some] at he
      have hnew : δ.new.isSome = true := by
        unfold vbslice at he
        split at he
        · split at he
          · simp only [Option.some.injEq, Prod.mk.injEq] at he; obtain ⟨_, rfl⟩ := he; rfl
          · cases he
        · cases he
      obtain ⟨hf, hpin⟩ := hn hnew d hdst
      exact ok_bslice h hop hi hz hps hdst (hd d hdst) hf hpin he
    · cases hc
  | load t y =>
    simp only [hop, cOp] at hc
    split at hc <;> simp only [Option.some.injEq, reduceCtorEq] at hc
    rename_i b n x ht hx
    subst hc
    simp only [eff] at he
    exact ok_ld h hd hop ht hx he
  | store t y x =>
    simp only [hop, cOp] at hc
    split at hc <;> simp only [Option.some.injEq, reduceCtorEq] at hc
    rename_i i xa xx hi hxa hxx
    subst hc
    simp only [eff] at he
    exact ok_st h hop hi hxa hxx (hst rfl) he
  | binOp op t x y t' =>
    simp only [hop, cOp] at hc
    split at hc <;> simp only [Option.some.injEq, reduceCtorEq] at hc
    rename_i k xx xy hk hx hy
    subst hc
    simp only [eff] at he
    exact ok_bin h hd hop hk hx hy he hp
  | unOp op t x =>
    simp only [hop, cOp, Option.map_eq_some_iff] at hc
    obtain ⟨x', hx, rfl⟩ := hc
    simp only [eff] at he
    exact ok_un h hd hop hx he
  | convert sr dt x =>
    simp only [hop, cOp] at hc
    split at hc <;> simp only [Option.some.injEq, reduceCtorEq] at hc
    rename_i c x' hcc hx
    subst hc
    simp only [eff] at he
    exact ok_conv h hd hop hx hcc he hp
  | makeFunc fn first cs =>
    simp only [hop] at hc
    cases fn <;> simp only [cOp, reduceCtorEq] at hc
    rename_i f
    split at hc
    · rename_i hfi
      simp only [Option.map_eq_some_iff] at hc
      obtain ⟨xs, hx, rfl⟩ := hc
      simp only [eff, pure1, Option.some.injEq, Prod.mk.injEq] at he
      obtain ⟨_, rfl⟩ := he
      exact ok_clo h hd hop hfi hx
    · cases hc
  | makeSlice t l c =>
    simp only [hop, cOp] at hc
    split at hc
    · rename_i i xl xc hi hl hcc
      split at hc <;> simp only [Option.some.injEq, reduceCtorEq] at hc
      rename_i z hz
      subst hc
      obtain ⟨d, hdst⟩ := hns rfl
      simp only [eff, hdst, Option.getD_some] at he
      have hnew : δ.new.isSome = true := by
        unfold vmks at he
        split at he
        · split at he
          · simp only [Option.some.injEq, Prod.mk.injEq] at he; obtain ⟨_, rfl⟩ := he; rfl
          · cases he
        · cases he
      obtain ⟨hf, hpin⟩ := hn hnew d hdst
      exact ok_mks h hop hi hz hl hcc hdst (hd d hdst) hf hpin he hp
    · cases hc
  | slice t x lo hi mx =>
    simp only [hop] at hc
    cases mx <;> simp only [cOp, reduceCtorEq] at hc
    split at hc
    · rename_i xx lo' hi' ht hx hl hh
      simp only [Option.some.injEq] at hc
      subst hc
      simp only [eff] at he
      exact ok_slcS h hd hop ht hx hl hh he hp
    · rename_i e xx lo' hi' ht hx hl hh
      split at hc <;> simp only [Option.some.injEq, reduceCtorEq] at hc
      rename_i i hi
      subst hc
      simp only [eff] at he
      exact ok_slcL h hd hop ht hi hx hl hh he hp
    · cases hc
  | nilCheck x =>
    simp only [hop, cOp, Option.map_eq_some_iff] at hc
    obtain ⟨x', hx, rfl⟩ := hc
    simp only [eff] at he
    exact ok_nilc h hd hop hx he
  | fieldAddr t x f =>
    simp only [hop, cOp] at hc
    split at hc
    · rename_i fs x' ht hx
      split at hc
      · rename_i fd hfd
        split at hc
        · rename_i i hi
          split at hc
          · rename_i hs0
            simp only [Option.some.injEq] at hc
            subst hc
            simp only [eff] at he
            exact ok_faddr h hd hop hx ht hfd hi hs0 he
          · cases hc
        · cases hc
      · cases hc
    · cases hc
  | field t x f =>
    simp only [hop, cOp] at hc
    split at hc
    · rename_i fs x' ht hx
      split at hc
      · rename_i fd hfd
        split at hc <;> simp only [Option.some.injEq, reduceCtorEq] at hc
        rename_i b n hty
        subst hc
        simp only [eff] at he
        exact ok_fld h hd hop hx ht hfd hty he
      · cases hc
    · cases hc
  | indexAddr t x i =>
    simp only [hop, cOp] at hc
    split at hc <;> simp only [Option.some.injEq, reduceCtorEq] at hc
    rename_i e x' i' ht hx hi
    subst hc
    simp only [eff] at he
    exact ok_iaddr h hd hop hx hi ht he hp
  | index t x i =>
    simp only [hop, cOp] at hc
    split at hc <;> simp only [Option.some.injEq, reduceCtorEq] at hc
    rename_i x' i' ht hx hi
    subst hc
    simp only [eff] at he
    exact ok_idx h hd hop hx hi ht he hp
  | extract x i =>
    simp only [hop, cOp, Option.map_eq_some_iff] at hc
    obtain ⟨x', hx, rfl⟩ := hc
    simp only [eff] at he
    exact ok_ext h hd hop hx he
  | call c =>
    simp only [hop, cOp] at hc
    split at hc
    · rename_i hcal
      split at hc
      · rename_i y t hargs htys
        split at hc <;> simp only [Option.some.injEq, reduceCtorEq] at hc
        · rename_i x ht hx
          subst hc
          simp only [eff, if_true] at he
          exact ok_lenS h hd hop hcal hargs htys ht hx he
        · rename_i e x ht hx
          subst hc
          simp only [eff, Bool.false_eq_true, if_false] at he
          exact ok_lenL h hd hop hcal hargs htys ht hx he
      · cases hc
    · rename_i hcal
      split at hc
      · rename_i yx yy t u hargs htys
        split at hc
        · rename_i i x y hi hx hy
          split at hc
          · rename_i hcond
            obtain ⟨rfl, hs0, hz⟩ := hcond
            simp only [Option.some.injEq] at hc
            subst hc
            obtain ⟨d, hdst⟩ := hns rfl
            simp only [eff, hdst, Option.getD_some] at he
            have hnew : δ.new.isSome = true := by
              unfold vapp at he
              split at he
              · split at he
                · split at he
                  · simp only [Option.some.injEq, Prod.mk.injEq] at he; obtain ⟨_, rfl⟩ := he; rfl
                  · cases he
                · cases he
              · split at he
                · split at he
                  · split at he
                    · simp only [Option.some.injEq, Prod.mk.injEq] at he; obtain ⟨_, rfl⟩ := he; rfl
                    · cases he
                  · cases he
                · cases he
              · cases he
            obtain ⟨hf, hpin⟩ := hn hnew d hdst
            exact ok_app h hop hcal hargs htys hi hs0 hz hx hy hdst (hd d hdst) hf hpin (fun sz es hro => ro_ments (by have := cX_ok hy h; rw [hro] at this; exact this) d) he hp
          · cases hc
        · cases hc
      · cases hc
    · rename_i hcal
      simp only [Option.map_eq_some_iff] at hc
      obtain ⟨xs, hx, rfl⟩ := hc
      simp only [eff] at he
      exact ok_mm (max := false) h hd hop (by simpa using hcal) hx he
    · rename_i hcal
      simp only [Option.map_eq_some_iff] at hc
      obtain ⟨xs, hx, rfl⟩ := hc
      simp only [eff] at he
      exact ok_mm (max := true) h hd hop (by simpa using hcal) hx he
    · simp only [Option.map_eq_some_iff] at hc
      obtain ⟨xs, hx, rfl⟩ := hc
      simp [eff] at he
    · simp only [Option.map_eq_some_iff] at hc
      obtain ⟨xs, hx, rfl⟩ := hc
      simp [eff] at he
    · cases hc
  | _ => simp [hop, cOp] at hc
end
end Go.Abs
