/- The abstract layer, part 5: operations that compute. -/
import Derived.Test.YtcfmohcpfmedaaaDoorAbsOk
import Derived.Laws.StructEq
set_option linter.unusedVariables false
set_option linter.unusedSimpArgs false
namespace Go.Abs
variable [GInv]
section
variable {P : Program} {X : Ctx} {s : St} {a : Act} {w : World} {D : Nat → Prop} {φ : Nat → Option Pl} {F : Nat → List Nat} {o : Oper}

omit [GInv] in
theorem eqK_bool {op : BinOp} {t : TypeId} (h : eqK P op t = some .bool) : P.underlying t = some .bool := by
  unfold eqK at h
  split at h
  · split at h <;> try (simp_all; done)
    split at h
    · split at h <;> cases h
    · cases h
  · simp at h

omit [GInv] in
theorem max_i64 : IntKind.i64.max = 9223372036854775807 := by decide

/-! ### '==' of structs -/

def ceq1 : EK → Value → Value → Option Bool
  | .int, .int k a, .int k' b => if k = k' then some (a == b) else none
  | .bool, .bool a, .bool b => some (a == b)
  | .str, .string a, .string b => some (a.toList == b.toList)
  | _, _, _ => none
/-- The same on the machine's values. -/
def ceq : List EK → List Value → List Value → Option Bool
  | [], [], [] => some true
  | k :: ks, u :: us, v :: vs => and? (ceq1 k u v) (ceq ks us vs)
  | _, _, _ => none
omit [GInv] in
theorem and?_some {a b : Option Bool} {r : Bool} (h : and? a b = some r) : ∃ p q, a = some p ∧ b = some q ∧ r = (p && q) := by
  cases a <;> cases b <;> simp_all [and?]
omit [GInv] in
theorem veq1_ceq1 {k : EK} {u v : V} {x y : Value} {f g : List Nat} {r : Bool} (h : veq1 k u v = some r) (hx : CV w D u φ x f) (hy : CV w D v φ y g) : ceq1 k x y = some r := by
  unfold veq1 at h
  split at h
  all_goals first
    | (rw [CV_v hx, CV_v hy]; simpa [ceq1] using h)
    | cases h
omit [GInv] in
theorem veq_ceq : ∀ (ks : List EK) (us vs : List V) (xs ys : List Value) (f g : List Nat) (r : Bool), veq ks us vs = some r → CVs w D us φ xs f → CVs w D vs φ ys g → ceq ks xs ys = some r
  | [], us, vs, xs, ys, f, g, r, h, hx, hy => by
    unfold veq at h
    split at h
    · simp only [CVs] at hx hy; rw [hx.1, hy.1]; simpa [ceq] using h
    · contradiction
    · cases h
  | k :: ks, us, vs, xs, ys, f, g, r, h, hx, hy => by
    unfold veq at h
    split at h
    · contradiction
    · rename_i k' ks' u us v vs e
      cases e
      obtain ⟨p, q, h1, h2, rfl⟩ := and?_some h
      simp only [CVs] at hx hy
      obtain ⟨x, xs', f1, f2, rfl, rfl, hx1, hx2⟩ := hx
      obtain ⟨y, ys', g1, g2, rfl, rfl, hy1, hy2⟩ := hy
      simp [ceq, veq1_ceq1 h1 hx1 hy1, veq_ceq ks us vs xs' ys' _ _ _ h2 hx2 hy2, and?]
    · cases h
omit [GInv] in
theorem ceq_append : ∀ (ks ks' : List EK) (xs ys : List Value) (r : Bool), ceq (ks ++ ks') xs ys = some r →
    ∃ x1 x2 y1 y2 r1 r2, xs = x1 ++ x2 ∧ ys = y1 ++ y2 ∧ x1.length = ks.length ∧ y1.length = ks.length ∧ ceq ks x1 y1 = some r1 ∧ ceq ks' x2 y2 = some r2 ∧ r = (r1 && r2)
  | [], ks', xs, ys, r, h => ⟨[], xs, [], ys, true, r, rfl, rfl, rfl, rfl, rfl, h, by simp⟩
  | k :: ks, ks', [], ys, r, h => by simp [ceq] at h
  | k :: ks, ks', x :: xs, [], r, h => by simp [ceq] at h
  | k :: ks, ks', x :: xs, y :: ys, r, h => by
    rw [List.cons_append, ceq] at h
    obtain ⟨p, q, h1, h2, rfl⟩ := and?_some h
    obtain ⟨x1, x2, y1, y2, r1, r2, rfl, rfl, g1, g2, g3, g4, rfl⟩ := ceq_append _ _ _ _ _ h2
    exact ⟨x :: x1, x2, y :: y1, y2, p && r1, r2, rfl, rfl, by simp [g1], by simp [g2], by simp [ceq, h1, g3, and?], g4, by simp [Bool.and_assoc]⟩

omit [GInv] in
theorem ceq_single {k : EK} {x y : Value} {r : Bool} (h : ceq [k] [x] [y] = some r) : ceq1 k x y = some r := by
  rw [ceq] at h
  obtain ⟨p, q, h1, h2, rfl⟩ := and?_some h
  simp only [ceq, Option.some.injEq] at h2
  subst h2
  simpa using h1

omit [GInv] in
theorem ceq_len : ∀ (ks : List EK) (xs ys : List Value) (r : Bool), ceq ks xs ys = some r → xs.length = ks.length ∧ ys.length = ks.length
  | ks, xs, ys, r, h => by
    have h' : ceq (ks ++ []) xs ys = some r := by simpa using h
    obtain ⟨x1, x2, y1, y2, r1, r2, rfl, rfl, h1, h2, h3, h4, _⟩ := ceq_append ks [] xs ys r h'
    unfold ceq at h4
    split at h4 <;> simp_all

/-- The value of a type out of its cells. -/
def valOf (P : Program) (t : TypeId) (xs : List Value) (x : Value) : Prop :=
  match P.underlying t with
  | some (.struct _) => x = .agg xs.toArray
  | _ => xs = [x]

omit [GInv] in
theorem eqKinds_desc {m : Nat} {t : TypeId} {ks : List EK} (h : eqKinds P m t = some ks) : ∃ d, P.underlying t = some d ∧ (aggOf d = true ↔ ∃ fs, d = .struct fs) := by
  cases m with
  | zero => cases h
  | succ m =>
    unfold eqKinds at h
    split at h
    · rename_i hd; exact ⟨_, hd, by simp [aggOf]⟩
    · rename_i hd; exact ⟨_, hd, by simp [aggOf]⟩
    · rename_i hd; exact ⟨_, hd, by simp [aggOf]⟩
    · rename_i fs hd; exact ⟨_, hd, by simp [aggOf]⟩
    · cases h

omit [GInv] in
theorem run_part {m : Nat} {t : TypeId} {ks : List EK} (h : eqKinds P m t = some ks) (hi : (P.info? t).map (·.size) = some ks.length) {pre x1 post : List Value} (hl : x1.length = ks.length) (hone : (∀ fs, P.underlying t ≠ some (.struct fs)) → ks.length = 1) :
    ∃ v, (part t (pre ++ x1 ++ post).toArray pre.length).run P w = .ok v w ∧ valOf P t x1 v := by
  obtain ⟨d, hd, hagg⟩ := eqKinds_desc h
  simp only [Option.map_eq_some_iff] at hi
  obtain ⟨i, hi, hs⟩ := hi
  cases ha : aggOf d with
  | true =>
    obtain ⟨fs, rfl⟩ := hagg.1 ha
    refine ⟨.agg x1.toArray, ?_, by simp [valOf, hd]⟩
    simp only [part, Sem.run_bind, run_isAgg hd, ha, Result.andThen_ok, if_true]
    simp only [sizeOf, typeInfo, Sem.run_bind, run_program, Result.andThen_ok, hi, Sem.run_pure]
    congr 2
    rw [hs, ← hl]
    simp [List.extract_eq_take_drop]
  | false =>
    have hn : ∀ fs, P.underlying t ≠ some (.struct fs) := fun fs e => by
      rw [hd] at e; cases e
      simp [aggOf] at ha
    have h1 := hone hn
    match x1, hl with
    | [v], _ =>
      refine ⟨v, ?_, ?_⟩
      · simp only [part, Sem.run_bind, run_isAgg hd, ha, Result.andThen_ok]
        simp
      · unfold valOf; split
        · rename_i fs e; exact absurd e (hn fs)
        · rfl
    | [], hl => simp at hl; omega
    | _ :: _ :: _, hl => simp at hl; omega

omit [GInv] in
theorem eqKinds_one {m : Nat} {t : TypeId} {ks : List EK} (h : eqKinds P m t = some ks) (hn : ∀ fs, P.underlying t ≠ some (.struct fs)) : ks.length = 1 := by
  cases m with
  | zero => cases h
  | succ m =>
    unfold eqKinds at h
    split at h
    · cases h; rfl
    · cases h; rfl
    · cases h; rfl
    · rename_i fs hd; exact absurd hd (hn fs)
    · cases h

omit [GInv] in
theorem run_eqFs {m d : Nat} (ih : ∀ t ks xs ys r x y, eqKinds P m t = some ks → ceq ks xs ys = some r → valOf P t xs x → valOf P t ys y → (Op.equalIn d t x y).run P w = .ok r w) :
    ∀ (fs : List Field) (ks : List EK) (pre pre' xs ys : List Value) (r : Bool), eqFs P (eqKinds P m) fs pre.length = some ks → pre'.length = pre.length → ceq ks xs ys = some r →
      (Op.eqFields d (pre ++ xs).toArray (pre' ++ ys).toArray fs).run P w = .ok r w
  | [], ks, pre, pre', xs, ys, r, h, hp, hc => by
    simp only [eqFs, Option.some.injEq] at h; subst h
    unfold ceq at hc
    split at hc <;> simp_all [Op.eqFields]
  | f :: fs, ks, pre, pre', xs, ys, r, h, hp, hc => by
    unfold eqFs at h
    split at h
    · rename_i hf
      split at h
      · rename_i kf hkf
        split at h
        · rename_i hs
          simp only [Option.map_eq_some_iff] at h
          obtain ⟨kl, hkl, rfl⟩ := h
          obtain ⟨x1, x2, y1, y2, r1, r2, rfl, rfl, h1, h2, h3, h4, rfl⟩ := ceq_append _ _ _ _ _ hc
          obtain ⟨v, hv, hv'⟩ := run_part (w := w) (pre := pre) (x1 := x1) (post := x2) hkf hs h1 (eqKinds_one hkf)
          obtain ⟨u, hu, hu'⟩ := run_part (w := w) (pre := pre') (x1 := y1) (post := y2) hkf hs h2 (eqKinds_one hkf)
          have hr := ih _ _ _ _ _ _ _ hkf h3 hv' hu'
          rw [hp] at hu
          have rest := run_eqFs ih fs kl (pre ++ x1) (pre' ++ y1) x2 y2 r2 (by rw [List.length_append, h1]; exact hkl) (by simp [h1, h2, hp]) h4
          simp only [Op.eqFields, hf.1, ne_eq, not_false_eq_true, if_true, Sem.run_bind, hf.2]
          rw [List.append_assoc] at hv hu
          rw [hv, Result.andThen_ok, hu, Result.andThen_ok, hr, Result.andThen_ok]
          cases r1 with
          | false => simp
          | true =>
            rw [List.append_assoc, List.append_assoc] at rest
            simp [rest]
        · cases h
      · cases h
    · cases h

omit [GInv] in
theorem run_eqKinds : ∀ (m d : Nat) (t : TypeId) (ks : List EK) (xs ys : List Value) (r : Bool) (x y : Value), m ≤ d → eqKinds P m t = some ks → ceq ks xs ys = some r → valOf P t xs x → valOf P t ys y → (Op.equalIn d t x y).run P w = .ok r w
  | 0, d, t, ks, xs, ys, r, x, y, hd, h, hc, hx, hy => by cases h
  | m + 1, 0, t, ks, xs, ys, r, x, y, hd, h, hc, hx, hy => by omega
  | m + 1, d + 1, t, ks, xs, ys, r, x, y, hd, h, hc, hx, hy => by
    unfold eqKinds at h
    split at h
    · rename_i k ht
      cases h
      simp only [valOf, ht] at hx hy
      subst hx hy
      have := ceq_single hc
      unfold ceq1 at this
      split at this
      · split at this
        · rename_i hk; subst hk
          cases this
          simp [Op.equalIn, run_underlying ht]
        · cases this
      · contradiction
      · contradiction
      · cases this
    · rename_i ht
      cases h
      simp only [valOf, ht] at hx hy
      subst hx hy
      have := ceq_single hc
      unfold ceq1 at this
      split at this
      · contradiction
      · cases this
        simp [Op.equalIn, run_underlying ht]
      · contradiction
      · cases this
    · rename_i ht
      cases h
      simp only [valOf, ht] at hx hy
      subst hx hy
      have := ceq_single hc
      unfold ceq1 at this
      split at this
      · contradiction
      · contradiction
      · cases this
        rw [run_equalIn_string w d t _ _ ht]
      · cases this
    · rename_i fs ht
      split at h
      · rename_i hst
        simp only [valOf, ht] at hx hy
        subst hx hy
        have hf : P.fieldsOf t = fs := by simp [Program.fieldsOf, ht]
        rw [run_equalIn_struct w d t _ _ (by rw [hf]; exact ht) hst, hf]
        have := run_eqFs (P := P) (w := w) (m := m) (d := d) (fun t ks xs ys r x y h1 h2 h3 h4 => run_eqKinds m d t ks xs ys r x y (by omega) h1 h2 h3 h4) fs.toList ks [] [] xs ys r (by simpa using h) rfl hc
        simpa using this
      · cases h
    · cases h

omit [GInv] in
theorem eqK_struct {op : BinOp} {t : TypeId} {ks : List EK} (h : eqK P op t = some (.struct ks)) : (op = .eql ∨ op = .neq) ∧ eqKinds P 8 t = some ks ∧ P.eqGuardType P.depth t = false ∧ ∃ fs, P.underlying t = some (.struct fs) := by
  unfold eqK at h
  split at h
  · rename_i ho
    split at h <;> try (cases h; done)
    rename_i fs ht
    split at h
    · rename_i ks' hk
      split at h
      · rename_i hg
        cases h
        exact ⟨ho, hk, hg, fs, ht⟩
      · cases h
    · cases h
  · cases h

omit [GInv] in
theorem eqK_nil {op : BinOp} {t : TypeId} (h : eqK P op t = some .nil) : ∃ e, P.underlying t = some (.slice e) := by
  unfold eqK at h
  split at h
  · split at h <;> try (cases h; done)
    · rename_i e ht; exact ⟨e, ht⟩
    · split at h
      · split at h <;> cases h
      · cases h
  · cases h

omit [GInv] in
theorem run_eq_nil {op : BinOp} {t e : TypeId} {yx yy : Operand} (ht : P.underlying t = some (.slice e)) (a : Option Addr) (n c m k : Nat) {r : Bool} {p : Prop} {δ : Dl} (hr : r = a.isNone) (he : eqB op p (some r) = some (p, δ)) :
    ∃ z, (do eqGuard op t yx yy (.slice a n c) (.slice none m k); binOp op t (.slice a n c) (.slice none m k) : Sem Value).run P w = .ok z w ∧ δ = { v := .v z } ∧ one z = true := by
  have h0 : (Op.equal t (.slice a n c) (.slice none m k)).run P w = .ok a.isNone w := by
    have e : ∀ d, (Op.equalIn (d + 1) t (.slice a n c) (.slice none m k)).run P w = .ok a.isNone w := fun d => by
      cases a <;> simp [Op.equalIn, run_underlying ht]
    exact e 9999
  cases op <;> simp only [eqB, pureIf, reduceCtorEq] at he
  all_goals
    simp only [Option.some.injEq, Prod.mk.injEq, true_and] at he
    obtain rfl := he
    refine ⟨_, ?_, rfl, rfl⟩
    simp only [eqGuard, binOp, Sem.run_bind]
    simp [h0, hr]

omit [GInv] in
/-- The run of a binary operation. -/
theorem run_vbin {op : BinOp} {t : TypeId} {k : EqK} {yx yy : Operand} {x y : Value} {u v : V} {p : Prop} {δ : Dl} (hk : eqK P op t = some k) (hx : CV w D u φ x []) (hy : CV w D v φ y [])
    (he : vbin op k u v = some (p, δ)) (hp : p) : ∃ z, (do eqGuard op t yx yy x y; binOp op t x y : Sem Value).run P w = .ok z w ∧ δ = { v := .v z } ∧ one z = true := by
  unfold vbin at he
  split at he
  · rename_i i a j b
    have hx := CV_v hx; have hy := CV_v hy
    subst hx hy
    cases op <;> simp only [pure1, pureIf] at he
    all_goals first
      | (split at he
         · rename_i hij; subst hij
           simp only [Option.some.injEq, Prod.mk.injEq, reduceCtorEq] at he
           obtain ⟨rfl, rfl⟩ := he
           refine ⟨_, ?_, rfl, rfl⟩
           first
             | (simp [eqGuard, binOp, Op.intArith]; done)
             | (simp [eqGuard, binOp, Op.intDiv, hp]; done)
             | (simp [eqGuard, binOp, Op.intBits]; done)
             | (simp [eqGuard, binOp, Op.intCmp]; done)
         · cases he)
      | (simp only [Option.some.injEq, Prod.mk.injEq] at he
         obtain ⟨rfl, rfl⟩ := he
         refine ⟨_, ?_, rfl, rfl⟩
         simp [eqGuard, binOp, Op.shift, Int.not_lt.2 hp])
      | (split at he <;> cases he)
  · rename_i a b
    have hx := CV_v hx; have hy := CV_v hy
    subst hx hy
    split at he
    · rename_i hkb
      subst hkb
      have ht := eqK_bool hk
      cases op <;> simp only [pure1] at he
      all_goals first
        | (simp only [Option.some.injEq, Prod.mk.injEq] at he
           obtain ⟨rfl, rfl⟩ := he
           refine ⟨_, ?_, rfl, rfl⟩
           first
             | (simp only [Sem.run_bind, eqGuard_at_bool, Sem.run_pure, Result.andThen_ok]; exact run_eql_bool w t a b ht)
             | (simp only [Sem.run_bind, eqGuard_at_bool, Sem.run_pure, Result.andThen_ok]; exact run_neq_bool w t a b ht))
        | cases he
    · cases he
  · rename_i a b
    have hx := CV_v hx; have hy := CV_v hy
    subst hx hy
    cases op <;> simp only [pure1, pureIf] at he
    all_goals first
      | (simp only [Option.some.injEq, Prod.mk.injEq] at he
         obtain ⟨rfl, rfl⟩ := he
         refine ⟨_, ?_, rfl, by first | rfl | (simp only [one, ByteArray.size_append, decide_eq_true_eq]; exact hp)⟩
         first
           | (simp [eqGuard, binOp, Op.stringOp]; done)
           | (have h' : ¬ ((9223372036854775807 : Int) < ((a.size + b.size : Nat) : Int)) := by omega
              simp only [eqGuard, binOp, Op.stringOp]
              simp [max_i64]
              omega))
      | cases he
  · rename_i us vs
    cases k with
    | struct ks =>
      obtain ⟨ho, hkk, hg, fs, ht⟩ := eqK_struct hk
      simp only [EqK.veq] at he
      cases hv : veq ks us vs with
      | none => simp [hv, eqB] at he
      | some r =>
        rw [hv] at he
        simp only [CV] at hx hy
        obtain ⟨xs, rfl, hx⟩ := hx
        obtain ⟨ys, rfl, hy⟩ := hy
        have hc := veq_ceq _ _ _ _ _ _ _ _ hv hx hy
        have h0 : (Op.equalIn 10000 t (.agg xs) (.agg ys)).run P w = .ok r w :=
          run_eqKinds 8 10000 t ks xs.toList ys.toList r _ _ (by omega) hkk hc (by simp [valOf, ht]) (by simp [valOf, ht])
        rcases ho with rfl | rfl
        · simp only [eqB, pureIf, Option.some.injEq, Prod.mk.injEq] at he
          obtain ⟨_, rfl⟩ := he
          refine ⟨_, ?_, rfl, rfl⟩
          rw [Sem.run_bind, run_eqGuard_agg w _ _ _ _ _ _ hg, Result.andThen_ok, run_eql_struct, h0]; rfl
        · simp only [eqB, pureIf, Option.some.injEq, Prod.mk.injEq] at he
          obtain ⟨_, rfl⟩ := he
          refine ⟨_, ?_, rfl, rfl⟩
          rw [Sem.run_bind, run_eqGuard_agg w _ _ _ _ _ _ hg, Result.andThen_ok, run_neq_struct, h0]; rfl
    | _ => simp [EqK.veq, eqB] at he
  · rename_i a n c m j
    have hx := CV_v hx; have hy := CV_v hy
    subst hx hy
    cases k with
    | nil =>
      obtain ⟨e, ht⟩ := eqK_nil hk
      have hp' : p = True := by
        exact eq_true hp
      subst hp'
      exact run_eq_nil ht a n c m j rfl (by simpa [EqK.nil?] using he)
    | _ => simp [EqK.nil?, eqB] at he
  · rename_i s' es m j
    have hy := CV_v hy
    subst hy
    cases k with
    | nil =>
      obtain ⟨e, ht⟩ := eqK_nil hk
      have hpe : (es.isEmpty = false) = p := by
        cases op <;> simp [eqB, pureIf, EqK.nil?] at he <;> simpa using he.1
      have hne : es ≠ [] := by
        rw [← hpe] at hp; intro e; subst e; simp at hp
      simp only [CV] at hx
      obtain ⟨_, ⟨h0, _⟩ | ⟨b, o', cap, arr, rfl, _⟩⟩ := hx
      · exact absurd h0 hne
      · rw [hpe] at he
        exact run_eq_nil ht (some _) _ _ m j (r := false) rfl (by simpa [EqK.nil?] using he)
    | _ => simp [EqK.nil?, eqB] at he
  · rename_i id i n m j
    have hy := CV_v hy
    subst hy
    cases k with
    | nil =>
      obtain ⟨e, ht⟩ := eqK_nil hk
      have hpe : (n ≠ 0) = p := by
        cases op <;> simp [eqB, pureIf, EqK.nil?] at he <;> simpa using he.1
      have hne : n ≠ 0 := by rw [← hpe] at hp; exact hp
      simp only [CV] at hx
      obtain ⟨_, ⟨_, _, h0, _⟩ | ⟨p0, o', cap, _, rfl, _⟩⟩ := hx
      · exact absurd h0 hne
      · rw [hpe] at he
        exact run_eq_nil ht (some _) _ _ m j (r := false) rfl (by simpa [EqK.nil?] using he)
    | _ => simp [EqK.nil?, eqB] at he
  · cases he

/-- A pointer that leads somewhere stays what it is. -/
theorem ok_nilc (h : RelD X s a w D φ F []) (hd : ∀ d, o.dst = some d → d < X.n) {y : Operand} {x : Abs.X} (hop : o.op = .nilCheck y) (hx : cX y = some x)
    {p : Prop} {δ : Dl} (he : (match s.ev x with | .ref id i j => pure1 (.ref id i (j + 0)) | .rp s es i j => pure1 (.rp s es i (j + 0)) | _ => none) = some (p, δ)) : Runs P o X a w (δ.app o.dst s) := by
  have hcv := cX_ok hx h
  generalize s.ev x = u at he hcv
  split at he
  · rename_i id i j
    simp only [pure1, Option.some.injEq, Prod.mk.injEq] at he
    obtain ⟨_, rfl⟩ := he
    have hcv' := hcv
    simp only [CV] at hcv
    obtain ⟨_, p0, hp0, hxp⟩ := hcv
    refine runs_pure h hd (x := a.eval y) ?_ hcv'
    simp [execOp, hop, hxp]
  · rename_i s' es i j
    simp only [pure1, Option.some.injEq, Prod.mk.injEq] at he
    obtain ⟨_, rfl⟩ := he
    have hcv' := hcv
    simp only [CV] at hcv
    obtain ⟨_, b, o', arr, hxp, hD, hbk, hcr, hni⟩ := hcv
    refine runs_pure h hd (x := a.eval y) ?_ hcv'
    simp [execOp, hop, hxp]
  · cases he

theorem ok_bin (h : RelD X s a w D φ F []) (hd : ∀ d, o.dst = some d → d < X.n) {op : BinOp} {t t' : TypeId} {k : EqK} {yx yy : Operand} {xx xy : Abs.X} (hop : o.op = .binOp op t yx yy t') (hk : eqK P op t = some k) (hx : cX yx = some xx) (hy : cX yy = some xy)
    {p : Prop} {δ : Dl} (he : vbin op k (s.ev xx) (s.ev xy) = some (p, δ)) (hp : p) : Runs P o X a w (δ.app o.dst s) := by
  obtain ⟨z, h1, rfl, h2⟩ := run_vbin (yx := yx) (yy := yy) hk (cX_ok hx h) (cX_ok hy h) he hp
  refine runs_pure h hd (x := z) ?_ (CV_mkv h2)
  unfold execOp
  simp only [hop]
  rw [Sem.run_bind, h1]
  rfl

theorem ok_un (h : RelD X s a w D φ F []) (hd : ∀ d, o.dst = some d → d < X.n) {op : UnOp} {t : TypeId} {y : Operand} {x : Abs.X} (hop : o.op = .unOp op t y) (hx : cX y = some x)
    {p : Prop} {δ : Dl} (he : vun op (s.ev x) = some (p, δ)) : Runs P o X a w (δ.app o.dst s) := by
  have hcv := cX_ok hx h
  generalize s.ev x = u at he hcv
  unfold vun at he
  split at he
  · rename_i i n
    have hxv := CV_v hcv
    split at he
    · simp only [pure1, Option.some.injEq, Prod.mk.injEq] at he
      obtain ⟨_, rfl⟩ := he
      exact runs_pure h hd (by simp [execOp, hop, hxv, Op.unary, Op.intArith]) (CV_mkv rfl)
    · cases he
  · rename_i b
    have hxv := CV_v hcv
    split at he
    · simp only [pure1, Option.some.injEq, Prod.mk.injEq] at he
      obtain ⟨_, rfl⟩ := he
      exact runs_pure h hd (by simp [execOp, hop, hxv, Op.unary]) (CV_mkv rfl)
    · cases he
  · cases he

theorem ok_faddr (h : RelD X s a w D φ F []) (hd : ∀ d, o.dst = some d → d < X.n) {t : TypeId} {f : Nat} {y : Operand} {x : Abs.X} {fs : Array Field} {fd : Field} {i0 : TypeInfo} (hop : o.op = .fieldAddr t y f) (hx : cX y = some x)
    (ht : P.underlying t = some (.struct fs)) (hf : fs[f]? = some fd) (hi : P.info? fd.type = some i0) (hs : i0.size ≠ 0)
    {p : Prop} {δ : Dl} (he : (match s.ev x with | .ref id i j => pure1 (.ref id i (j + fd.offset)) | .rp s es i j => pure1 (.rp s es i (j + fd.offset)) | _ => none) = some (p, δ)) : Runs P o X a w (δ.app o.dst s) := by
  have hcv := cX_ok hx h
  generalize s.ev x = u at he hcv
  split at he
  · rename_i id i j
    simp only [pure1, Option.some.injEq, Prod.mk.injEq] at he
    obtain ⟨_, rfl⟩ := he
    simp only [CV] at hcv
    obtain ⟨_, p0, hp0, hxp⟩ := hcv
    refine runs_pure h hd (x := .pointer (some ⟨p0.b, p0.o + (i * p0.s + (j + fd.offset)), none⟩)) ?_ ?_
    · simp [execOp, hop, hxp, Instr.fieldAt, run_underlying ht, hf, Instr.sureAddr, fieldPlace, sizeOf, typeInfo, hi, hs, Addr.add_lit, Nat.add_assoc]
    · simp only [CV]; exact ⟨trivial, p0, hp0, rfl⟩
  · rename_i s' es i j
    simp only [pure1, Option.some.injEq, Prod.mk.injEq] at he
    obtain ⟨_, rfl⟩ := he
    simp only [CV] at hcv
    obtain ⟨_, b, o', arr, hxp, hD, hbk, hcr, hni⟩ := hcv
    refine runs_pure h hd (x := .pointer (some ⟨b, o' + (i * s' + (j + fd.offset)), none⟩)) ?_ ?_
    · simp [execOp, hop, hxp, Instr.fieldAt, run_underlying ht, hf, Instr.sureAddr, fieldPlace, sizeOf, typeInfo, hi, hs, Addr.add_lit, Nat.add_assoc]
    · simp only [CV]; exact ⟨trivial, b, o', arr, rfl, hD, hbk, hcr, hni⟩
  · cases he

omit [GInv] in
theorem sliceElem_eq {t : TypeId} {i : TypeInfo} (h : sliceElem P t = some i) : ∃ e, P.underlying t = some (.slice e) ∧ P.info? e = some i := by
  unfold sliceElem at h
  split at h
  · rename_i e he; exact ⟨e, he, h⟩
  · cases h

theorem ok_iaddr (h : RelD X s a w D φ F []) (hd : ∀ d, o.dst = some d → d < X.n) {t : TypeId} {yx yi : Operand} {xx xi : Abs.X} {i0 : TypeInfo} (hop : o.op = .indexAddr t yx yi) (hx : cX yx = some xx) (hi : cX yi = some xi)
    (ht : sliceElem P t = some i0) {p : Prop} {δ : Dl} (he : viaddr i0.size s.hp (s.ev xx) (s.ev xi) = some (p, δ)) (hp : p) : Runs P o X a w (δ.app o.dst s) := by
  obtain ⟨e, hte, hie⟩ := sliceElem_eq ht
  have hcv := cX_ok hx h
  have hci := cX_ok hi h
  generalize s.ev xx = u at he hcv
  generalize s.ev xi = v at he hci
  unfold viaddr at he
  split at he
  · rename_i id i n k0 k
    have hiv := CV_v hci
    cases hb : s.hp id with
    | none => simp [hb] at he
    | some blk =>
      simp only [hb] at he
      split at he
      · rename_i hbs
        simp only [pureIf, Option.some.injEq, Prod.mk.injEq] at he
        obtain ⟨rfl, rfl⟩ := he
        simp only [CV] at hcv
        obtain ⟨_, ⟨_, _, rfl, _⟩ | ⟨p0, o', cap, hp0, hxp, hnc, hcm, hcap⟩⟩ := hcv
        · omega
        · have hc0 : cap ≠ 0 := by omega
          obtain ⟨ho, _⟩ := hcap.resolve_left hc0
          have hps : p0.s = i0.size := by
            rcases h.blks id blk hb with ⟨q1, _, _⟩ | ⟨p1, _, _, _, q1, q2, _⟩
            · rw [hp0] at q1; cases q1
            · rw [hp0] at q1; cases q1; rw [q2, hbs]
          obtain ⟨m, rfl⟩ := Int.eq_ofNat_of_zero_le hp.1
          have hmn : m < n := by have := hp.2; omega
          refine runs_pure h hd (x := .pointer (some ⟨p0.b, p0.o + ((i + m) * p0.s + 0), none⟩)) ?_ ?_
          · subst ho
            simp [execOp, hop, hxp, hiv, Instr.indexAt, asIntOf, run_underlying hte, hmn, sizeOf, typeInfo, hie, Addr.add_lit, Nat.add_mul, hps, Nat.add_assoc]
          · simp only [CV]; exact ⟨trivial, p0, hp0, by simp⟩
      · cases he
  · rename_i s' es k0 k
    have hiv := CV_v hci
    split at he
    · rename_i hss; subst hss
      simp only [pureIf, Option.some.injEq, Prod.mk.injEq] at he
      obtain ⟨rfl, rfl⟩ := he
      simp only [CV] at hcv
      obtain ⟨_, ⟨rfl, _⟩ | ⟨b, o', cap, arr, hxp, hnc, hcm, hD, hbk, hcr, hni⟩⟩ := hcv
      · simp at hp; omega
      · obtain ⟨m, rfl⟩ := Int.eq_ofNat_of_zero_le hp.1
        have hmn : m < es.length := by have := hp.2; omega
        refine runs_pure h hd (x := .pointer (some ⟨b, o' + (m * i0.size + 0), none⟩)) ?_ ?_
        · simp [execOp, hop, hxp, hiv, Instr.indexAt, asIntOf, run_underlying hte, hmn, sizeOf, typeInfo, hie, Addr.add_lit]
        · simp only [CV]; exact ⟨trivial, b, o', arr, by simp, hD, hbk, hcr, hni⟩
    · cases he
  · cases he

theorem ok_idx (h : RelD X s a w D φ F []) (hd : ∀ d, o.dst = some d → d < X.n) {t : TypeId} {yx yi : Operand} {xx xi : Abs.X} (hop : o.op = .index t yx yi) (hx : cX yx = some xx) (hi : cX yi = some xi)
    (ht : P.underlying t = some .string) {p : Prop} {δ : Dl} (he : vidx (s.ev xx) (s.ev xi) = some (p, δ)) (hp : p) : Runs P o X a w (δ.app o.dst s) := by
  have hcv := cX_ok hx h
  have hci := cX_ok hi h
  generalize s.ev xx = u at he hcv
  generalize s.ev xi = v at he hci
  unfold vidx at he
  split at he
  · rename_i b k0 k
    have hiv := CV_v hci
    have hxv := CV_v hcv
    simp only [pureIf, Option.some.injEq, Prod.mk.injEq] at he
    obtain ⟨rfl, rfl⟩ := he
    obtain ⟨m, rfl⟩ := Int.eq_ofNat_of_zero_le hp.1
    have hm : m < b.size := by have := hp.2; omega
    refine runs_pure h hd ?_ (CV_mkv rfl)
    simp [execOp, hop, hxv, hiv, Instr.index, asIntOf, run_underlying ht, hm]
  · cases he

omit [GInv] in
theorem run_len {t : TypeId} {y : Operand} {c : Call} (hop : o.op = .call c) (hcal : c.callee = .builtin .len) (harg : c.args.toList = [y]) (hty : c.argTypes.toList = [t]) {n : Nat}
    (hr : (Builtin.len_ #[t] o.type #[a.eval y]).run P w = .ok (.int .i64 n) w) : (execOp a.eval o).run P w = .ok (.value (.int .i64 n)) w := by
  obtain ⟨cal, args, tys⟩ := c
  simp only at hcal harg hty
  obtain rfl : args = #[y] := by rw [← Array.toArray_toList (xs := args), harg]
  obtain rfl : tys = #[t] := by rw [← Array.toArray_toList (xs := tys), hty]
  subst hcal
  simp [execOp, hop, resolve, invoke, builtin, hr]

theorem ok_lenS (h : RelD X s a w D φ F []) (hd : ∀ d, o.dst = some d → d < X.n) {t : TypeId} {y : Operand} {x : Abs.X} {c : Call} (hop : o.op = .call c) (hcal : c.callee = .builtin .len) (harg : c.args.toList = [y]) (hty : c.argTypes.toList = [t])
    (ht : P.underlying t = some .string) (hx : cX y = some x) {p : Prop} {δ : Dl} (he : vlenS (s.ev x) = some (p, δ)) : Runs P o X a w (δ.app o.dst s) := by
  have hcv := cX_ok hx h
  generalize s.ev x = u at he hcv
  unfold vlenS at he
  split at he
  · have hxv := CV_v hcv
    simp only [pure1, Option.some.injEq, Prod.mk.injEq] at he
    obtain ⟨_, rfl⟩ := he
    exact runs_pure h hd (run_len hop hcal harg hty (by simp [hxv, Builtin.len_, run_underlying ht, goInt])) (CV_mkv rfl)
  · cases he

theorem ok_lenL (h : RelD X s a w D φ F []) (hd : ∀ d, o.dst = some d → d < X.n) {t : TypeId} {y : Operand} {x : Abs.X} {c : Call} (hop : o.op = .call c) (hcal : c.callee = .builtin .len) (harg : c.args.toList = [y]) (hty : c.argTypes.toList = [t])
    {e : TypeId} (ht : P.underlying t = some (.slice e)) (hx : cX y = some x) {p : Prop} {δ : Dl} (he : vlenL (s.ev x) = some (p, δ)) : Runs P o X a w (δ.app o.dst s) := by
  have hcv := cX_ok hx h
  generalize s.ev x = u at he hcv
  have key : ∀ n b c, a.eval y = .slice b n c → Runs P o X a w (({ v := .v (.int .i64 n) } : Dl).app o.dst s) := fun n b c hxv =>
    runs_pure h hd (run_len hop hcal harg hty (by simp [hxv, Builtin.len_, run_underlying ht, goInt])) (CV_mkv rfl)
  unfold vlenL at he
  split at he
  · simp only [pure1, Option.some.injEq, Prod.mk.injEq] at he
    obtain ⟨_, rfl⟩ := he
    exact key _ _ _ (CV_v hcv)
  · simp only [pure1, Option.some.injEq, Prod.mk.injEq] at he
    obtain ⟨_, rfl⟩ := he
    simp only [CV] at hcv
    obtain ⟨_, ⟨_, _, rfl, hxv⟩ | ⟨p0, o', cap, hp0, hxv, hnc, hcm, hcap⟩⟩ := hcv
    · exact key _ _ _ hxv
    · exact key _ _ _ hxv
  · simp only [pure1, Option.some.injEq, Prod.mk.injEq] at he
    obtain ⟨_, rfl⟩ := he
    simp only [CV] at hcv
    obtain ⟨_, ⟨rfl, a', cap, hxv, _⟩ | ⟨b, o', cap, arr, hxv, hnc, hcm, hD, hbk, hcr, hni⟩⟩ := hcv
    · exact key _ _ _ hxv
    · exact key _ _ _ hxv
  · cases he

theorem ok_ext (h : RelD X s a w D φ F []) (hd : ∀ d, o.dst = some d → d < X.n) {y : Operand} {x : Abs.X} {i : Nat} (hop : o.op = .extract y i) (hx : cX y = some x)
    {p : Prop} {δ : Dl} (he : (match s.ev x with | .tup vs => (match vs[i]? with | some v => pure1 v | none => none) | _ => none) = some (p, δ)) : Runs P o X a w (δ.app o.dst s) := by
  have hcv := cX_ok hx h
  generalize s.ev x = u at he hcv
  split at he
  · rename_i vs
    split at he
    · rename_i v hv
      simp only [pure1, Option.some.injEq, Prod.mk.injEq] at he
      obtain ⟨_, rfl⟩ := he
      simp only [CV] at hcv
      obtain ⟨xs, hxv, hcs⟩ := hcv
      obtain ⟨z, f', h1, h2, h3⟩ := CVs_get hcs hv
      have := eq_nil_of_sub h3
      subst this
      refine runs_pure h hd (x := z) ?_ h2
      have h1' : xs[i]? = some z := by simpa using h1
      simp [execOp, hop, hxv, Instr.extract, h1']
    · cases he
  · cases he

theorem ok_fld (h : RelD X s a w D φ F []) (hd : ∀ d, o.dst = some d → d < X.n) {t : TypeId} {f : Nat} {y : Operand} {x : Abs.X} {fs : Array Field} {fd : Field} {agg : Bool} {n : Nat} (hop : o.op = .field t y f) (hx : cX y = some x)
    (ht : P.underlying t = some (.struct fs)) (hf : fs[f]? = some fd) (hty : tyOf P fd.type = some (agg, n))
    {p : Prop} {δ : Dl} (he : vfld agg fd.offset n (s.ev x) = some (p, δ)) : Runs P o X a w (δ.app o.dst s) := by
  have hcv := cX_ok hx h
  generalize s.ev x = u at he hcv
  obtain ⟨d, i, h1, h2, h3, rfl⟩ := tyOf_eq hty
  unfold vfld at he
  split at he
  · rename_i cs
    simp only [CV] at hcv
    obtain ⟨xs, hxv, hcs⟩ := hcv
    have hl := CVs_length hcs
    simp only [Array.length_toList] at hl
    split at he
    · rename_i ha; subst ha
      split at he
      · rename_i hle
        simp only [pure1, Option.some.injEq, Prod.mk.injEq] at he
        obtain ⟨_, rfl⟩ := he
        have hc2 := CVs_take i.size (CVs_drop fd.offset hcs)
        refine runs_pure h hd (x := .agg (xs.extract fd.offset (fd.offset + i.size))) ?_ ?_
        · simp [execOp, hop, hxv, Instr.field, run_underlying ht, hf, asAgg, part, run_isAgg h1, h3, sizeOf, typeInfo, h2]
        · simp only [CV]
          refine ⟨_, rfl, ?_⟩
          have : (xs.extract fd.offset (fd.offset + i.size)).toList = (xs.toList.drop fd.offset).take i.size := by
            rw [Array.toList_extract, List.extract_eq_take_drop]; congr 1; omega
          rw [this]; exact hc2
      · cases he
    · rename_i ha
      have ha : agg = false := by simpa using ha
      subst ha
      split at he
      · split at he
        · rename_i v hv
          simp only [pure1, Option.some.injEq, Prod.mk.injEq] at he
          obtain ⟨_, rfl⟩ := he
          obtain ⟨z, f', g1, g2, g3⟩ := CVs_get hcs hv
          have := eq_nil_of_sub g3
          subst this
          have g1' : xs[fd.offset]? = some z := by simpa using g1
          refine runs_pure h hd (x := z) ?_ g2
          simp [execOp, hop, hxv, Instr.field, run_underlying ht, hf, asAgg, part, run_isAgg h1, h3, g1']
        · cases he
      · cases he
  · cases he

omit [GInv] in
theorem vmmGo_ok (max : Bool) (k : IntKind) : ∀ (vs : List V) (a0 : Int) (xs : List Value) (r : Int), CVs w D vs φ xs [] → vmmGo max k a0 vs = some r →
    (xs.foldlM (if max then Builtin.max2 else Builtin.min2) (.int k a0)).run P w = .ok (.int k r) w
  | [], a0, xs, r, h, hr => by
    simp only [CVs] at h; obtain ⟨rfl, _⟩ := h
    simp only [vmmGo, Option.some.injEq] at hr; subst hr
    simp
  | v :: vs, a0, xs, r, h, hr => by
    simp only [CVs] at h; obtain ⟨x, xs', f1, f2, rfl, hf, h1, h2⟩ := h
    have hf := List.append_eq_nil_iff.1 hf.symm
    obtain ⟨rfl, rfl⟩ := hf
    unfold vmmGo at hr
    split at hr
    · rename_i e; cases e
    · rename_i a' k' b rest e
      cases e
      have hx := CV_v h1
      subst hx
      have ih := vmmGo_ok max k vs _ xs' r h2 hr
      cases max
      · simp only [Bool.false_eq_true, if_false] at ih ⊢
        simp [Builtin.min2, ih]
      · simp only [if_true] at ih ⊢
        simp [Builtin.max2, ih]
    · cases hr

theorem cXs_ok (h : RelD X s a w D φ F []) : ∀ {ys : List Operand} {xs : List Abs.X}, cXs ys = some xs → CVs w D (xs.map s.ev) φ (ys.map a.eval) []
  | [], xs, hx => by simp only [cXs, Option.some.injEq] at hx; subst hx; exact CVs_nil
  | y :: ys, xs, hx => by
    unfold cXs at hx
    split at hx
    · rename_i x xs' h1 h2
      simp only [Option.some.injEq] at hx; subst hx
      simp only [List.map_cons, CVs]
      exact ⟨_, _, [], [], rfl, rfl, cX_ok h1 h, cXs_ok h h2⟩
    · cases hx

theorem ok_mm (h : RelD X s a w D φ F []) (hd : ∀ d, o.dst = some d → d < X.n) {max : Bool} {xs : List Abs.X} {c : Call} (hop : o.op = .call c) (hcal : c.callee = .builtin (if max then .max else .min)) (hx : cXs c.args.toList = some xs)
    {p : Prop} {δ : Dl} (he : vmm max (xs.map s.ev) = some (p, δ)) : Runs P o X a w (δ.app o.dst s) := by
  have hcv := cXs_ok h hx
  unfold vmm at he
  split at he
  · rename_i k a0 rest hxs
    split at he
    · rename_i r hr
      simp only [pure1, Option.some.injEq, Prod.mk.injEq] at he
      obtain ⟨_, rfl⟩ := he
      rw [hxs] at hcv
      simp only [CVs] at hcv
      obtain ⟨x, xs', f1, f2, hys, hf, h1, h2⟩ := hcv
      have hf := List.append_eq_nil_iff.1 hf.symm
      obtain ⟨rfl, rfl⟩ := hf
      have hx := CV_v h1
      subst hx
      have hgo := vmmGo_ok (P := P) max k rest a0 xs' r h2 hr
      have hargs : c.args.map a.eval = (Value.int k a0 :: xs').toArray := by
        apply Array.ext'; simpa using hys
      refine runs_pure h hd (x := .int k r) ?_ (CV_mkv rfl)
      cases max
      · simp only [Bool.false_eq_true, if_false] at hcal hgo
        simp [execOp, hop, hcal, resolve, invoke, builtin, Builtin.min_, hargs, hgo]
      · simp only [if_true] at hcal hgo
        simp [execOp, hop, hcal, resolve, invoke, builtin, Builtin.max_, hargs, hgo]
    · cases he
  · cases he

theorem ok_clo (h : RelD X s a w D φ F []) (hd : ∀ d, o.dst = some d → d < X.n) {f : Nat} {first cs : Array Operand} {xs : List Abs.X} (hop : o.op = .makeFunc (.func f) first cs) (hfi : first.size = 0) (hx : cXs cs.toList = some xs) :
    Runs P o X a w (({ v := .clo f (xs.map s.ev) } : Dl).app o.dst s) := by
  have hcv := cXs_ok h hx
  obtain rfl : first = #[] := by simpa using hfi
  refine runs_pure h hd (x := .func (.func f) #[] (cs.map a.eval)) (by simp [execOp, hop, Instr.makeFunc]) ?_
  simp only [CV]
  exact ⟨_, rfl, by simpa using hcv⟩

end
end Go.Abs
