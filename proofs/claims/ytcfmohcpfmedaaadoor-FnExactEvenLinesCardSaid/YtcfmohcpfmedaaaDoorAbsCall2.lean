/- The abstract layer, part 10: values that come in, and the rule of a call. -/
import Derived.Test.YtcfmohcpfmedaaaDoorAbsCall
set_option linter.unusedVariables false
set_option linter.unusedSimpArgs false
namespace Go.Abs
variable [GInv]

mutual
/-- Fresh memory of a value becomes blocks of the state: ids d, d + 1000, .. -/
def take (d : Nat) : Nat → V → V × List (Nat × Blk) × Nat
  | k, .own s es => (.sl (d + 1000 * k) 0 es.length, [(d + 1000 * k, ⟨s, es⟩)], k + 1)
  | k, .agg cs => (.agg (takes d k cs).1, (takes d k cs).2.1, (takes d k cs).2.2)
  | k, .tup cs => (.tup (takes d k cs).1, (takes d k cs).2.1, (takes d k cs).2.2)
  | k, v => (v, [], k)
def takes (d : Nat) : Nat → List V → List V × List (Nat × Blk) × Nat
  | k, [] => ([], [], k)
  | k, c :: cs => ((take d k c).1 :: (takes d (take d k c).2.2 cs).1, (take d k c).2.1 ++ (takes d (take d k c).2.2 cs).2.1, (takes d (take d k c).2.2 cs).2.2)
end

mutual
/-- A result that can come in. -/
def resOk : V → Bool
  | .sl _ _ _ => false
  | .ref _ _ _ => false
  | .clo _ _ => false
  | .agg cs => resOks cs
  | .tup cs => resOks cs
  | _ => true
def resOks : List V → Bool
  | [] => true
  | c :: cs => resOk c && resOks cs
end

def updl (f : Nat → Option Blk) : List (Nat × Blk) → Nat → Option Blk
  | [] => f
  | (i, b) :: l => updl (upd f i (some b)) l

omit [GInv] in
theorem updl_append (f : Nat → Option Blk) : ∀ (l l' : List (Nat × Blk)), updl f (l ++ l') = updl (updl f l) l'
  | [], l' => rfl
  | (i, b) :: l, l' => by simp only [List.cons_append, updl]; exact updl_append _ l l'

mutual
/-- All that a value leads to is its own. -/
def noRo : V → Bool
  | .ro _ es => es.isEmpty
  | .rp _ _ _ _ => false
  | .own _ es => noRos es
  | .agg cs => noRos cs
  | .tup cs => noRos cs
  | .clo _ cs => noRos cs
  | _ => true
def noRos : List V → Bool
  | [] => true
  | c :: cs => noRo c && noRos cs
end

omit [GInv] in
mutual
theorem CV_noRo {w : World} {D D' : Nat → Prop} : ∀ (v : V) (φ : Nat → Option Pl) (x : Value) (fp : List Nat), noRo v = true → CV w D v φ x fp → CV w D' v φ x fp
  | .undef, φ, x, fp, _, h => by simpa [CV] using h
  | .v y, φ, x, fp, _, h => by simpa [CV] using h
  | .ref _ _ _, φ, x, fp, _, h => by simpa [CV] using h
  | .sl _ _ _, φ, x, fp, _, h => by simpa [CV] using h
  | .rp _ _ _ _, φ, x, fp, hn, h => by simp [noRo] at hn
  | .ro s es, φ, x, fp, hn, h => by
    simp only [noRo, List.isEmpty_iff] at hn; subst hn
    simp only [CV] at h ⊢
    obtain ⟨hf, ⟨_, h⟩ | ⟨b, o, cap, arr, h1, h2, h3, h4⟩⟩ := h
    · exact ⟨hf, .inl ⟨trivial, h⟩⟩
    · exact ⟨hf, .inl ⟨trivial, _, cap, by simpa using h1, h3⟩⟩
  | .own s es, φ, x, fp, hn, h => by
    simp only [noRo] at hn
    simp only [CV] at h ⊢
    rcases h with h | ⟨b, o, cap, arr, ty, fp', h1, h2, h3, h4, h5, h6, h7, h8⟩
    · exact .inl h
    · exact .inr ⟨b, o, cap, arr, ty, fp', h1, h2, h3, h4, h5, h6, CR_noRo s es _ _ _ hn h7, h8⟩
  | .agg cs, φ, x, fp, hn, h => by
    simp only [noRo] at hn
    simp only [CV] at h ⊢
    obtain ⟨xs, h1, h2⟩ := h; exact ⟨xs, h1, CVs_noRo cs _ _ _ hn h2⟩
  | .tup cs, φ, x, fp, hn, h => by
    simp only [noRo] at hn
    simp only [CV] at h ⊢
    obtain ⟨xs, h1, h2⟩ := h; exact ⟨xs, h1, CVs_noRo cs _ _ _ hn h2⟩
  | .clo _ cs, φ, x, fp, hn, h => by
    simp only [noRo] at hn
    simp only [CV] at h ⊢
    obtain ⟨xs, h1, h2⟩ := h; exact ⟨xs, h1, CVs_noRo cs _ _ _ hn h2⟩
theorem CVs_noRo {w : World} {D D' : Nat → Prop} : ∀ (cs : List V) (φ : Nat → Option Pl) (xs : List Value) (fp : List Nat), noRos cs = true → CVs w D cs φ xs fp → CVs w D' cs φ xs fp
  | [], φ, xs, fp, _, h => by simpa [CVs] using h
  | c :: cs, φ, xs, fp, hn, h => by
    simp only [noRos, Bool.and_eq_true] at hn
    simp only [CVs] at h ⊢
    obtain ⟨x, xs', f1, f2, h1, h2, h3, h4⟩ := h
    exact ⟨x, xs', f1, f2, h1, h2, CV_noRo c _ _ _ hn.1 h3, CVs_noRo cs _ _ _ hn.2 h4⟩
theorem CR_noRo {w : World} {D D' : Nat → Prop} (s : Nat) : ∀ (cs : List V) (φ : Nat → Option Pl) (xs : List Value) (fp : List Nat), noRos cs = true → CR w D s cs φ xs fp → CR w D' s cs φ xs fp
  | [], φ, xs, fp, _, h => by simpa [CR] using h
  | c :: cs, φ, xs, fp, hn, h => by
    simp only [noRos, Bool.and_eq_true] at hn
    simp only [CR] at h ⊢
    obtain ⟨x, xs', f1, f2, h1, h0, h2, h3, h4⟩ := h
    exact ⟨x, xs', f1, f2, h1, h0, h2, CV_noRo c _ _ _ hn.1 h3, CR_noRo s cs _ _ _ hn.2 h4⟩
end

omit [GInv] in
/-- Without ids nothing hangs on the state. -/
theorem borrow_noIds_eq (hp : Nat → Option Blk) : ∀ (k : Nat) (v : V), noIds v = true → noOwn v = true → borrow hp k v = borrow (fun _ => none) k v
  | 0, v, _, _ => rfl
  | k + 1, v, hi, ho => by
    have hall : ∀ cs : List V, noIdss cs = true → noOwns cs = true → cs.map (borrow hp k) = cs.map (borrow (fun _ => none) k) := by
      intro cs
      induction cs with
      | nil => intros; rfl
      | cons c cs ih =>
        intro h1 h2
        simp only [noIdss, noOwns, Bool.and_eq_true] at h1 h2
        simp [borrow_noIds_eq hp k c h1.1 h2.1, ih h1.2 h2.2]
    cases v with
    | undef => rfl
    | v y => rfl
    | rp s es i j => rfl
    | ro s es => rfl
    | ref id i j => simp [noIds] at hi
    | sl id i n => simp [noIds] at hi
    | own s es => simp [noOwn] at ho
    | agg cs => simp only [borrow]; rw [hall cs (by simpa [noIds] using hi) (by simpa [noOwn] using ho)]
    | tup cs => simp only [borrow]; rw [hall cs (by simpa [noIds] using hi) (by simpa [noOwn] using ho)]
    | clo f cs => simp only [borrow]; rw [hall cs (by simpa [noIds] using hi) (by simpa [noOwn] using ho)]

section
variable {X : Ctx} {a : Act} {w : World} {D : Nat → Prop}

omit [GInv] in
mutual
theorem take_le (d : Nat) : ∀ (v : V) (k : Nat), k ≤ (take d k v).2.2
  | .own s es, k => by simp [take]
  | .agg cs, k => by simp only [take]; exact takes_le d cs k
  | .tup cs, k => by simp only [take]; exact takes_le d cs k
  | .undef, k | .v _, k | .ref _ _ _, k | .sl _ _ _, k | .rp _ _ _ _, k | .ro _ _, k | .clo _ _, k => by simp [take]
theorem takes_le (d : Nat) : ∀ (cs : List V) (k : Nat), k ≤ (takes d k cs).2.2
  | [], k => by simp [takes]
  | c :: cs, k => by simp only [takes]; exact Nat.le_trans (take_le d c k) (takes_le d cs _)
end

/-- What has come of the state when a value has come in. -/
structure Took (X : Ctx) (s : St) (a : Act) (w : World) (D : Nat → Prop) (φ : Nat → Option Pl) (F : Nat → List Nat) (G : List Nat) (d k k' : Nat) (l : List (Nat × Blk)) (φ' : Nat → Option Pl) (F' : Nat → List Nat) : Prop where
  rel : RelD X { s with hp := updl s.hp l } a w D φ' F' G
  same : ∀ id, (∀ i, k ≤ i → i < k' → id ≠ d + 1000 * i) → φ' id = φ id
  fresh : ∀ j, Fresh s (d + 1000 * j) → (∀ i, k ≤ i → i < k' → j ≠ i) → Fresh { s with hp := updl s.hp l } (d + 1000 * j)
  sameF : ∀ id, (∀ i, k ≤ i → i < k' → id ≠ d + 1000 * i) → F' id = F id

mutual
theorem take_ok {d : Nat} : ∀ (v : V) (k : Nat) (s : St) (φ : Nat → Option Pl) (F : Nat → List Nat) (x : Value) (fp G : List Nat), resOk v = true → RelD X s a w D φ F (fp ++ G) → CV w D v (fun _ => none) x fp →
    (∀ i, k ≤ i → i < (take d k v).2.2 → Fresh s (d + 1000 * i) ∧ d + 1000 * i ∉ X.pin) →
    ∃ φ' F', Took X s a w D φ F G d k (take d k v).2.2 (take d k v).2.1 φ' F' ∧ CV w D (take d k v).1 φ' x [] ∧ (∀ id, ment id (take d k v).1 = true → ∃ i, k ≤ i ∧ i < (take d k v).2.2 ∧ id = d + 1000 * i)
  | .own sz es, k, s, φ, F, x, fp, G, hro, h, hv, hf => by
    simp only [take] at hf ⊢
    obtain ⟨hfr, hpin⟩ := hf k (Nat.le_refl _) (Nat.lt_succ_self _)
    have hmem : ∀ id, ment id (.sl (d + 1000 * k) 0 es.length) = true → ∃ i, k ≤ i ∧ i < k + 1 ∧ id = d + 1000 * i := fun id hm => by
      simp only [ment, beq_iff_eq] at hm
      exact ⟨k, Nat.le_refl _, Nat.lt_succ_self _, hm.symm⟩
    have hsame : ∀ (pl : Option Pl) id, (∀ i, k ≤ i → i < k + 1 → id ≠ d + 1000 * i) → upd φ (d + 1000 * k) pl id = φ id := fun pl id hi => upd_ne _ _ (hi k (Nat.le_refl _) (Nat.lt_succ_self _))
    have hsameF : ∀ (fl : List Nat) id, (∀ i, k ≤ i → i < k + 1 → id ≠ d + 1000 * i) → upd F (d + 1000 * k) fl id = F id := fun fl id hi => upd_ne _ _ (hi k (Nat.le_refl _) (Nat.lt_succ_self _))
    have hfresh : ∀ (hni : ∀ j, ments (d + 1000 * j) es = false) j, Fresh s (d + 1000 * j) → (∀ i, k ≤ i → i < k + 1 → j ≠ i) → Fresh { s with hp := updl s.hp [(d + 1000 * k, ⟨sz, es⟩)] } (d + 1000 * j) := fun hni j hj hne => by
      have hjk : j ≠ k := hne k (Nat.le_refl _) (Nat.lt_succ_self _)
      refine ⟨hj.sl, fun id blk hb => ?_, ?_⟩
      · simp only [updl] at hb
        by_cases e : id = d + 1000 * k
        · rw [e, upd_same] at hb; cases hb; exact hni j
        · rw [upd_ne _ _ e] at hb; exact hj.hp id blk hb
      · simp only [updl]; rw [upd_ne _ _ (by omega)]; exact hj.no
    simp only [CV] at hv
    rcases hv with ⟨rfl, rfl, rfl⟩ | ⟨b, o, cap, arr, ty, fp', rfl, h2, h3, h4, h5, rfl, h7, h8⟩
    · refine ⟨_, _, ⟨RelD.settle (f := []) h (d + 1000 * k) hfr hpin none ⟨sz, []⟩ (.inl ⟨by simp, rfl, rfl⟩), hsame none, hfresh fun _ => rfl, hsameF _⟩, ?_, hmem⟩
      simp [CV]
    · refine ⟨_, _, ⟨RelD.settle h (d + 1000 * k) hfr hpin (some ⟨b, o, sz, arr.size⟩) ⟨sz, es⟩ (.inr ⟨⟨b, o, sz, arr.size⟩, arr, ty, fp', by simp, rfl, rfl, h5, rfl, ?_⟩), hsame _, hfresh fun j => ments_noIds _ _ h8, hsameF _⟩, ?_, hmem⟩
      · exact CR_mono (fun _ hb => hb) _ _ _ _ _ _ (fun _ _ => rfl) (fun id hm => by rw [ments_noIds id es h8] at hm; cases hm) h7
      · simp only [CV, upd_same]
        refine ⟨trivial, .inr ⟨_, o, cap, rfl, rfl, h2, h3, ?_⟩⟩
        rcases h4 with h4 | h4
        · exact .inl h4
        · exact .inr ⟨by simp, by simpa using h4⟩
  | .agg cs, k, s, φ, F, x, fp, G, hro, h, hv, hf => by
    simp only [take] at hf ⊢
    simp only [CV] at hv
    obtain ⟨xs, rfl, hv⟩ := hv
    obtain ⟨φ', F', h1, h2, h3⟩ := takes_ok cs k s φ F xs.toList fp G (by simpa [resOk] using hro) h hv hf
    exact ⟨φ', F', h1, by simp only [CV]; exact ⟨xs, rfl, h2⟩, fun id hm => h3 id (by simpa [ment] using hm)⟩
  | .tup cs, k, s, φ, F, x, fp, G, hro, h, hv, hf => by
    simp only [take] at hf ⊢
    simp only [CV] at hv
    obtain ⟨xs, rfl, hv⟩ := hv
    obtain ⟨φ', F', h1, h2, h3⟩ := takes_ok cs k s φ F xs.toList fp G (by simpa [resOk] using hro) h hv hf
    exact ⟨φ', F', h1, by simp only [CV]; exact ⟨xs, rfl, h2⟩, fun id hm => h3 id (by simpa [ment] using hm)⟩
  | .undef, k, s, φ, F, x, fp, G, hro, h, hv, hf => by
    simp only [take] at hf ⊢
    simp only [CV] at hv; subst hv
    exact ⟨φ, F, ⟨h, fun _ _ => rfl, fun j hj _ => hj, fun _ _ => rfl⟩, by simp [CV], fun id hm => by simp [ment] at hm⟩
  | .v y, k, s, φ, F, x, fp, G, hro, h, hv, hf => by
    simp only [take] at hf ⊢
    have hfp : fp = [] := CV_noOwn _ _ _ _ rfl hv
    subst hfp
    exact ⟨φ, F, ⟨h, fun _ _ => rfl, fun j hj _ => hj, fun _ _ => rfl⟩, by simpa [CV] using hv, fun id hm => by simp [ment] at hm⟩
  | .ref id i j, k, s, φ, F, x, fp, G, hro, h, hv, hf => by
    simp only [CV] at hv; obtain ⟨_, p, hp, _⟩ := hv; cases hp
  | .sl id i n, k, s, φ, F, x, fp, G, hro, h, hv, hf => by
    simp [resOk] at hro
  | .rp s' es i j, k, s, φ, F, x, fp, G, hro, h, hv, hf => by
    simp only [take] at hf ⊢
    have hfp : fp = [] := CV_noOwn _ _ _ _ rfl hv
    subst hfp
    exact ⟨φ, F, ⟨h, fun _ _ => rfl, fun j hj _ => hj, fun _ _ => rfl⟩, by simpa [CV] using hv, fun id hm => by simp [ment] at hm⟩
  | .ro s' es, k, s, φ, F, x, fp, G, hro, h, hv, hf => by
    simp only [take] at hf ⊢
    have hfp : fp = [] := CV_noOwn _ _ _ _ rfl hv
    subst hfp
    exact ⟨φ, F, ⟨h, fun _ _ => rfl, fun j hj _ => hj, fun _ _ => rfl⟩, by simpa [CV] using hv, fun id hm => by simp [ment] at hm⟩
  | .clo g cs, k, s, φ, F, x, fp, G, hro, h, hv, hf => by
    simp [resOk] at hro
theorem takes_ok {d : Nat} : ∀ (cs : List V) (k : Nat) (s : St) (φ : Nat → Option Pl) (F : Nat → List Nat) (xs : List Value) (fp G : List Nat), resOks cs = true → RelD X s a w D φ F (fp ++ G) → CVs w D cs (fun _ => none) xs fp →
    (∀ i, k ≤ i → i < (takes d k cs).2.2 → Fresh s (d + 1000 * i) ∧ d + 1000 * i ∉ X.pin) →
    ∃ φ' F', Took X s a w D φ F G d k (takes d k cs).2.2 (takes d k cs).2.1 φ' F' ∧ CVs w D (takes d k cs).1 φ' xs [] ∧ (∀ id, ments id (takes d k cs).1 = true → ∃ i, k ≤ i ∧ i < (takes d k cs).2.2 ∧ id = d + 1000 * i)
  | [], k, s, φ, F, xs, fp, G, hro, h, hv, hf => by
    simp only [CVs] at hv; obtain ⟨rfl, rfl⟩ := hv
    simp only [takes] at hf ⊢
    exact ⟨φ, F, ⟨h, fun _ _ => rfl, fun j hj _ => hj, fun _ _ => rfl⟩, CVs_nil, fun id hm => by simp [ments] at hm⟩
  | c :: cs, k, s, φ, F, xs, fp, G, hro, h, hv, hf => by
    simp only [CVs] at hv
    obtain ⟨x, xs', f1, f2, rfl, rfl, h1, h2⟩ := hv
    simp only [takes] at hf ⊢
    simp only [resOks, Bool.and_eq_true] at hro
    have hle1 := take_le d c k
    have hle2 := takes_le d cs (take d k c).2.2
    rw [List.append_assoc] at h
    obtain ⟨φ1, F1, t1, t2, t3⟩ := take_ok c k s φ F x f1 (f2 ++ G) hro.1 h h1 (fun i hi hi' => hf i hi (Nat.lt_of_lt_of_le hi' hle2))
    obtain ⟨φ2, F2, u1, u2, u3⟩ := takes_ok cs (take d k c).2.2 _ φ1 F1 xs' f2 G hro.2 t1.rel h2 (fun i hi hi' => by
      have := hf i (Nat.le_trans hle1 hi) hi'
      exact ⟨t1.fresh i this.1 (fun j hj hj' => by omega), this.2⟩)
    refine ⟨φ2, F2, ⟨?_, fun id hid => ?_, fun j hj hne => ?_, fun id hid => ?_⟩, ?_, fun id hm => ?_⟩
    · rw [updl_append]; exact u1.rel
    · rw [u1.same id (fun i hi hi' => hid i (Nat.le_trans hle1 hi) hi'), t1.same id (fun i hi hi' => hid i hi (Nat.lt_of_lt_of_le hi' hle2))]
    · rw [updl_append]
      exact u1.fresh j (t1.fresh j hj (fun i hi hi' => hne i hi (Nat.lt_of_lt_of_le hi' hle2))) (fun i hi hi' => hne i (Nat.le_trans hle1 hi) hi')
    · rw [u1.sameF id (fun i hi hi' => hid i (Nat.le_trans hle1 hi) hi'), t1.sameF id (fun i hi hi' => hid i hi (Nat.lt_of_lt_of_le hi' hle2))]
    · simp only [CVs]
      refine ⟨x, xs', [], [], rfl, rfl, CV_mono (fun _ hb => hb) _ _ _ _ _ (fun _ _ => rfl) (fun id hm => u1.same id fun i hi hi' => ?_) t2, u2⟩
      obtain ⟨j, hj, hj', rfl⟩ := t3 id hm
      omega
    · simp only [ments, Bool.or_eq_true] at hm
      rcases hm with hm | hm
      · obtain ⟨i, hi, hi', rfl⟩ := t3 id hm
        exact ⟨i, hi, Nat.lt_of_lt_of_le hi' hle2, rfl⟩
      · obtain ⟨i, hi, hi', rfl⟩ := u3 id hm
        exact ⟨i, Nat.le_trans hle1 hi, hi', rfl⟩
end

/-- The state behind a call whose result 'res' goes to slot d. -/
def St.took (s : St) (d : Nat) (res : V) : St := { sl := upd s.sl d (take d 0 res).1, hp := updl s.hp (take d 0 res).2.1 }

theorem CVs_borrow {X : Ctx} {s : St} {φ : Nat → Option Pl} {F : Nat → List Nat} (h : RelD X s a w D φ F []) {D' : Nat → Prop} (hD : ∀ b, D b → D' b) (hF : ∀ id b, b ∈ F id → D' b) (k : Nat) :
    ∀ (vs : List V) (xs : List Value), CVs w D vs φ xs [] → CVs w D' (vs.map (borrow s.hp k)) (fun _ => none) xs [] := fun vs xs hv =>
  CVs_map (fun v x fp hfp hc => borrow_ok hD hF h.blks k φ (.inl rfl) v x fp hfp hc) vs xs [] (by simp) hv

omit [GInv] in
theorem CVs_direct {φ : Nat → Option Pl} (hp : Nat → Option Blk) (k : Nat) : ∀ (vs : List V) (xs : List Value), noIdss vs = true → noOwns vs = true → CVs w D vs φ xs [] → CVs w D (vs.map (borrow hp k)) (fun _ => none) xs []
  | [], xs, _, _, h => by simpa [CVs] using h
  | v :: vs, xs, hi, ho, h => by
    simp only [noIdss, noOwns, Bool.and_eq_true] at hi ho
    simp only [CVs] at h
    obtain ⟨x, xs', f1, f2, rfl, hf, h1, h2⟩ := h
    have hf := List.append_eq_nil_iff.1 hf.symm
    obtain ⟨rfl, rfl⟩ := hf
    simp only [List.map_cons, CVs]
    refine ⟨x, xs', [], [], rfl, rfl, ?_, CVs_direct hp k vs xs' hi.2 ho.2 h2⟩
    rw [borrow_noIds_eq hp k v hi.1 ho.1]
    exact borrow_ok (F := fun _ => []) (hp := fun _ => none) (fun _ hb => hb) (by simp) (by simp) k φ (.inl rfl) v x [] (by simp) h1

/-- THE RULE OF A CALL. -/
theorem call_ok {P : Program} {X : Ctx} {s : St} {f d k : Nat} {vs : List V} {res : V} {xs : List Value} (hP : PCall P f (vs.map (borrow s.hp k)) res) (h : Rel X s a w) (hv : ∀ D φ F, RelD X s a w D φ F [] → CVs w D vs φ xs [])
    (hd : d < X.n) (hres : resOk res = true) (hro : noRo res = true ∨ (noIdss vs = true ∧ noOwns vs = true)) (hf : ∀ i, i < (take d 0 res).2.2 → Fresh s (d + 1000 * i) ∧ d + 1000 * i ∉ X.pin) :
    Calls P f xs.toArray w fun e w' => ∃ y, e = .returned y ∧ Rel X (s.took d res) (a.put (some d) y) w' := by
  obtain ⟨D, φ, F, h⟩ := h
  have hvs := hv D φ F h
  have finish : ∀ (D2 : Nat → Prop) (w' : World) (y : Value) (fp : List Nat), Grow w D [] w' D2 → CV w' D2 res (fun _ => none) y fp → fp.Nodup → (∀ b, b ∈ fp → w.heap.size ≤ b ∧ b < w'.heap.size ∧ ¬ D2 b) → Rel X (s.took d res) (a.put (some d) y) w' := by
    intro D2 w' y fp hg hc hn hfr
    have h1 := h.grow w' D2 fp hg.os hg.tape hg.output hg.size (fun b hb => hg.old b hb (by simp)) hg.Dup (fun b hb => ⟨hg.Ddn b hb, hg.Dlt b hb⟩) hn hfr
    rw [List.nil_append, ← List.append_nil fp] at h1
    obtain ⟨φ', F', t1, t2, _⟩ := take_ok (d := d) res 0 s φ F y fp [] hres h1 hc (fun i _ hi => hf i hi)
    exact ⟨D2, φ', F', t1.rel.put d hd _ _ t2⟩
  rcases hro with hro | hdir
  · -- all that is there is read-only for the callee
    have hargs := CVs_borrow h (D' := fun b => b < w.heap.size) (fun b hb => h.Dlt b hb) (fun id b hb => (h.notD id b hb).2.1) k vs xs hvs
    refine (hP.2 w (fun b => b < w.heap.size) xs (fun _ hb => hb) (GInv.mono h.gi (fun b hb => h.Dlt b hb) fun _ _ => rfl) hargs).mono ?_
    rintro e w' ⟨y, D', fp, rfl, hg, hc, hn, hfr⟩
    refine ⟨y, rfl, finish (fun b => D b ∨ (w.heap.size ≤ b ∧ D' b)) w' y fp ?_ (CV_noRo res _ _ _ hro hc) hn ?_⟩
    · exact { hg with Dup := fun b hb => .inl hb, Ddn := fun b hb => hb.imp id (·.1), Dlt := fun b hb => hb.elim (fun hb => Nat.lt_of_lt_of_le (h.Dlt b hb) hg.size) (fun hb => hg.Dlt b hb.2) }
    · intro b hb
      have := hfr b hb
      exact ⟨this.1, this.2.1, fun hd => hd.elim (fun hd => by have := h.Dlt b hd; omega) (fun hd => this.2.2 hd.2)⟩
  · have hargs := CVs_direct s.hp k vs xs hdir.1 hdir.2 hvs
    refine (hP.2 w D xs h.Dlt h.gi hargs).mono ?_
    rintro e w' ⟨y, D', fp, rfl, hg, hc, hn, hfr⟩
    exact ⟨y, rfl, finish D' w' y fp hg hc hn hfr⟩
end
end Go.Abs
