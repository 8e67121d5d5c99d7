/- The abstract layer: a block that only one element of another block leads to becomes that element's own memory, and back. -/
import Derived.Test.YtcfmohcpfmedaaaDoorAbsRen
set_option linter.unusedVariables false
set_option linter.unusedSimpArgs false
namespace Go.Abs
variable [GInv]
section
variable {w : World} {D : Nat → Prop} {φ : Nat → Option Pl} {F : Nat → List Nat}

omit [GInv] in
mutual
theorem give_noOwn {hp : Nat → Option Blk} : ∀ (v : V) (p : Prop) (v' : V) (ids : List Nat), give hp v = some (p, v', ids) → noOwn v = true
  | .undef, p, v', ids, hg | .ref _ _ _, p, v', ids, hg | .own _ _, p, v', ids, hg | .clo _ _, p, v', ids, hg => by simp [give] at hg
  | .v _, p, v', ids, hg | .ro _ _, p, v', ids, hg | .rp _ _ _ _, p, v', ids, hg | .sl _ _ _, p, v', ids, hg => by simp [noOwn]
  | .agg cs, p, v', ids, hg => by
    simp only [give] at hg
    split at hg <;> simp only [Option.some.injEq, Prod.mk.injEq, reduceCtorEq] at hg
    rename_i q vs ids' e
    simp only [noOwn]; exact gives_noOwn cs _ _ _ e
  | .tup cs, p, v', ids, hg => by
    simp only [give] at hg
    split at hg <;> simp only [Option.some.injEq, Prod.mk.injEq, reduceCtorEq] at hg
    rename_i q vs ids' e
    simp only [noOwn]; exact gives_noOwn cs _ _ _ e
theorem gives_noOwn {hp : Nat → Option Blk} : ∀ (cs : List V) (p : Prop) (vs : List V) (ids : List Nat), gives hp cs = some (p, vs, ids) → noOwns cs = true
  | [], p, vs, ids, hg => rfl
  | c :: cs, p, vs, ids, hg => by
    simp only [gives] at hg
    split at hg <;> simp only [Option.some.injEq, Prod.mk.injEq, reduceCtorEq] at hg
    rename_i p1 v ids1 q vs' ids' e1 e2
    simp only [noOwns, Bool.and_eq_true]
    exact ⟨give_noOwn c _ _ _ e1, gives_noOwn cs _ _ _ e2⟩
end

omit [GInv] in
mutual
theorem give_noIds {hp : Nat → Option Blk} : ∀ (v : V) (p : Prop) (v' : V) (ids : List Nat), give hp v = some (p, v', ids) → noIds v' = true
  | .undef, p, v', ids, hg | .ref _ _ _, p, v', ids, hg | .own _ _, p, v', ids, hg | .clo _ _, p, v', ids, hg => by simp [give] at hg
  | .v _, p, v', ids, hg | .ro _ _, p, v', ids, hg | .rp _ _ _ _, p, v', ids, hg => by
    simp only [give, Option.some.injEq, Prod.mk.injEq] at hg; obtain ⟨_, rfl, _⟩ := hg; rfl
  | .sl id i n, p, v', ids, hg => by
    simp only [give] at hg
    split at hg
    · split at hg
      · simp only [Option.some.injEq, Prod.mk.injEq] at hg; obtain ⟨_, rfl, _⟩ := hg; rfl
      · cases hg
    · cases hg
  | .agg cs, p, v', ids, hg => by
    simp only [give] at hg
    split at hg <;> simp only [Option.some.injEq, Prod.mk.injEq, reduceCtorEq] at hg
    rename_i q vs ids' e
    obtain ⟨_, rfl, _⟩ := hg
    simp only [noIds]; exact gives_noIds cs _ _ _ e
  | .tup cs, p, v', ids, hg => by
    simp only [give] at hg
    split at hg <;> simp only [Option.some.injEq, Prod.mk.injEq, reduceCtorEq] at hg
    rename_i q vs ids' e
    obtain ⟨_, rfl, _⟩ := hg
    simp only [noIds]; exact gives_noIds cs _ _ _ e
theorem gives_noIds {hp : Nat → Option Blk} : ∀ (cs : List V) (p : Prop) (vs : List V) (ids : List Nat), gives hp cs = some (p, vs, ids) → noIdss vs = true
  | [], p, vs, ids, hg => by
    simp only [gives, Option.some.injEq, Prod.mk.injEq] at hg; obtain ⟨_, rfl, _⟩ := hg; rfl
  | c :: cs, p, vs, ids, hg => by
    simp only [gives] at hg
    split at hg <;> simp only [Option.some.injEq, Prod.mk.injEq, reduceCtorEq] at hg
    rename_i p1 v ids1 q vs' ids' e1 e2
    obtain ⟨_, rfl, _⟩ := hg
    simp only [noIdss, Bool.and_eq_true]
    exact ⟨give_noIds c _ _ _ e1, gives_noIds cs _ _ _ e2⟩
end

omit [GInv] in
/-- Element i of a row, and the row with another abstract value of the same concrete element. -/
theorem CR_at {s : Nat} : ∀ {es : List V} {xs : List Value} {f : List Nat} {i : Nat} {e : V}, CR w D s es φ xs f → es[i]? = some e →
    ∃ x f1 fi f2, f = f1 ++ fi ++ f2 ∧ CV w D e φ x fi ∧ ∀ e' fe φ', (∀ id, ments id (es.set i .undef) = true → φ' id = φ id) → CV w D e' φ' x fe → CR w D s (es.set i e') φ' xs (f1 ++ fe ++ f2)
  | [], xs, f, i, e, h, he => by simp at he
  | c :: cs, xs, f, i, e, h, he => by
    simp only [CR] at h; obtain ⟨x, rest, g1, g2, rfl, ⟨hs, ho⟩, rfl, h1, h⟩ := h
    cases i with
    | zero =>
      simp at he; subst he
      refine ⟨x, [], g1, g2, by simp, h1, fun e' fe φ' hφ he' => ?_⟩
      simp only [List.set_cons_zero, CR]
      exact ⟨x, rest, fe, g2, rfl, ⟨hs, ho⟩, by simp, he', CR_mono (fun _ hb => hb) _ _ _ _ _ _ (fun _ _ => rfl) (fun id hm => hφ id (by simp [ments, hm])) h⟩
    | succ i =>
      obtain ⟨y, f1, fi, f2, rfl, k2, k3⟩ := CR_at h (by simpa using he)
      refine ⟨y, g1 ++ f1, fi, f2, by simp, k2, fun e' fe φ' hφ he' => ?_⟩
      simp only [List.set_cons_succ, CR]
      exact ⟨x, rest, g1, f1 ++ fe ++ f2, rfl, ⟨hs, ho⟩, by simp, CV_mono (fun _ hb => hb) _ _ _ _ _ (fun _ _ => rfl) (fun id hm => hφ id (by simp [ments, hm])) h1, k3 e' fe φ' (fun id hm => hφ id (by simp [ments, hm])) he'⟩

omit [GInv] in
mutual
theorem take_ids (d : Nat) : ∀ (v : V) (k : Nat) (q : Nat × Blk), q ∈ (take d k v).2.1 → ∃ j, (k ≤ j ∧ j < (take d k v).2.2) ∧ q.1 = d + 1000 * j
  | .own s es, k, q, h => by
    simp only [take, List.mem_singleton] at h
    exact ⟨k, ⟨Nat.le_refl _, by simp [take]⟩, by rw [h]⟩
  | .agg cs, k, q, h => by
    simp only [take] at h ⊢; exact takes_ids d cs k q h
  | .tup cs, k, q, h => by
    simp only [take] at h ⊢; exact takes_ids d cs k q h
  | .undef, k, q, h | .v _, k, q, h | .ref _ _ _, k, q, h | .sl _ _ _, k, q, h | .rp _ _ _ _, k, q, h | .ro _ _, k, q, h | .clo _ _, k, q, h => by simp [take] at h
theorem takes_ids (d : Nat) : ∀ (cs : List V) (k : Nat) (q : Nat × Blk), q ∈ (takes d k cs).2.1 → ∃ j, (k ≤ j ∧ j < (takes d k cs).2.2) ∧ q.1 = d + 1000 * j
  | [], k, q, h => by simp [takes] at h
  | c :: cs, k, q, h => by
    simp only [takes, List.mem_append] at h ⊢
    have hle1 := take_le d c k
    have hle2 := takes_le d cs (take d k c).2.2
    rcases h with h | h
    · obtain ⟨j, hj, e⟩ := take_ids d c k q h
      exact ⟨j, ⟨hj.1, by omega⟩, e⟩
    · obtain ⟨j, hj, e⟩ := takes_ids d cs _ q h
      exact ⟨j, ⟨by omega, hj.2⟩, e⟩
end

variable {X : Ctx} {s : St} {a : Act}

theorem RelD.fold (h : RelD X s a w D φ F []) {host i : Nat} {bh : Blk} (hb : s.hp host = some bh) {v : V} (hv : bh.es[i]? = some v) {p : Prop} {v' : V} {ids : List Nat} (hg : give s.hp v = some (p, v', ids)) (hp : p)
    (hnd : ids.Nodup) (hh : host ∉ ids) :
    ∃ F', RelD X { s with hp := fun k => if k ∈ ids then none else if k = host then some ⟨bh.s, bh.es.set i v'⟩ else s.hp k } a w D φ F' [] := by
  rcases h.blks host bh hb with ⟨_, e, _⟩ | ⟨p0, arr, ty, f', q1, q2, q3, q4, q5, q6⟩
  · rw [e] at hv; simp at hv
  obtain ⟨x, f1, fi, f2, rfl, hx, hset⟩ := CR_at q6 hv
  have hfi : fi = [] := CV_noOwn _ _ _ _ (give_noOwn v p v' ids hg) hx
  subst hfi
  have hcv := give_ok (F := F) h.blks v x p v' ids hg hp hx
  have hcv' : CV w D v' φ x (ids.flatMap F) := CV_mono (fun _ hb => hb) _ _ _ _ _ (fun _ _ => rfl) (fun id hm => by rw [ment_noIds id v' (give_noIds v p v' ids hg)] at hm; cases hm) hcv
  have hcr := hset v' _ φ (fun _ _ => rfl) hcv'
  let F' : Nat → List Nat := fun k => if k ∈ ids then [] else if k = host then p0.b :: (f1 ++ ids.flatMap F ++ f2) else F k
  have hF : ∀ k b, b ∈ F' k → k ∉ ids ∧ ∃ j, b ∈ F j ∧ (j = k ∨ (k = host ∧ j ∈ ids)) := by
    intro k b hbk
    simp only [F'] at hbk
    split at hbk
    · simp at hbk
    · rename_i hk
      refine ⟨hk, ?_⟩
      split at hbk
      · rename_i e; subst e
        rcases List.mem_cons.1 hbk with e | hm
        · exact ⟨k, by rw [q5, e]; exact List.mem_cons_self, .inl rfl⟩
        · rcases List.mem_append.1 hm with hm | hm
          · rcases List.mem_append.1 hm with hm | hm
            · exact ⟨k, by rw [q5]; simp [hm], .inl rfl⟩
            · obtain ⟨j, hj, hbj⟩ := List.mem_flatMap.1 hm
              exact ⟨j, hbj, .inr ⟨rfl, hj⟩⟩
          · exact ⟨k, by rw [q5]; simp [hm], .inl rfl⟩
      · exact ⟨k, hbk, .inl rfl⟩
  refine ⟨F', { h with blks := fun k blk hbk => ?_, nob := fun k hn => ?_, nodup := fun k => ?_, sep := fun k j hkj b hbk hbj => ?_, notD := fun k b hbk => ?_, gsep := fun k b hbk hm => absurd hm List.not_mem_nil }⟩
  · simp only [F'] at hbk ⊢
    split at hbk
    · cases hbk
    · rename_i hk
      rw [if_neg hk]
      split at hbk
      · rename_i e; subst e
        cases hbk
        rw [if_pos rfl]
        exact .inr ⟨p0, arr, ty, _, q1, q2, q3, q4, rfl, hcr⟩
      · rename_i e; rw [if_neg e]; exact h.blks k blk hbk
  · simp only [F'] at hn ⊢
    split at hn
    · rename_i hk; rw [if_pos hk]
    · rename_i hk
      rw [if_neg hk]
      split at hn
      · cases hn
      · rename_i e; rw [if_neg e]; exact h.nob k hn
  · simp only [F']
    split
    · exact List.nodup_nil
    · split
      · have hperm : (p0.b :: (f1 ++ ids.flatMap F ++ f2)).Perm (F host ++ ids.flatMap F) := by
          rw [q5]
          simp only [List.append_nil, List.cons_append]
          refine List.Perm.cons _ ?_
          rw [List.append_assoc, List.append_assoc]
          exact List.Perm.append_left f1 List.perm_append_comm
        refine hperm.nodup_iff.2 (List.nodup_append.2 ⟨h.nodup host, flatMap_nodup h ids hnd, fun b hb1 c hc e => ?_⟩)
        subst e
        obtain ⟨j, hj, hbj⟩ := List.mem_flatMap.1 hc
        exact h.sep host j (fun e => hh (e ▸ hj)) b hb1 hbj
      · exact h.nodup k
  · obtain ⟨hk, k', hk1, hk2⟩ := hF k b hbk
    obtain ⟨hj, j', hj1, hj2⟩ := hF j b hbj
    have hne : k' ≠ j' := by
      intro e; subst e
      rcases hk2 with rfl | ⟨rfl, hk2⟩
      · rcases hj2 with rfl | ⟨rfl, hj2⟩
        · exact hkj rfl
        · exact hk hj2
      · rcases hj2 with rfl | ⟨rfl, hj2⟩
        · exact hj hk2
        · exact hkj rfl
    exact h.sep k' j' hne b hk1 hj1
  · obtain ⟨_, k', hk1, _⟩ := hF k b hbk
    exact h.notD k' b hk1

theorem RelD.unfold (h : RelD X s a w D φ F []) {host i d : Nat} {bh : Blk} (hb : s.hp host = some bh) {v : V} (hv : bh.es[i]? = some v) (hni : noIds v = true) (hro : resOk v = true)
    (hf : ∀ k, k < (take d 0 v).2.2 → Fresh s (d + 1000 * k) ∧ d + 1000 * k ∉ X.pin) :
    ∃ φ' F', RelD X { s with hp := upd (updl (upd s.hp host (some ⟨bh.s, bh.es.set i .undef⟩)) (take d 0 v).2.1) host (some ⟨bh.s, bh.es.set i (take d 0 v).1⟩) } a w D φ' F' [] := by
  rcases h.blks host bh hb with ⟨_, e, _⟩ | ⟨p0, arr, ty, f', q1, q2, q3, q4, q5, q6⟩
  · rw [e] at hv; simp at hv
  obtain ⟨x, f1, fi, f2, rfl, hx, hset⟩ := CR_at q6 hv
  have hx' : CV w D v (fun _ => none) x fi := CV_mono (fun _ hb => hb) _ _ _ _ _ (fun _ _ => rfl) (fun id hm => by rw [ment_noIds id v hni] at hm; cases hm) hx
  have hnodup := h.nodup host
  rw [q5] at hnodup
  have hperm : (p0.b :: (f1 ++ fi ++ f2)).Perm ((p0.b :: (f1 ++ f2)) ++ fi) := by
    simp only [List.cons_append]
    refine List.Perm.cons _ ?_
    rw [List.append_assoc, List.append_assoc]
    exact List.Perm.append_left f1 List.perm_append_comm
  have hnd2 := hperm.nodup_iff.1 hnodup
  have hin : ∀ b, b ∈ fi → b ∈ F host := fun b hb => by rw [q5]; simp [hb]
  have hin2 : ∀ b, b ∈ p0.b :: (f1 ++ f2) → b ∈ F host := fun b hb => by
    rw [q5]
    simp only [List.mem_cons, List.mem_append] at hb ⊢
    rcases hb with hb | hb | hb <;> simp [hb]
  -- the element goes on its way
  have h1 : RelD X { s with hp := upd s.hp host (some ⟨bh.s, bh.es.set i .undef⟩) } a w D φ (upd F host (p0.b :: (f1 ++ f2))) (fi ++ []) := by
    refine { h with blks := fun k blk hbk => ?_, nob := fun k hn => ?_, nodup := fun k => ?_, sep := fun k j hkj b hbk hbj => ?_, notD := fun k b hbk => ?_, gnodup := ?_, gsep := fun k b hbk hm => ?_, gnotD := fun b hm => ?_ }
    · by_cases e : k = host
      · subst e
        simp at hbk; subst hbk
        rw [upd_same]
        exact .inr ⟨p0, arr, ty, f1 ++ f2, q1, q2, q3, q4, rfl, by simpa using hset .undef [] φ (fun _ _ => rfl) (by simp [CV])⟩
      · rw [upd_ne _ _ e]; simp only [upd, e, if_false] at hbk; exact h.blks k blk hbk
    · by_cases e : k = host
      · subst e; simp at hn
      · rw [upd_ne _ _ e]; simp only [upd, e, if_false] at hn; exact h.nob k hn
    · by_cases e : k = host
      · subst e; rw [upd_same]; exact (List.nodup_append.1 hnd2).1
      · rw [upd_ne _ _ e]; exact h.nodup k
    · have g1 : b ∈ F k := by
        by_cases e : k = host
        · subst e; rw [upd_same] at hbk; exact hin2 b hbk
        · rw [upd_ne _ _ e] at hbk; exact hbk
      have g2 : b ∈ F j := by
        by_cases e : j = host
        · subst e; rw [upd_same] at hbj; exact hin2 b hbj
        · rw [upd_ne _ _ e] at hbj; exact hbj
      exact h.sep k j hkj b g1 g2
    · by_cases e : k = host
      · subst e; rw [upd_same] at hbk; exact h.notD k b (hin2 b hbk)
      · rw [upd_ne _ _ e] at hbk; exact h.notD k b hbk
    · simpa using (List.nodup_append.1 hnd2).2.1
    · simp only [List.append_nil] at hm
      by_cases e : k = host
      · subst e; rw [upd_same] at hbk
        exact (List.nodup_append.1 hnd2).2.2 b hbk b hm rfl
      · rw [upd_ne _ _ e] at hbk
        exact h.sep k host e b hbk (hin b hm)
    · simp only [List.append_nil] at hm
      exact h.notD host b (hin b hm)
  have hset_ments : ∀ k, ments k bh.es = false → ments k (bh.es.set i .undef) = false := fun k hk => ments_set (by simp [ment]) hk
  have hne : ∀ k, Fresh s k → k ≠ host := fun k hk e => by rw [← e, hk.no] at hb; cases hb
  obtain ⟨φ', F', t1, t2, t3⟩ := take_ok (d := d) v 0 _ φ _ x fi [] hro h1 hx' (fun k _ hk => by
    obtain ⟨g1, g2⟩ := hf k hk
    refine ⟨⟨g1.sl, fun id blk hbk => ?_, ?_⟩, g2⟩
    · by_cases e : id = host
      · subst e; simp at hbk; subst hbk; exact hset_ments _ (g1.hp id bh hb)
      · simp only [upd, e, if_false] at hbk; exact g1.hp id blk hbk
    · simp only [upd, hne _ g1, if_false]; exact g1.no)
  have h2 := t1.rel
  have hhost : updl (upd s.hp host (some ⟨bh.s, bh.es.set i .undef⟩)) (take d 0 v).2.1 host = some ⟨bh.s, bh.es.set i .undef⟩ := by
    have hall : ∀ q ∈ (take d 0 v).2.1, q.1 ≠ host := by
      intro q hq
      obtain ⟨k, hk, e⟩ := take_ids d v 0 q hq
      rw [e]
      exact hne _ (hf k hk.2).1
    generalize (take d 0 v).2.1 = l at hall
    have : ∀ (l : List (Nat × Blk)) (f : Nat → Option Blk), (∀ q ∈ l, q.1 ≠ host) → updl f l host = f host := by
      intro l
      induction l with
      | nil => intro f _; rfl
      | cons q l ih =>
        intro f hl
        obtain ⟨j, b⟩ := q
        simp only [updl]
        rw [ih _ (fun q hq => hl q (List.mem_cons_of_mem _ hq)), upd_ne _ _ (Ne.symm (hl (j, b) List.mem_cons_self))]
    rw [this l _ hall, upd_same]
  have hφ : φ' host = φ host := t1.same host fun k _ hk e => hne _ (hf k hk).1 e.symm
  have hsetid : ∀ id, ments id (bh.es.set i .undef) = true → φ' id = φ id := fun id hm => t1.same id fun k _ hk e => by
    subst e
    rw [hset_ments _ ((hf k hk).1.hp host bh hb)] at hm; cases hm
  rcases h2.blks host _ hhost with ⟨_, e, _⟩ | ⟨p1, arr1, ty1, f3, r1, r2, r3, r4, r5, r6⟩
  · have : (bh.es.set i V.undef).length = 0 := by rw [show bh.es.set i V.undef = [] from e]; rfl
    rw [List.length_set] at this
    rw [List.eq_nil_of_length_eq_zero this] at hv; simp at hv
  · rw [hφ, q1] at r1; cases r1
    rw [q4] at r4; cases r4
    have hlt : i < bh.es.length := (List.getElem?_eq_some_iff.1 hv).1
    have hFh : F' host = p0.b :: (f1 ++ f2) := by rw [t1.sameF host fun k _ hk e => hne _ (hf k hk).1 e.symm, upd_same]
    refine ⟨φ', F', { h2 with blks := fun k blk hbk => ?_, nob := fun k hn => ?_ }⟩
    · by_cases e : k = host
      · subst e
        simp at hbk; subst hbk
        exact .inr ⟨p0, arr, ty, f1 ++ f2, by rw [hφ]; exact q1, q2, q3, q4, hFh, by simpa using hset (take d 0 v).1 [] φ' hsetid t2⟩
      · simp only [upd, e, if_false] at hbk; exact h2.blks k blk hbk
    · by_cases e : k = host
      · subst e; simp at hn
      · simp only [upd, e, if_false] at hn; exact h2.nob k hn
end

/-! ### The same for states as lists -/

def rmbs (ids : List Nat) (l : List (Nat × Blk)) : List (Nat × Blk) := l.filter fun q => !ids.contains q.1

omit [GInv] in
theorem lkb_rmbs (ids : List Nat) : ∀ (l : List (Nat × Blk)) (k : Nat), lkb (rmbs ids l) k = if k ∈ ids then none else lkb l k
  | [], k => by simp [rmbs, lkb]
  | (j, b) :: l, k => by
    have ih := lkb_rmbs ids l k
    simp only [rmbs, List.filter_cons] at ih ⊢
    by_cases hj : j ∈ ids
    · simp only [List.contains_eq_mem, hj, decide_true, Bool.not_true, Bool.false_eq_true, if_false, lkb]
      simp only [List.contains_eq_mem] at ih
      rw [ih]
      by_cases e : k = j
      · subst e; simp [hj]
      · simp [e]
    · simp only [List.contains_eq_mem, hj, decide_false, Bool.not_false, if_true, lkb]
      simp only [List.contains_eq_mem] at ih
      rw [ih]
      by_cases e : k = j
      · subst e; simp [hj]
      · simp [e]

theorem Wk.fold {s : AS} (host i : Nat) {bh : Blk} {v : V} {p : Prop} {v' : V} {ids : List Nat} (hb : lkb s.hp host = some bh) (hv : bh.es[i]? = some v) (hg : give (lkb s.hp) v = some (p, v', ids)) (hp : p) (hnd : ids.Nodup) (hh : host ∉ ids) :
    Wk s { s with hp := (host, ⟨bh.s, bh.es.set i v'⟩) :: rmbs ids (rmb host s.hp) } := by
  refine ⟨rfl, fun X a w _ ⟨D, φ, F, h⟩ => ?_⟩
  obtain ⟨F', h'⟩ := RelD.fold h (s := s.den) hb hv hg hp hnd hh
  refine ⟨D, φ, F', ?_⟩
  have e : ({ s with hp := (host, ⟨bh.s, bh.es.set i v'⟩) :: rmbs ids (rmb host s.hp) } : AS).den = { s.den with hp := fun k => if k ∈ ids then none else if k = host then some ⟨bh.s, bh.es.set i v'⟩ else s.den.hp k } := by
    simp only [AS.den]
    congr 1
    funext k
    simp only [lkb, lkb_rmbs, lkb_rmb, upd]
    by_cases e : k = host
    · subst e; simp [hh]
    · simp [e]
  rw [e]; exact h'

/-- Element i of block host alone leads to block id. -/
theorem Wk.fold1 {s : AS} (host i id : Nat) {bh b : Blk} {n : Nat} (hb : lkb s.hp host = some bh) (hi : lkb s.hp id = some b) (hv : bh.es[i]? = some (.sl id 0 n)) (hn : n = b.es.length) (hni : noIdss b.es = true) (hh : host ≠ id) :
    Wk s { s with hp := (host, ⟨bh.s, bh.es.set i (.own b.s b.es)⟩) :: rmbs [id] (rmb host s.hp) } :=
  Wk.fold host i (v' := .own b.s b.es) (ids := [id]) (p := 0 = 0 ∧ n = b.es.length) hb hv (by simp [give, hi, hni]) ⟨rfl, hn⟩ (by simp) (by simpa using hh)

theorem Wk.unfold1 {s : AS} (host i d : Nat) {bh : Blk} {sz : Nat} {es : List V} (hb : lkb s.hp host = some bh) (hv : bh.es[i]? = some (.own sz es)) (hf : s.fresh d = true) :
    Wk s { s with hp := (host, ⟨bh.s, bh.es.set i (.sl d 0 es.length)⟩) :: (d, ⟨sz, es⟩) :: rmb host s.hp } := by
  refine ⟨rfl, fun X a w hpin ⟨D, φ, F, h⟩ => ?_⟩
  obtain ⟨f1, f2⟩ := AS.fresh_ok hf
  obtain ⟨φ', F', h'⟩ := RelD.unfold (d := d) h (s := s.den) hb hv rfl rfl (fun k hk => by
    simp only [take, Nat.zero_add, Nat.lt_one_iff] at hk; subst hk
    exact ⟨f1, by rw [hpin]; exact f2⟩)
  refine ⟨D, φ', F', ?_⟩
  have e : ({ s with hp := (host, ⟨bh.s, bh.es.set i (.sl d 0 es.length)⟩) :: (d, ⟨sz, es⟩) :: rmb host s.hp } : AS).den =
      { s.den with hp := upd (updl (upd s.den.hp host (some ⟨bh.s, bh.es.set i .undef⟩)) (take d 0 (.own sz es)).2.1) host (some ⟨bh.s, bh.es.set i (take d 0 (.own sz es)).1⟩) } := by
    simp only [AS.den, take, updl, Nat.mul_zero, Nat.add_zero]
    congr 1
    funext k
    simp only [lkb, lkb_rmb, upd]
    by_cases e : k = host
    · simp [e]
    · simp [e]
  rw [e]; exact h'

/-! ### Elements of which less is told -/
omit [GInv] in
theorem CR_le {w : World} {D : Nat → Prop} {φ : Nat → Option Pl} {s : Nat} : ∀ (as bs : List V) (xs : List Value) (f : List Nat), leVs as bs → CR w D s as φ xs f → CR w D s bs φ xs f
  | [], [], xs, f, _, h => h
  | a :: as, b :: bs, xs, f, h, hx => by
    simp only [leVs] at h
    simp only [CR] at hx ⊢
    obtain ⟨x, rest, f1, f2, h1, h2, h3, h4, h5⟩ := hx
    exact ⟨x, rest, f1, f2, h1, h2, h3, leV_ok a b x f1 h.1 h4, CR_le as bs rest f2 h.2 h5⟩
  | [], b :: bs, xs, f, h, _ => by simp [leVs] at h
  | a :: as, [], xs, f, h, _ => by simp [leVs] at h

theorem Wk.le {s : AS} (host : Nat) {bh : Blk} (es' : List V) (hb : lkb s.hp host = some bh) (hle : leVs bh.es es') :
    Wk s { s with hp := (host, ⟨bh.s, es'⟩) :: rmb host s.hp } := by
  refine ⟨rfl, fun X a w _ ⟨D, φ, F, h⟩ => ⟨D, φ, F, ?_⟩⟩
  have e : ∀ k, lkb ((host, ⟨bh.s, es'⟩) :: rmb host s.hp) k = if k = host then some ⟨bh.s, es'⟩ else lkb s.hp k := fun k => by
    simp only [lkb, lkb_rmb, upd]
    by_cases e : k = host
    · subst e; simp
    · simp [e]
  refine { h with blks := fun k blk hk => ?_, nob := fun k hk => ?_ }
  · have hk' : lkb ((host, ⟨bh.s, es'⟩) :: rmb host s.hp) k = some blk := hk
    rw [e] at hk'
    split at hk'
    · rename_i ek; subst ek
      cases hk'
      rcases h.blks k bh hb with ⟨g1, g2, g3⟩ | ⟨p0, arr, ty, f', q1, q2, q3, q4, q5, q6⟩
      · refine .inl ⟨g1, ?_, g3⟩
        rw [g2] at hle
        cases es' with
        | nil => rfl
        | cons x l => simp [leVs] at hle
      · exact .inr ⟨p0, arr, ty, f', q1, q2, q3, q4, q5, CR_le _ _ _ _ hle q6⟩
    · exact h.blks k blk hk'
  · have hk' : lkb ((host, ⟨bh.s, es'⟩) :: rmb host s.hp) k = none := hk
    rw [e] at hk'
    split at hk'
    · cases hk'
    · exact h.nob k hk'
omit [GInv] in
theorem leVs_nils (n sz : Nat) : leVs (List.replicate n (.v (.slice none 0 0))) (List.replicate n (.own sz [])) := by
  induction n with
  | zero => simp [leVs]
  | succ n ih => simp only [List.replicate_succ, leVs]; exact ⟨by simp [leV], ih⟩
end Go.Abs
