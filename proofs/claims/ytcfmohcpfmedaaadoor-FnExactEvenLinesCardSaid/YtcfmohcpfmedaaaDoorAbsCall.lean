/- The abstract layer, part 9: contracts of functions; values that go out and come in. -/
import Derived.Test.YtcfmohcpfmedaaaDoorAbsOk5
set_option linter.unusedVariables false
set_option linter.unusedSimpArgs false
namespace Go.Abs
variable [GInv]

/-- The world has grown: what was there stays, but for the blocks of W. -/
structure Grow (w : World) (D : Nat → Prop) (W : List Nat) (w' : World) (D' : Nat → Prop) : Prop where
  os : w'.os = w.os
  tape : w'.tape = w.tape
  output : w'.output = w.output
  size : w.heap.size ≤ w'.heap.size
  old : ∀ b, b < w.heap.size → b ∉ W → w'.heap[b]? = w.heap[b]?
  Dup : ∀ b, D b → D' b
  Ddn : ∀ b, D' b → D b ∨ w.heap.size ≤ b
  Dlt : ∀ b, D' b → b < w'.heap.size

/-- A function with a body. -/
def callable (P : Program) (f : Nat) : Bool := (P.funcs[f]?).map (fun fn => fn.body.isSome && fn.name != "runtime.NumGoroutine") == some true

/-- The contract of a function that writes nothing that was there: with the arguments 'args' it returns 'res'. -/
def PCall (P : Program) (f : Nat) (args : List V) (res : V) : Prop :=
  callable P f = true ∧ ∀ (w : World) (D : Nat → Prop) (xs : List Value), (∀ b, D b → b < w.heap.size) → GInv.holds w D → CVs w D args (fun _ => none) xs [] →
    Calls P f xs.toArray w fun e w' => ∃ y D' fp, e = .returned y ∧ Grow w D [] w' D' ∧ CV w' D' res (fun _ => none) y fp ∧ fp.Nodup ∧ ∀ b, b ∈ fp → w.heap.size ≤ b ∧ b < w'.heap.size ∧ ¬ D' b

/-! ### Values that are handed to a function that only reads -/

/-- What a value reads as, for a callee that writes nothing. -/
def borrow (hp : Nat → Option Blk) : Nat → V → V
  | 0, _ => .undef
  | k + 1, .ref id i j => match hp id with
    | some b => .rp b.s (b.es.map (borrow hp k)) i j
    | none => .undef
  | k + 1, .sl id i n => match hp id with
    | some b => if i + n ≤ b.es.length then .ro b.s (((b.es.drop i).take n).map (borrow hp k)) else .undef
    | none => .undef
  | k + 1, .own s es => .ro s (es.map (borrow hp k))
  | k + 1, .agg cs => .agg (cs.map (borrow hp k))
  | k + 1, .tup cs => .tup (cs.map (borrow hp k))
  | k + 1, .clo f cs => .clo f (cs.map (borrow hp k))
  | _ + 1, .rp s es i j => .rp s es i j
  | _ + 1, .ro s es => .ro s es
  | _ + 1, .v x => .v x
  | _ + 1, .undef => .undef

omit [GInv] in
theorem noIdss_map {f : V → V} (h : ∀ v, noIds (f v) = true) : ∀ es : List V, noIdss (es.map f) = true
  | [] => rfl
  | e :: es => by simp [noIdss, h e, noIdss_map h es]

omit [GInv] in
theorem borrow_noIds (hp : Nat → Option Blk) : ∀ (k : Nat) (v : V), noIds (borrow hp k v) = true
  | 0, v => rfl
  | k + 1, .ref id i j => by simp only [borrow]; split <;> rfl
  | k + 1, .sl id i n => by simp only [borrow]; split <;> first | rfl | (split <;> rfl)
  | k + 1, .own s es => by simp [borrow, noIds]
  | k + 1, .agg cs => by simp only [borrow, noIds]; exact noIdss_map (borrow_noIds hp k) cs
  | k + 1, .tup cs => by simp only [borrow, noIds]; exact noIdss_map (borrow_noIds hp k) cs
  | k + 1, .clo f cs => by simp only [borrow, noIds]; exact noIdss_map (borrow_noIds hp k) cs
  | k + 1, .rp s es i j => by simp [borrow, noIds]
  | k + 1, .ro s es => by simp [borrow, noIds]
  | k + 1, .v x => by simp [borrow, noIds]
  | k + 1, .undef => by simp [borrow, noIds]

section
variable {w : World} {D : Nat → Prop} {φ : Nat → Option Pl} {F : Nat → List Nat} {hp : Nat → Option Blk}

omit [GInv] in
theorem CVs_map {D' : Nat → Prop} {ψ : Nat → Option Pl} {f : V → V} (hf : ∀ v x fp, (∀ b, b ∈ fp → D' b) → CV w D v φ x fp → CV w D' (f v) ψ x []) :
    ∀ (cs : List V) (xs : List Value) (fp : List Nat), (∀ b, b ∈ fp → D' b) → CVs w D cs φ xs fp → CVs w D' (cs.map f) ψ xs []
  | [], xs, fp, _, h => by simp only [CVs] at h; obtain ⟨rfl, _⟩ := h; exact CVs_nil
  | c :: cs, xs, fp, hfp, h => by
    simp only [CVs] at h; obtain ⟨x, xs', f1, f2, rfl, rfl, h1, h2⟩ := h
    simp only [List.map_cons, CVs]
    exact ⟨x, xs', [], [], rfl, rfl, hf c x f1 (fun b hb => hfp b (List.mem_append_left _ hb)) h1, CVs_map hf cs xs' f2 (fun b hb => hfp b (List.mem_append_right _ hb)) h2⟩

omit [GInv] in
theorem CR_map {D' : Nat → Prop} {ψ : Nat → Option Pl} {f : V → V} {s : Nat} (hf : ∀ v x fp, (∀ b, b ∈ fp → D' b) → CV w D v φ x fp → CV w D' (f v) ψ x []) :
    ∀ (cs : List V) (xs : List Value) (fp : List Nat), (∀ b, b ∈ fp → D' b) → CR w D s cs φ xs fp → CR w D' s (cs.map f) ψ xs []
  | [], xs, fp, _, h => by simp [CR]
  | c :: cs, xs, fp, hfp, h => by
    simp only [CR] at h; obtain ⟨x, rest, f1, f2, rfl, hs, rfl, h1, h2⟩ := h
    simp only [List.map_cons, CR]
    exact ⟨x, rest, [], [], rfl, hs, rfl, hf c x f1 (fun b hb => hfp b (List.mem_append_left _ hb)) h1, CR_map hf cs rest f2 (fun b hb => hfp b (List.mem_append_right _ hb)) h2⟩

omit [GInv] in
/-- A value of the state, read where all that the state owns is read-only. -/
theorem borrow_ok {D' : Nat → Prop} (hD : ∀ b, D b → D' b) (hF : ∀ id b, b ∈ F id → D' b) (hb : ∀ id blk, hp id = some blk → BlkOk w D φ id blk (F id)) :
    ∀ (k : Nat) (ψ : Nat → Option Pl), (ψ = φ ∨ ψ = fun _ => none) → ∀ (v : V) (x : Value) (fp : List Nat), (∀ b, b ∈ fp → D' b) → CV w D v ψ x fp → CV w D' (borrow hp k v) (fun _ => none) x []
  | 0, ψ, hψ, v, x, fp, hfp, h => by simp [borrow, CV]
  | k + 1, ψ, hψ, v, x, fp, hfp, h => by
    have ih : ∀ ψ, (ψ = φ ∨ ψ = fun _ => none) → ∀ v x fp, (∀ b, b ∈ fp → D' b) → CV w D v ψ x fp → CV w D' (borrow hp k v) (fun _ => none) x [] := fun ψ hψ => borrow_ok hD hF hb k ψ hψ
    have same : noOwn v = true → CV w D v ψ x fp → noIds v = true → CV w D' v (fun _ => none) x [] := fun hn h hi => by
      have hf := CV_noOwn v ψ x fp hn h
      subst hf
      exact CV_mono hD _ _ _ _ _ (fun _ _ => rfl) (fun id hm => by rw [ment_noIds id v hi] at hm; cases hm) h
    cases v with
    | undef => simp [borrow, CV]
    | v y => simp only [borrow]; exact same rfl h rfl
    | rp s es i j => simp only [borrow]; exact same rfl h rfl
    | ro s es => simp only [borrow]; exact same rfl h rfl
    | ref id i j =>
      simp only [CV] at h
      obtain ⟨_, p, hp0, rfl⟩ := h
      have hψ' : ψ = φ := hψ.resolve_right (fun e => by rw [e] at hp0; cases hp0)
      subst hψ'
      simp only [borrow]
      split
      · rename_i blk hbl
        rcases hb id blk hbl with ⟨q, _, _⟩ | ⟨p1, arr, ty, f', q1, q2, q3, q4, q5, q6⟩
        · rw [hp0] at q; cases q
        · rw [hp0] at q1; cases q1
          simp only [CV]
          refine ⟨trivial, p.b, p.o, arr, by rw [q2], hF id p.b (by rw [q5]; exact List.mem_cons_self), blk?_of_heap q4, ?_, noIdss_map (borrow_noIds hp k) _⟩
          exact CR_map (ih ψ (.inl rfl)) _ _ f' (fun b hb' => hF id b (by rw [q5]; exact List.mem_cons_of_mem _ hb')) q6
      · simp [CV]
    | sl id i n =>
      simp only [CV] at h
      simp only [borrow]
      split
      · rename_i blk hbl
        split
        · rename_i hle
          have hlen : (((blk.es.drop i).take n).map (borrow hp k)).length = n := by rw [List.length_map, List.length_take, List.length_drop]; omega
          simp only [CV]
          refine ⟨trivial, ?_⟩
          obtain ⟨_, ⟨hφ, rfl, rfl, rfl⟩ | ⟨p0, o', cap, hp0, rfl, hnc, hcm, hcap⟩⟩ := h
          · exact .inl ⟨by simp, none, 0, rfl, Nat.zero_le _⟩
          · by_cases hn : n = 0
            · subst hn
              exact .inl ⟨by simp, _, cap, rfl, hcm⟩
            · have hψ' : ψ = φ := hψ.resolve_right (fun e => by rw [e] at hp0; cases hp0)
              subst hψ'
              rcases hb id blk hbl with ⟨q, _, _⟩ | ⟨p1, arr, ty, f', q1, q2, q3, q4, q5, q6⟩
              · rw [hp0] at q; cases q
              · rw [hp0] at q1; cases q1
                obtain ⟨ho, _⟩ := hcap.resolve_left (by omega)
                refine .inr ⟨p0.b, o', cap, arr, by rw [hlen], by rw [hlen]; exact hnc, hcm, hF id p0.b (by rw [q5]; exact List.mem_cons_self), blk?_of_heap q4, ?_, noIdss_map (borrow_noIds hp k) _⟩
                have hm := CR_map (D' := D') (ψ := fun _ => none) (f := borrow hp k) (ih ψ (.inl rfl)) _ _ f' (fun b hb' => hF id b (by rw [q5]; exact List.mem_cons_of_mem _ hb')) q6
                have h3 := CR_take n (CR_drop i hm)
                rw [List.drop_drop] at h3
                rw [List.map_take, List.map_drop, ho, q2]
                exact h3
        · simp [CV]
      · simp [CV]
    | own s es =>
      simp only [CV] at h
      simp only [borrow, CV]
      refine ⟨trivial, ?_⟩
      rcases h with ⟨rfl, rfl, rfl⟩ | ⟨b, o, cap, arr, ty, fp', rfl, h2, h3, h4, h5, rfl, h7, h8⟩
      · exact .inl ⟨rfl, none, 0, rfl, Nat.zero_le _⟩
      · refine .inr ⟨b, o, cap, arr, by simp, by simpa using h2, h3, hfp b List.mem_cons_self, blk?_of_heap h5, ?_, noIdss_map (borrow_noIds hp k) _⟩
        exact CR_map (ih _ (.inr rfl)) _ _ fp' (fun b hb' => hfp b (List.mem_cons_of_mem _ hb')) h7
    | agg cs =>
      simp only [CV] at h
      obtain ⟨xs, rfl, h⟩ := h
      simp only [borrow, CV]
      exact ⟨xs, rfl, CVs_map (ih ψ hψ) cs _ fp hfp h⟩
    | tup cs =>
      simp only [CV] at h
      obtain ⟨xs, rfl, h⟩ := h
      simp only [borrow, CV]
      exact ⟨xs, rfl, CVs_map (ih ψ hψ) cs _ fp hfp h⟩
    | clo f cs =>
      simp only [CV] at h
      obtain ⟨xs, rfl, h⟩ := h
      simp only [borrow, CV]
      exact ⟨xs, rfl, CVs_map (ih ψ hψ) cs _ fp hfp h⟩
end

/-! ### Values that go out: blocks become fresh memory of the value's own -/

mutual
def give (hp : Nat → Option Blk) : V → Option (Prop × V × List Nat)
  | .sl id i n => match hp id with
    | some b => if noIdss b.es then some (i = 0 ∧ n = b.es.length, .own b.s b.es, [id]) else none
    | none => none
  | .agg cs => match gives hp cs with
    | some (p, vs, ids) => some (p, .agg vs, ids)
    | none => none
  | .tup cs => match gives hp cs with
    | some (p, vs, ids) => some (p, .tup vs, ids)
    | none => none
  | .v x => some (True, .v x, [])
  | .ro s es => some (True, .ro s es, [])
  | .rp s es i j => some (True, .rp s es i j, [])
  | _ => none
def gives (hp : Nat → Option Blk) : List V → Option (Prop × List V × List Nat)
  | [] => some (True, [], [])
  | c :: cs => match give hp c, gives hp cs with
    | some (p, v, ids), some (q, vs, ids') => some (p ∧ q, v :: vs, ids ++ ids')
    | _, _ => none
end

section
variable {w : World} {D : Nat → Prop} {φ : Nat → Option Pl} {F : Nat → List Nat} {hp : Nat → Option Blk}

omit [GInv] in
mutual
theorem give_ok (hb : ∀ id blk, hp id = some blk → BlkOk w D φ id blk (F id)) : ∀ (v : V) (x : Value) (p : Prop) (v' : V) (ids : List Nat), give hp v = some (p, v', ids) → p → CV w D v φ x [] → CV w D v' (fun _ => none) x (ids.flatMap F)
  | .undef, x, p, v', ids, hg, hp', h => by simp [give] at hg
  | .ref _ _ _, x, p, v', ids, hg, hp', h => by simp [give] at hg
  | .own _ _, x, p, v', ids, hg, hp', h => by simp [give] at hg
  | .clo _ _, x, p, v', ids, hg, hp', h => by simp [give] at hg
  | .v y, x, p, v', ids, hg, hp', h => by
    simp only [give, Option.some.injEq, Prod.mk.injEq] at hg; obtain ⟨_, rfl, rfl⟩ := hg
    simpa [CV] using h
  | .ro s es, x, p, v', ids, hg, hp', h => by
    simp only [give, Option.some.injEq, Prod.mk.injEq] at hg; obtain ⟨_, rfl, rfl⟩ := hg
    simp only [CV] at h ⊢
    exact ⟨rfl, h.2⟩
  | .rp s es i j, x, p, v', ids, hg, hp', h => by
    simp only [give, Option.some.injEq, Prod.mk.injEq] at hg; obtain ⟨_, rfl, rfl⟩ := hg
    simp only [CV] at h ⊢
    exact ⟨rfl, h.2⟩
  | .agg cs, x, p, v', ids, hg, hp', h => by
    simp only [give] at hg
    split at hg <;> simp only [Option.some.injEq, Prod.mk.injEq, reduceCtorEq] at hg
    rename_i q vs ids' e
    obtain ⟨rfl, rfl, rfl⟩ := hg
    simp only [CV] at h ⊢
    obtain ⟨xs, rfl, h⟩ := h
    exact ⟨xs, rfl, gives_ok hb cs _ _ _ _ e hp' h⟩
  | .tup cs, x, p, v', ids, hg, hp', h => by
    simp only [give] at hg
    split at hg <;> simp only [Option.some.injEq, Prod.mk.injEq, reduceCtorEq] at hg
    rename_i q vs ids' e
    obtain ⟨rfl, rfl, rfl⟩ := hg
    simp only [CV] at h ⊢
    obtain ⟨xs, rfl, h⟩ := h
    exact ⟨xs, rfl, gives_ok hb cs _ _ _ _ e hp' h⟩
  | .sl id i n, x, p, v', ids, hg, hp', h => by
    simp only [give] at hg
    split at hg
    · rename_i blk hbl
      split at hg
      · rename_i hni
        simp only [Option.some.injEq, Prod.mk.injEq] at hg
        obtain ⟨rfl, rfl, rfl⟩ := hg
        obtain ⟨rfl, rfl⟩ := hp'
        simp only [CV, List.flatMap_cons, List.flatMap_nil, List.append_nil] at h ⊢
        obtain ⟨_, ⟨hφ, _, hn, rfl⟩ | ⟨p0, o', cap, hp0, rfl, hnc, hcm, hcap⟩⟩ := h
        · rcases hb id blk hbl with ⟨_, q, q'⟩ | ⟨p1, arr, ty, f', q1, q2, q3, q4, q5, q6⟩
          · exact .inl ⟨q, rfl, q'⟩
          · rw [hφ] at q1; cases q1
        · rcases hb id blk hbl with ⟨q, _, _⟩ | ⟨p1, arr, ty, f', q1, q2, q3, q4, q5, q6⟩
          · rw [hp0] at q; cases q
          · rw [hp0] at q1; cases q1
            have q6' := CR_mono (w' := w) (D' := D) (fun _ hb => hb) _ _ _ (fun _ => none) _ _ (fun _ _ => rfl) (fun id hm => by rw [ments_noIds id _ hni] at hm; cases hm) q6
            refine .inr ⟨p0.b, o', cap, arr, ty, f', rfl, hnc, hcm, ?_, q4, q5, ?_, hni⟩
            · rcases hcap with hc | ⟨ho, hz⟩
              · exact .inl hc
              · exact .inr (by rw [ho, ← q3, ← q2]; simpa using hz)
            · rcases hcap with hc | ⟨ho, hz⟩
              · have : blk.es = [] := List.eq_nil_of_length_eq_zero (by omega)
                rw [this] at q6' ⊢
                simpa [CR] using q6'
              · rw [ho]; simpa using q6'
      · cases hg
    · cases hg
theorem gives_ok (hb : ∀ id blk, hp id = some blk → BlkOk w D φ id blk (F id)) : ∀ (cs : List V) (xs : List Value) (p : Prop) (vs : List V) (ids : List Nat), gives hp cs = some (p, vs, ids) → p → CVs w D cs φ xs [] → CVs w D vs (fun _ => none) xs (ids.flatMap F)
  | [], xs, p, vs, ids, hg, hp', h => by
    simp only [gives, Option.some.injEq, Prod.mk.injEq] at hg; obtain ⟨_, rfl, rfl⟩ := hg
    simp only [CVs] at h ⊢
    exact ⟨h.1, rfl⟩
  | c :: cs, xs, p, vs, ids, hg, hp', h => by
    simp only [gives] at hg
    split at hg <;> simp only [Option.some.injEq, Prod.mk.injEq, reduceCtorEq] at hg
    rename_i p1 v ids1 q vs' ids' e1 e2
    obtain ⟨rfl, rfl, rfl⟩ := hg
    simp only [CVs] at h
    obtain ⟨x, xs', f1, f2, rfl, hf, h1, h2⟩ := h
    have hf := List.append_eq_nil_iff.1 hf.symm
    obtain ⟨rfl, rfl⟩ := hf
    simp only [CVs, List.flatMap_append]
    exact ⟨x, xs', _, _, rfl, rfl, give_ok hb c _ _ _ _ e1 hp'.1 h1, gives_ok hb cs _ _ _ _ e2 hp'.2 h2⟩
end
end

theorem flatMap_nodup {X : Ctx} {s : St} {a : Act} {w : World} {D : Nat → Prop} {φ : Nat → Option Pl} {F : Nat → List Nat} (h : RelD X s a w D φ F []) : ∀ (ids : List Nat), ids.Nodup → (ids.flatMap F).Nodup
  | [], _ => by simp
  | i :: ids, hn => by
    rw [List.nodup_cons] at hn
    rw [List.flatMap_cons, List.nodup_append]
    refine ⟨h.nodup i, flatMap_nodup h ids hn.2, fun b hb c hc e => ?_⟩
    subst e
    obtain ⟨j, hj, hbj⟩ := List.mem_flatMap.1 hc
    exact h.sep i j (fun e => hn.1 (e ▸ hj)) b hb hbj
end Go.Abs
