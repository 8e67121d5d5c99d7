/- The abstract layer, part 14: a statement whose order is open, walked in the order of its text. -/
import Derived.Test.YtcfmohcpfmedaaaDoorAbsDraw
set_option linter.unusedVariables false
set_option linter.unusedSimpArgs false
namespace Go.Abs
variable [GInv]

/-- An operation with what it does, its place, the blocks that it touches. -/
structure It where
  c : CO
  tr : Tr
  i : Nat
  T : List Nat

def It.ap (e : It) (s : St) : St := e.tr.ap e.c.d s

def fin : St → List It → St
  | s, [] => s
  | s, e :: es => fin (e.ap s) es

def steps (P : Program) : St → List It → Prop
  | _, [] => True
  | s, e :: es => ex P e.c s e.tr ∧ (∀ id ∈ tch e.c s, id ∈ e.T) ∧ steps P (e.ap s) es

def offSlots (a b : It) : Bool := (match a.c.d with | some d => !(rdS b.c).contains d | none => true)

/-- Neither writes what the other reads or writes. -/
def ind (a b : It) : Bool :=
  offSlots a b && offSlots b a && (match a.c.d, b.c.d with | some d, some d' => d != d' | _, _ => true) &&
  (a.tr.hp.all fun p => !b.T.contains p.1 && b.tr.hp.all fun q => q.1 != p.1) && (b.tr.hp.all fun q => !a.T.contains q.1)

omit [GInv] in
theorem ind_spec {a b : It} (h : ind a b = true) : (∀ d, a.c.d = some d → d ∉ rdS b.c) ∧ (∀ d, b.c.d = some d → d ∉ rdS a.c) ∧ (∀ d, a.c.d = some d → b.c.d ≠ some d) ∧
    (∀ p ∈ a.tr.hp, p.1 ∉ b.T ∧ p.1 ∉ b.tr.hp.map (·.1)) ∧ (∀ q ∈ b.tr.hp, q.1 ∉ a.T) := by
  simp only [ind, Bool.and_eq_true, List.all_eq_true, Bool.not_eq_true', bne_iff_ne, ne_eq] at h
  obtain ⟨⟨⟨⟨h1, h2⟩, h3⟩, h4⟩, h5⟩ := h
  refine ⟨fun d hd => ?_, fun d hd => ?_, fun d hd e => ?_, fun p hp => ⟨?_, fun hm => ?_⟩, fun q hq => ?_⟩
  · simp only [offSlots, hd, Bool.not_eq_true'] at h1; simpa using h1
  · simp only [offSlots, hd, Bool.not_eq_true'] at h2; simpa using h2
  · rw [hd, e] at h3; simp at h3
  · simpa using (h4 p hp).1
  · obtain ⟨q, hq, e⟩ := List.mem_map.1 hm
    exact (h4 p hp).2 q hq e
  · simpa using h5 q hq

section
variable {P : Program}

omit [GInv] in
theorem updo_comm {f : Nat → Option Blk} {l l' : List (Nat × Option Blk)} (h : ∀ p ∈ l, p.1 ∉ l'.map (·.1)) : updo (updo f l) l' = updo (updo f l') l := by
  have key : ∀ (l : List (Nat × Option Blk)) (f g : Nat → Option Blk) (i : Nat), i ∈ l.map (·.1) → updo f l i = updo g l i := by
    intro l
    induction l with
    | nil => intro f g i hi; simp at hi
    | cons p l ih =>
      intro f g i hi
      obtain ⟨j, b⟩ := p
      simp only [updo]
      by_cases hm : i ∈ l.map (·.1)
      · exact ih _ _ i hm
      · have : i = j := by simp only [List.map_cons, List.mem_cons] at hi; exact hi.resolve_right hm
        subst this
        rw [updo_other hm, updo_other hm]; simp
  funext i
  by_cases h1 : i ∈ l.map (·.1)
  · have h2 : i ∉ l'.map (·.1) := by
      obtain ⟨p, hp, rfl⟩ := List.mem_map.1 h1
      exact h p hp
    rw [updo_other h2]
    exact key l _ _ i h1
  · rw [updo_other h1]
    by_cases h2 : i ∈ l'.map (·.1)
    · exact key l' _ _ i h2
    · rw [updo_other h2, updo_other h2, updo_other h1]

theorem swap {x e : It} {s : St} (hx : ex P x.c s x.tr) (hxT : ∀ id ∈ tch x.c s, id ∈ x.T) (he : ex P e.c (x.ap s) e.tr) (heT : ∀ id ∈ tch e.c (x.ap s), id ∈ e.T) (hi : ind x e = true) :
    ex P e.c s e.tr ∧ (∀ id ∈ tch e.c s, id ∈ e.T) ∧ ex P x.c (e.ap s) x.tr ∧ (∀ id ∈ tch x.c (e.ap s), id ∈ x.T) ∧ e.ap (x.ap s) = x.ap (e.ap s) := by
  obtain ⟨i1, i2, i3, i4, i5⟩ := ind_spec hi
  have sl1 : ∀ t ∈ rdS e.c, s.sl t = (x.ap s).sl t := by
    intro t ht
    cases hd : x.c.d with
    | none => simp only [It.ap, Tr.ap, hd]
    | some d =>
      have : t ≠ d := fun e' => i1 d hd (e' ▸ ht)
      simp only [It.ap, Tr.ap, hd]; rw [upd_ne _ _ this]
  have sl2 : ∀ t ∈ rdS x.c, (e.ap s).sl t = s.sl t := by
    intro t ht
    cases hd : e.c.d with
    | none => simp only [It.ap, Tr.ap, hd]
    | some d =>
      have : t ≠ d := fun e' => i2 d hd (e' ▸ ht)
      simp only [It.ap, Tr.ap, hd]; rw [upd_ne _ _ this]
  have tchEq : ∀ {c : CO} {s s2 : St}, (∀ t ∈ rdS c, s2.sl t = s.sl t) → tch c s2 = tch c s := by
    intro c s s2 h
    have hev := ev_agree (xs := xsO c.o) (s := s) (s2 := s2) fun t ht => h t (List.mem_append_right _ ht)
    simp only [tch]
    have key : ∀ xs : List Abs.X, (∀ x ∈ xs, s2.ev x = s.ev x) → xs.flatMap (fun x => idsV (s2.ev x)) = xs.flatMap (fun x => idsV (s.ev x)) := by
      intro xs
      induction xs with
      | nil => intro _; rfl
      | cons y ys ih => intro h; simp only [List.flatMap_cons]; rw [h y (by simp), ih fun z hz => h z (by simp [hz])]
    exact key _ hev
  have t1 : tch e.c s = tch e.c (x.ap s) := tchEq sl1
  have t2 : tch x.c (e.ap s) = tch x.c s := tchEq sl2
  refine ⟨ex_agree he sl1 fun id hid => ?_, fun id hid => heT id (by rw [← t1]; exact hid), ex_agree hx sl2 fun id hid => ?_, fun id hid => hxT id (by rw [← t2]; exact hid), ?_⟩
  · show s.hp id = updo s.hp x.tr.hp id
    rw [updo_other]
    intro hm
    obtain ⟨p, hp, rfl⟩ := List.mem_map.1 hm
    exact (i4 p hp).1 (heT _ hid)
  · show updo s.hp e.tr.hp id = s.hp id
    rw [updo_other]
    intro hm
    obtain ⟨p, hp, rfl⟩ := List.mem_map.1 hm
    exact i5 p hp (hxT _ hid)
  · simp only [It.ap, Tr.ap]
    rw [updo_comm fun p hp => (i4 p hp).2]
    congr 1
    cases hd : x.c.d with
    | none => rfl
    | some d =>
      cases hd' : e.c.d with
      | none => rfl
      | some d' =>
        have hne : d ≠ d' := fun e' => i3 d hd (by rw [hd', e'])
        funext i
        simp only [upd]
        split <;> split <;> simp_all

/-- An operation that is apart from all ahead of it may come first. -/
theorem front {e : It} : ∀ (l1 l2 : List It) (s : St), steps P s (l1 ++ e :: l2) → (∀ x ∈ l1, ind x e = true) → steps P s (e :: (l1 ++ l2)) ∧ fin s (l1 ++ e :: l2) = fin s (e :: (l1 ++ l2))
  | [], l2, s, h, _ => ⟨h, rfl⟩
  | x :: l1, l2, s, h, hi => by
    simp only [List.cons_append, steps] at h
    obtain ⟨h1, h2, h3⟩ := h
    obtain ⟨g1, g2⟩ := front l1 l2 (x.ap s) h3 (fun y hy => hi y (by simp [hy]))
    simp only [steps] at g1
    obtain ⟨k1, k2, k3⟩ := g1
    obtain ⟨m1, m2, m3, m4, m5⟩ := swap h1 h2 k1 k2 (hi x (by simp))
    refine ⟨?_, ?_⟩
    · simp only [steps, List.cons_append]
      exact ⟨m1, m2, m3, m4, by rw [← m5]; exact k3⟩
    · simp only [List.cons_append, fin]
      rw [g2]
      simp only [fin]
      rw [m5]
end

/-- Each pair of operations is ordered, or apart. 'pl': what stands ahead of each. -/
def indep (pl : List (List Nat)) (its : List It) : Bool :=
  its.all fun a => its.all fun b => if a.i < b.i then a.tr.free b.tr.news && ((pl.getD b.i []).contains a.i || (ind a b && b.tr.free a.tr.news)) else true

section
variable {P : Program} {X : Ctx} {Q : Exit → Act → World → Prop}

/-- One operation of such a statement. -/
theorem ex_ok {ops : Array Oper} {o : Oper} {i : Nat} {c : CO} {tr : Tr} {s : St} {a : Act} {w : World} {K' : Act → World → Prop} (ho : ops[i]? = some o) (hc : cOper P ops X.n o = some c) (h : Rel X s a w) (hex : ex P c s tr)
    (hfr : ∀ d ∈ tr.news, Fresh s d ∧ d ∉ X.pin) (hK : ∀ a' w', Rel X (tr.ap c.d s) a' w' → K' a' w') : wpOp P ops Q i K' a w := by
  obtain ⟨hq, hdst, hdn, hst, hns, hg⟩ := cOper_eq hc
  have callRule : ∀ (f : Nat) (vs : List V) (d : Nat) (args : Array Value), callX P f vs s d tr → o.dst = some d → (∀ D φ F, RelD X s a w D φ F [] → CVs w D vs φ args.toList []) →
      (callable P f = true → (execOp a.eval o).run P w = .ok (.enter f args) w) → o.wp P a w K' Q := by
    intro f vs d args hcall hd hv hr
    obtain ⟨res, hP, hres, hro, rfl, _, _⟩ := hcall
    refine wp_of_call (hr hP.1) ?_
    have hfr' : ∀ i, i < (take d 0 res).2.2 → Fresh s (d + 1000 * i) ∧ d + 1000 * i ∉ X.pin := fun i hi => hfr _ (List.mem_map.2 ⟨i, List.mem_range.2 hi, rfl⟩)
    have := call_ok (k := 6) (d := d) hP h hv (hdn d hd) hres hro hfr'
    rw [Array.toArray_toList] at this
    refine this.mono ?_
    rintro e w' ⟨y, rfl, hrel⟩
    rw [hd]
    refine ⟨y, rfl, hK _ _ ?_⟩
    rw [hdst, hd, trTake_ap]; exact hrel
  have run : exec P c s tr → o.wp P a w K' Q := by
    intro hex
    unfold exec at hex
    split at hex
    · rename_i f xs hco
      rw [hco] at hq
      obtain ⟨d, hd, hcall⟩ := hex
      rw [hdst] at hd
      obtain ⟨cl, hop⟩ := cOp_isCall hq rfl
      rw [hop] at hq
      rcases cOp_call hq rfl with ⟨f', xs', e, hcal, hx⟩ | ⟨t, xs', e, hcal, hx⟩
      · cases e
        refine callRule f _ d (cl.args.map a.eval) hcall hd (fun D φ F hr => by simpa using cXs_ok hr hx) fun hcb => ?_
        simp [execOp, hop, resolve, hcal, Act.eval, Deferred.ofValue, invoke, callFunc_run hcb]
      · cases e
    · rename_i x xs hco
      rw [hco] at hq
      obtain ⟨d, hd, hcall⟩ := hex
      rw [hdst] at hd
      obtain ⟨cl, hop⟩ := cOp_isCall hq rfl
      rw [hop] at hq
      rcases cOp_call hq rfl with ⟨f', xs', e, hcal, hx⟩ | ⟨t, xs', e, hcal, hx⟩
      · cases e
      · cases e
        split at hcall
        · rename_i f caps hclo
          obtain ⟨D, φ, F, hrel⟩ := h
          have hslot := hrel.slots t
          have hcl : s.sl t = .clo f caps := hclo
          rw [hcl] at hslot
          simp only [CV] at hslot
          obtain ⟨ys, hys, _⟩ := hslot
          refine callRule f _ d (cl.args.map a.eval ++ ys) hcall hd (fun D φ F hr => ?_) fun hcb => ?_
          · rw [Array.toList_append]
            have h2 := hr.slots t
            rw [hcl, hys] at h2
            simp only [CV] at h2
            obtain ⟨zs, hz, hcv⟩ := h2
            cases hz
            have := CVs_append (cXs_ok hr hx) hcv
            simpa using this
          · have he : a.eval (.tmp t) = .func (.func f) #[] ys := hys
            simp [execOp, hop, resolve, hcal, he, Deferred.ofValue, invoke, callFunc_run hcb]
        · exact hcall.elim
    · obtain ⟨p, δ, he, hp, rfl⟩ := hex
      obtain ⟨D, φ, F, hrel⟩ := h
      have hruns : Runs P o X a w (δ.app o.dst s) := by
        refine eff_ok hq hrel hdn hst hns (p := p) (by rw [← hdst]; exact he) hp fun hn d hd => hfr d ?_
        rw [hdst, hd]
        cases hnew : δ.new with
        | none => rw [hnew] at hn; cases hn
        | some b => simp [trOf, hnew]
      exact wp_of_runs hruns fun a' w' hr => hK a' w' (by rw [trOf_ap, hdst]; exact hr)
  unfold wpOp
  rw [ho]
  simp only
  unfold ex at hex
  rcases hg with ⟨hg1, hg2⟩ | ⟨j, b, t, hg1, hg2, hj⟩
  · rw [hg2] at hex
    rw [if_pos (by simp [Region.wanted, hg1])]
    exact .inl (run hex)
  · rw [hg2] at hex
    have h' := h
    obtain ⟨D, φ, F, hrel⟩ := h'
    have hslot := hrel.slots t
    rcases hex with ⟨v, hv, hex⟩ | ⟨hv, rfl⟩
    rotate_left
    · rw [hv] at hslot
      have hy := yielded_undef (ops := ops) hj (CV_tup0 hslot)
      rw [if_neg (by simp [Region.wanted, hg1, hy])]
      refine hK _ _ ⟨D, φ, F, ?_⟩
      rw [hdst]
      cases hd : o.dst with
      | none => exact hrel
      | some d => exact hrel.put d (hdn d hd) (.tup []) undef CV_tup0_mk
    rw [hv] at hslot
    have hy := yielded_of (ops := ops) hj (CV_v hslot)
    rcases hex with ⟨e, hex⟩ | ⟨e, rfl⟩
    · rw [if_pos (by simp [Region.wanted, hg1, hy, e])]
      exact .inl (run hex)
    · rw [if_neg (by simp [Region.wanted, hg1, hy, e])]
      refine hK _ _ ⟨D, φ, F, ?_⟩
      rw [hdst]
      cases hd : o.dst with
      | none => exact hrel
      | some d => exact hrel.put d (hdn d hd) (.tup []) undef CV_tup0_mk

def rem (all : List It) (listed : Array Bool) : List It := all.filter fun e => !listed.getD e.i true

/-- The conditions on the region that the compact form's maker checks: edges lead back; 'pl' is closed. -/
def plOk (ops : Array Oper) (pl : List (List Nat)) : Bool :=
  (List.range ops.size).all fun i => match ops[i]? with
    | some o => o.after.all (fun e => !Region.binds .any e || decide (e.on < i)) &&
        (pl.getD i []).all fun j => o.after.any fun e => Region.binds .any e && (e.on == j || (pl.getD e.on []).contains j)
    | none => true

omit [GInv] in
theorem mem_ready {ops : Array Oper} {listed : Array Bool} {i : Nat} : i ∈ Region.ready .any ops listed ↔ i < ops.size ∧ listed.getD i true = false ∧ ∃ o, ops[i]? = some o ∧ ∀ e ∈ o.after.toList, Region.binds .any e = true → listed.getD e.on false = true := by
  unfold Region.ready
  rw [List.mem_filter, List.mem_range]
  constructor
  · rintro ⟨h1, h2⟩
    simp only [Bool.and_eq_true, Bool.not_eq_true'] at h2
    refine ⟨h1, h2.1, ?_⟩
    cases ho : ops[i]? with
    | none => rw [ho] at h2; simp at h2
    | some o =>
      rw [ho] at h2
      refine ⟨o, rfl, fun e he hb => ?_⟩
      have h3 := h2.2
      simp only [Option.map_some, Option.getD_some, Array.all_eq_true', Bool.or_eq_true, Bool.not_eq_true'] at h3
      have := h3 e (by simpa using he)
      rw [hb] at this
      simpa using this
  · rintro ⟨h1, h2, o, ho, h3⟩
    refine ⟨h1, ?_⟩
    rw [ho]
    simp only [Bool.and_eq_true, Bool.not_eq_true', Option.map_some, Option.getD_some, Array.all_eq_true', Bool.or_eq_true]
    refine ⟨h2, fun e he => ?_⟩
    cases hb : Region.binds .any e with
    | false => exact .inl rfl
    | true => exact .inr (h3 e (by simpa using he) hb)

omit [GInv] in
theorem getD_set (listed : Array Bool) (i j : Nat) (b d : Bool) (hi : i < listed.size) : (listed.setIfInBounds i b).getD j d = if j = i then b else listed.getD j d := by
  simp only [Array.getD_eq_getD_getElem?, Array.getElem?_setIfInBounds]
  by_cases e : i = j
  · subst e; simp [hi]
  · simp [e, Ne.symm e]

structure Plan (P : Program) (X : Ctx) (ops : Array Oper) (pl : List (List Nat)) (all : List It) : Prop where
  len : all.length = ops.size
  at_ : ∀ (k : Nat) (e : It), all[k]? = some e → e.i = k ∧ ∃ o, ops[k]? = some o ∧ cOper P ops X.n o = some e.c
  ok : plOk ops pl = true
  apart : indep pl all = true

omit [GInv] in
theorem Plan.sorted {ops : Array Oper} {pl : List (List Nat)} {all : List It} (h : Plan P X ops pl all) : all.Pairwise (fun a b => a.i < b.i) := by
  rw [List.pairwise_iff_getElem]
  intro i j hi hj hij
  have h1 := (h.at_ i _ (List.getElem?_eq_getElem hi)).1
  have h2 := (h.at_ j _ (List.getElem?_eq_getElem hj)).1
  rw [h1, h2]; exact hij

theorem any_ok {ops : Array Oper} {pl : List (List Nat)} {all : List It} (hp : Plan P X ops pl all) : ∀ (fuel : Nat) (listed : Array Bool) (s : St) (a : Act) (w : World), listed.size = ops.size → (rem all listed).length = fuel →
    (∀ i, i < ops.size → listed.getD i true = true → ∀ j ∈ pl.getD i [], listed.getD j true = true) → steps P s (rem all listed) → (∀ e ∈ rem all listed, ∀ d ∈ e.tr.news, Fresh s d ∧ d ∉ X.pin) → Rel X s a w →
    (∀ a' w', Rel X (fin s (rem all listed)) a' w' → Q .normal a' w') → wpAny P .any ops Q fuel listed a w
  | 0, listed, s, a, w, hsz, hlen, hcl, hst, hfr, hrel, hQ => by
    have hnil : rem all listed = [] := List.eq_nil_of_length_eq_zero hlen
    refine ⟨?_, hQ a w (by rw [hnil]; exact hrel)⟩
    rw [List.eq_nil_iff_forall_not_mem]
    intro i hi
    obtain ⟨h1, h2, _⟩ := mem_ready.1 hi
    have hlt : i < all.length := by rw [hp.len]; exact h1
    have hm : all[i] ∈ rem all listed := by
      refine List.mem_filter.2 ⟨List.getElem_mem hlt, ?_⟩
      rw [(hp.at_ i _ (List.getElem?_eq_getElem hlt)).1, h2]; rfl
    rw [hnil] at hm; cases hm
  | fuel + 1, listed, s, a, w, hsz, hlen, hcl, hst, hfr, hrel, hQ => by
    have edges : ∀ i o, i < ops.size → ops[i]? = some o → ∀ e ∈ o.after.toList, Region.binds .any e = true → e.on < i := by
      intro i o hi ho e he hb
      have h := List.all_eq_true.1 hp.ok i (List.mem_range.2 hi)
      rw [ho] at h
      simp only [Bool.and_eq_true, Array.all_eq_true', Bool.or_eq_true, Bool.not_eq_true', decide_eq_true_eq] at h
      have := h.1 e (by simpa using he)
      rw [hb] at this
      exact this.resolve_left (by simp)
    have closed : ∀ i o, i < ops.size → ops[i]? = some o → ∀ j ∈ pl.getD i [], ∃ e ∈ o.after.toList, Region.binds .any e = true ∧ (e.on = j ∨ j ∈ pl.getD e.on []) := by
      intro i o hi ho j hj
      have h := List.all_eq_true.1 hp.ok i (List.mem_range.2 hi)
      rw [ho] at h
      simp only [Bool.and_eq_true, List.all_eq_true, Array.any_eq_true'] at h
      obtain ⟨e, he, hb, hor⟩ := h.2 j hj
      refine ⟨e, by simpa using he, hb, ?_⟩
      simpa using hor
    refine ⟨fun hnone => ?_, fun i hi => ?_⟩
    · -- the first that is left is ready
      exfalso
      cases hR : rem all listed with
      | nil => rw [hR] at hlen; simp at hlen
      | cons e R =>
        have hm : e ∈ rem all listed := by rw [hR]; simp
        obtain ⟨hm1, hm2⟩ := List.mem_filter.1 hm
        obtain ⟨k, hk⟩ := List.mem_iff_getElem?.1 hm1
        obtain ⟨hi, o, ho, _⟩ := hp.at_ k e hk
        have hklt : k < ops.size := by have := (List.getElem?_eq_some_iff.1 hk).1; rw [hp.len] at this; exact this
        have hready : k ∈ Region.ready .any ops listed := by
          refine mem_ready.2 ⟨hklt, by rw [← hi]; simpa using hm2, o, ho, fun ed hed hb => ?_⟩
          have hlt := edges k o hklt ho ed hed hb
          cases hg : listed.getD ed.on false with
          | true => rfl
          | false =>
            exfalso
            have hlt' : ed.on < all.length := by rw [hp.len]; omega
            have hei := (hp.at_ ed.on _ (List.getElem?_eq_getElem hlt')).1
            have hm' : all[ed.on] ∈ rem all listed := by
              refine List.mem_filter.2 ⟨List.getElem_mem hlt', ?_⟩
              rw [hei]
              have : listed.getD ed.on true = listed.getD ed.on false := by
                simp only [Array.getD_eq_getD_getElem?]
                rw [Array.getElem?_eq_getElem (by omega)]; rfl
              rw [this, hg]; rfl
            rw [hR] at hm'
            have hsort : (e :: R).Pairwise (fun a b => a.i < b.i) := by
              rw [← hR]; exact hp.sorted.sublist List.filter_sublist
            rcases List.mem_cons.1 hm' with e1 | e1
            · rw [e1, hi] at hei; omega
            · have := (List.pairwise_cons.1 hsort).1 _ e1
              rw [hei, hi] at this; omega
        rw [hnone] at hready; cases hready
    · obtain ⟨hilt, hun, o, ho, hed⟩ := mem_ready.1 hi
      have hlt : i < all.length := by rw [hp.len]; exact hilt
      have hat := hp.at_ i _ (List.getElem?_eq_getElem hlt)
      obtain ⟨hei, o', ho', hco⟩ := hat
      rw [ho] at ho'; cases ho'
      have hm : all[i] ∈ rem all listed := List.mem_filter.2 ⟨List.getElem_mem hlt, by rw [hei, hun]; rfl⟩
      generalize he : all[i] = e at *
      obtain ⟨l1, l2, hR⟩ := List.append_of_mem hm
      have hsort : (l1 ++ e :: l2).Pairwise (fun a b => a.i < b.i) := by rw [← hR]; exact hp.sorted.sublist List.filter_sublist
      have hl1 : ∀ x ∈ l1, x.i < i := fun x hx => by
        have := (List.pairwise_append.1 hsort).2.2 x hx e (by simp)
        rw [hei] at this; exact this
      have hl2 : ∀ x ∈ l2, i < x.i := fun x hx => by
        have := (List.pairwise_cons.1 (List.pairwise_append.1 hsort).2.1).1 x hx
        rw [hei] at this; exact this
      -- all that stands ahead of e has been carried out
      have hpre : ∀ j ∈ pl.getD i [], listed.getD j true = true := by
        intro j hj
        obtain ⟨ed, hed1, hb, hor⟩ := closed i o hilt ho j hj
        have hon := hed ed hed1 hb
        have honlt := edges i o hilt ho ed hed1 hb
        have hon' : listed.getD ed.on true = true := by
          have : listed.getD ed.on true = listed.getD ed.on false := by
            simp only [Array.getD_eq_getD_getElem?]
            rw [Array.getElem?_eq_getElem (by omega)]; rfl
          rw [this]; exact hon
        rcases hor with rfl | hor
        · exact hon'
        · exact hcl ed.on (by omega) hon' j hor
      have hmemR : ∀ x ∈ rem all listed, x ∈ all ∧ listed.getD x.i true = false := fun x hx => by
        obtain ⟨g1, g2⟩ := List.mem_filter.1 hx
        exact ⟨g1, by simpa using g2⟩
      have hpair : ∀ a ∈ all, ∀ b ∈ all, a.i < b.i → a.tr.free b.tr.news = true ∧ (a.i ∈ pl.getD b.i [] ∨ (Abs.ind a b = true ∧ b.tr.free a.tr.news = true)) := by
        intro a ha b hb hab
        have := List.all_eq_true.1 (List.all_eq_true.1 hp.apart a ha) b hb
        rw [if_pos hab] at this
        simp only [Bool.and_eq_true, Bool.or_eq_true] at this
        exact ⟨this.1, this.2.imp (fun h => by simpa using h) id⟩
      have heall : e ∈ all := (hmemR e hm).1
      have hindep : ∀ x ∈ l1, Abs.ind x e = true ∧ e.tr.free x.tr.news = true := by
        intro x hx
        obtain ⟨g1, g2⟩ := hmemR x (by rw [hR]; simp [hx])
        rcases (hpair x g1 e heall (by rw [hei]; exact hl1 x hx)).2 with g | g
        · have := hpre x.i (by rw [hei] at g; exact g)
          rw [this] at g2; cases g2
        · exact g
      rw [hR] at hst
      obtain ⟨hst', hfin⟩ := front l1 l2 s hst fun x hx => (hindep x hx).1
      simp only [steps] at hst'
      obtain ⟨hex, _, hrest⟩ := hst'
      refine ex_ok ho hco hrel hex (hfr e hm) fun a' w' hr => ?_
      have hrem : rem all (listed.setIfInBounds i true) = l1 ++ l2 := by
        have : rem all (listed.setIfInBounds i true) = (rem all listed).filter fun x => x.i != i := by
          unfold rem
          rw [List.filter_filter]
          refine List.filter_congr fun x _ => ?_
          rw [getD_set _ _ _ _ _ (by omega)]
          by_cases e1 : x.i = i
          · simp [e1]
          · simp [e1]
        rw [this, hR, List.filter_append, List.filter_cons]
        have hne : (e.i != i) = false := by simp [hei]
        rw [hne]
        simp only [Bool.false_eq_true, if_false]
        rw [List.filter_eq_self.2, List.filter_eq_self.2]
        · intro x hx; have := hl2 x hx; simp; omega
        · intro x hx; have := hl1 x hx; simp; omega
      refine any_ok hp fuel _ (e.ap s) a' w' (by simpa using hsz) ?_ ?_ (by rw [hrem]; exact hrest) ?_ hr ?_
      · rw [hrem]
        rw [hR] at hlen
        simp only [List.length_append, List.length_cons] at hlen ⊢; omega
      · intro k hk hlk j hj
        rw [getD_set _ _ _ _ _ (by omega)] at hlk ⊢
        split
        · rfl
        · split at hlk
          · rename_i e1; subst e1; exact hpre j hj
          · exact hcl k hk hlk j hj
      · intro x hx d hd
        rw [hrem] at hx
        have hxR : x ∈ rem all listed := by
          rw [hR]; rcases List.mem_append.1 hx with h | h
          · simp [h]
          · simp [h]
        obtain ⟨f1, f2⟩ := hfr x hxR d hd
        refine ⟨?_, f2⟩
        rcases List.mem_append.1 hx with h | h
        · exact Tr.free_fresh (hindep x h).2 hd f1
        · exact Tr.free_fresh (hpair e heall x (hmemR x hxR).1 (by rw [hei]; exact hl2 x h)).1 hd f1
      · intro a2 w2 hr2
        refine hQ a2 w2 ?_
        rw [hR, hfin]
        rw [hrem] at hr2
        exact hr2
end
end Go.Abs
