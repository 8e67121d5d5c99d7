/- The abstract layer, part 13: statements whose order is open. What two operations do apart from each other, they do in either order. -/
import Derived.Test.YtcfmohcpfmedaaaDoorAbsWp
set_option linter.unusedVariables false
set_option linter.unusedSimpArgs false
namespace Go.Abs
variable [GInv]

/-- What an operation does to a state: a value for its slot; blocks; the ids that must be new. -/
structure Tr where
  v : V
  hp : List (Nat × Option Blk)
  news : List Nat

def updo (f : Nat → Option Blk) : List (Nat × Option Blk) → Nat → Option Blk
  | [] => f
  | (i, b) :: l => updo (upd f i b) l

def Tr.ap (tr : Tr) (d : Option Nat) (s : St) : St := { sl := match d with | some d => upd s.sl d tr.v | none => s.sl, hp := updo s.hp tr.hp }

def trOf (δ : Dl) (d : Option Nat) : Tr :=
  { v := δ.v,
    hp := (match δ.wr with | some (i, b) => [(i, some b)] | none => []) ++ (match δ.del with | some i => [(i, none)] | none => []) ++ (match δ.new, d with | some b, some d => [(d, some b)] | _, _ => []),
    news := match δ.new, d with | some _, some d => [d] | _, _ => [] }

omit [GInv] in
theorem trOf_ap (δ : Dl) (d : Option Nat) (s : St) : (trOf δ d).ap d s = δ.app d s := by
  obtain ⟨v, new, del, wr⟩ := δ
  cases wr with
  | none => cases del <;> cases new <;> cases d <;> rfl
  | some p => obtain ⟨i, b⟩ := p; cases del <;> cases new <;> cases d <;> rfl

def trTake (d : Nat) (res : V) : Tr := { v := (take d 0 res).1, hp := (take d 0 res).2.1.map fun p => (p.1, some p.2), news := (List.range (take d 0 res).2.2).map (d + 1000 * ·) }

omit [GInv] in
theorem updo_map (f : Nat → Option Blk) : ∀ l : List (Nat × Blk), updo f (l.map fun p => (p.1, some p.2)) = updl f l
  | [] => rfl
  | (i, b) :: l => by simp only [List.map_cons, updo, updl]; exact updo_map _ l

omit [GInv] in
theorem trTake_ap (d : Nat) (res : V) (s : St) : (trTake d res).ap (some d) s = s.took d res := by
  simp only [trTake, Tr.ap, St.took, updo_map]

mutual
def idsV : V → List Nat
  | .ref id _ _ => [id]
  | .sl id _ _ => [id]
  | .agg cs => idsVs cs
  | .tup cs => idsVs cs
  | .clo _ cs => idsVs cs
  | _ => []
def idsVs : List V → List Nat
  | [] => []
  | c :: cs => idsV c ++ idsVs cs
end

def xsO : O → List X
  | .mv x => [x]
  | .pick c a b => [c, a, b]
  | .box _ x => [x]
  | .build _ ps => ps.map (·.2.2)
  | .bslice _ _ _ ps => ps.map (·.2)
  | .ld _ _ x => [x]
  | .st _ a x => [a, x]
  | .bin _ _ x y => [x, y]
  | .un _ x => [x]
  | .conv _ x => [x]
  | .clo _ cs => cs
  | .mks _ _ _ l c => [l, c]
  | .slc _ x lo hi => x :: (lo.toList ++ hi.toList)
  | .faddr _ x => [x]
  | .fld _ _ _ x => [x]
  | .iaddr _ x i => [x, i]
  | .idx x i => [x, i]
  | .ext x _ => [x]
  | .len _ x => [x]
  | .app _ _ x y => [x, y]
  | .mm _ xs => xs
  | .call _ xs => xs
  | .callv x xs => x :: xs

def rdS (c : CO) : List Nat := (match c.g with | some (t, _) => [t] | none => []) ++ (xsO c.o).filterMap fun | .t n => some n | .k _ => none

mutual
/-- It leads to no block by an id, at no depth. -/
def deepV : V → Bool
  | .ref _ _ _ => false
  | .sl _ _ _ => false
  | .agg cs => deeps cs
  | .tup cs => deeps cs
  | .clo _ cs => deeps cs
  | .own _ es => deeps es
  | _ => true
def deeps : List V → Bool
  | [] => true
  | c :: cs => deepV c && deeps cs
end

def callX (P : Program) (f : Nat) (vs : List V) (s : St) (d : Nat) (tr : Tr) : Prop :=
  ∃ res, PCall P f (vs.map (borrow s.hp 6)) res ∧ resOk res = true ∧ (noRo res = true ∨ (noIdss vs = true ∧ noOwns vs = true)) ∧ tr = trTake d res ∧ noOwns vs = true ∧ (∀ id, id ∈ idsVs vs → ∀ b, s.hp id = some b → deeps b.es = true)

/-- The operation can be carried out in the state, and does 'tr'. -/
def exec (P : Program) (c : CO) (s : St) (tr : Tr) : Prop :=
  match c.o with
  | .call f xs => ∃ d, c.d = some d ∧ callX P f (xs.map s.ev) s d tr
  | .callv x xs => ∃ d, c.d = some d ∧ match s.ev x with
    | .clo f caps => callX P f (xs.map s.ev ++ caps) s d tr
    | _ => False
  | o => ∃ p δ, eff s.ev s.hp (c.d.getD 0) o = some (p, δ) ∧ p ∧ tr = trOf δ c.d

/-- The same behind its guard. -/
def ex (P : Program) (c : CO) (s : St) (tr : Tr) : Prop :=
  match c.g with
  | none => exec P c s tr
  | some (t, b) => (∃ v, s.sl t = .v (.bool v) ∧ ((v = b ∧ exec P c s tr) ∨ (v ≠ b ∧ tr = ⟨.tup [], [], []⟩))) ∨ (s.sl t = .tup [] ∧ tr = ⟨.tup [], [], []⟩)

section
variable {P : Program} {X : Ctx} {Q : Exit → Act → World → Prop}

omit [GInv] in
theorem ev_agree {s s2 : St} {xs : List Abs.X} (h : ∀ t, t ∈ (xs.filterMap fun | .t n => some n | .k _ => none : List Nat) → s2.sl t = s.sl t) : ∀ x ∈ xs, s2.ev x = s.ev x := by
  intro x hx
  cases x with
  | k v => rfl
  | t n => exact h n (List.mem_filterMap.2 ⟨.t n, hx, rfl⟩)

omit [GInv] in
theorem map_agree {s s2 : St} {xs : List Abs.X} (h : ∀ x ∈ xs, s2.ev x = s.ev x) : xs.map s2.ev = xs.map s.ev := List.map_congr_left h

omit [GInv] in
theorem vld_agree {look look2 : Nat → Option Blk} {agg : Bool} {n : Nat} {v : V} (h : ∀ id ∈ idsV v, look2 id = look id) : vld agg n look2 v = vld agg n look v := by
  cases v <;> simp only [vld]
  rename_i id i j
  rw [h id (by simp [idsV])]

omit [GInv] in
theorem vst_agree {look look2 : Nat → Option Blk} {n : Nat} {v u : V} (h : ∀ id ∈ idsV u, look2 id = look id) : vst n look2 v u = vst n look v u := by
  cases u <;> simp only [vst]
  rename_i id i j
  rw [h id (by simp [idsV])]

omit [GInv] in
theorem viaddr_agree {look look2 : Nat → Option Blk} {n : Nat} {v u : V} (h : ∀ id ∈ idsV v, look2 id = look id) : viaddr n look2 v u = viaddr n look v u := by
  unfold viaddr
  split
  · rw [h _ (by simp [idsV])]
  · rfl
  · rfl

omit [GInv] in
theorem srcOf_agree {look look2 : Nat → Option Blk} {n : Nat} {v : V} (h : ∀ id ∈ idsV v, look2 id = look id) : srcOf n look2 v = srcOf n look v := by
  unfold srcOf
  split
  · rw [h _ (by simp [idsV])]
  · rfl
  · rfl
  · rfl

omit [GInv] in
theorem vapp_agree {look look2 : Nat → Option Blk} {n b d : Nat} {v u : V} (h : ∀ id ∈ idsV v, look2 id = look id) (h' : ∀ id ∈ idsV u, look2 id = look id) : vapp n b look2 d v u = vapp n b look d v u := by
  have hs := srcOf_agree (n := n) h
  unfold vapp
  split
  · rw [hs]
  · rename_i id i m
    rw [hs, h' id (by simp [idsV])]
  · rfl

omit [GInv] in
theorem vslcL_agree {look look2 : Nat → Option Blk} {n : Nat} {v : V} {lo hi : Option V} (h : ∀ id ∈ idsV v, look2 id = look id) : vslcL n look2 v lo hi = vslcL n look v lo hi := by
  cases v <;> simp only [vslcL]
  rename_i id i j
  rw [h id (by simp [idsV])]

omit [GInv] in
theorem setPs_agree {ev ev2 : Abs.X → V} : ∀ {ps : List (Nat × Nat × Abs.X)} {cs : List V}, (∀ x ∈ ps.map (·.2.2), ev2 x = ev x) → setPs ev2 cs ps = setPs ev cs ps
  | [], cs, h => rfl
  | (off, n, x) :: ps, cs, h => by
    simp only [setPs]
    rw [h x (by simp)]
    split
    · split
      · exact setPs_agree fun y hy => h y (List.mem_cons_of_mem _ hy)
      · rfl
    · rfl

omit [GInv] in
theorem setPt_agree {ev ev2 : Abs.X → V} {s : Nat} : ∀ {ps : List (Nat × Abs.X)} {es : List V}, (∀ x ∈ ps.map (·.2), ev2 x = ev x) → setPt ev2 s es ps = setPt ev s es ps
  | [], es, h => rfl
  | (i, x) :: ps, es, h => by
    simp only [setPt]
    rw [h x (by simp)]
    split
    · exact setPt_agree fun y hy => h y (List.mem_cons_of_mem _ hy)
    · rfl

omit [GInv] in
/-- What an operation does hangs on its operands and on the blocks that these lead to. -/
theorem eff_agree {ev ev2 : Abs.X → V} {look look2 : Nat → Option Blk} {d : Nat} {q : O} (h : ∀ x ∈ xsO q, ev2 x = ev x) (hl : ∀ x ∈ xsO q, ∀ id ∈ idsV (ev x), look2 id = look id) : eff ev2 look2 d q = eff ev look d q := by
  cases q <;> simp only [xsO, List.mem_cons, List.not_mem_nil, or_false, forall_eq_or_imp, forall_eq] at h hl <;> simp only [eff]
  case mv x => rw [h]
  case pick c a b => rw [h.1, h.2.1, h.2.2]
  case box n x => rw [h]
  case build z ps => unfold vbuild; cases z <;> simp only; rw [setPs_agree h]
  case bslice s z n ps => unfold vbslice; rw [setPt_agree h]
  case ld b n x => rw [h]; exact vld_agree hl
  case st n a x => rw [h.1, h.2]; exact vst_agree hl.1
  case bin op k x y => rw [h.1, h.2]
  case un op x => rw [h]
  case conv c x =>
    rw [h]
    have hs := srcOf_agree (n := 1) hl
    unfold vconv
    split
    · rfl
    · rfl
    · rw [hs]
  case clo f cs => rw [List.map_congr_left h]
  case mks s z b l c => rw [h.1, h.2]
  case slc s x lo hi =>
    have h1 : lo.map ev2 = lo.map ev := by cases lo <;> simp_all
    have h2 : hi.map ev2 = hi.map ev := by cases hi <;> simp_all
    cases s <;> simp only [eff] <;> rw [h.1, h1, h2]
    exact vslcL_agree hl.1
  case faddr off x => rw [h]
  case fld b off n x => rw [h]
  case iaddr s x i => rw [h.1, h.2]; exact viaddr_agree hl.1
  case idx x i => rw [h.1, h.2]
  case ext x i => rw [h]
  case len b x => rw [h]
  case app s b x y => rw [h.1, h.2]; exact vapp_agree hl.2 hl.1
  case mm m xs => rw [List.map_congr_left h]

omit [GInv] in
mutual
theorem ids_ment (id : Nat) : ∀ v : V, id ∈ idsV v → ment id v = true
  | .ref k _ _, h => by simp only [idsV, List.mem_singleton] at h; simp [ment, h]
  | .sl k _ _, h => by simp only [idsV, List.mem_singleton] at h; simp [ment, h]
  | .agg cs, h => by simp only [ment]; exact idss_ment id cs (by simpa [idsV] using h)
  | .tup cs, h => by simp only [ment]; exact idss_ment id cs (by simpa [idsV] using h)
  | .clo _ cs, h => by simp only [ment]; exact idss_ment id cs (by simpa [idsV] using h)
  | .undef, h | .v _, h | .rp _ _ _ _, h | .ro _ _, h | .own _ _, h => by simp [idsV] at h
theorem idss_ment (id : Nat) : ∀ cs : List V, id ∈ idsVs cs → ments id cs = true
  | [], h => by simp [idsVs] at h
  | c :: cs, h => by
    simp only [idsVs, List.mem_append] at h
    simp only [ments, Bool.or_eq_true]
    exact h.imp (ids_ment id c) (idss_ment id cs)
end

omit [GInv] in
theorem borrow_deep {hp hp2 : Nat → Option Blk} : ∀ (k : Nat) (v : V), deepV v = true → borrow hp2 k v = borrow hp k v
  | 0, v, _ => rfl
  | k + 1, v, h => by
    have hall : ∀ cs : List V, deeps cs = true → cs.map (borrow hp2 k) = cs.map (borrow hp k) := by
      intro cs
      induction cs with
      | nil => intros; rfl
      | cons c cs ih =>
        intro h0
        simp only [deeps, Bool.and_eq_true] at h0
        simp only [List.map_cons]
        rw [borrow_deep k c h0.1, ih h0.2]
    cases v with
    | undef => rfl
    | v y => rfl
    | rp s es i j => rfl
    | ro s es => rfl
    | ref id i j => simp [deepV] at h
    | sl id i n => simp [deepV] at h
    | own s es => simp only [borrow]; rw [hall es (by simpa [deepV] using h)]
    | agg cs => simp only [borrow]; rw [hall cs (by simpa [deepV] using h)]
    | tup cs => simp only [borrow]; rw [hall cs (by simpa [deepV] using h)]
    | clo f cs => simp only [borrow]; rw [hall cs (by simpa [deepV] using h)]

omit [GInv] in
theorem borrow_agree {hp hp2 : Nat → Option Blk} : ∀ (k : Nat) (v : V), noOwn v = true → (∀ id ∈ idsV v, hp2 id = hp id) → (∀ id ∈ idsV v, ∀ b, hp id = some b → deeps b.es = true) → borrow hp2 k v = borrow hp k v
  | 0, v, _, _, _ => rfl
  | k + 1, v, ho, h, hn => by
    have hall : ∀ cs : List V, noOwns cs = true → (∀ id ∈ idsVs cs, hp2 id = hp id) → (∀ id ∈ idsVs cs, ∀ b, hp id = some b → deeps b.es = true) → cs.map (borrow hp2 k) = cs.map (borrow hp k) := by
      intro cs
      induction cs with
      | nil => intros; rfl
      | cons c cs ih =>
        intro h0 h1 h2
        simp only [noOwns, Bool.and_eq_true] at h0
        simp only [List.map_cons]
        rw [borrow_agree k c h0.1 (fun id hi => h1 id (by simp [idsVs, hi])) (fun id hi => h2 id (by simp [idsVs, hi])), ih h0.2 (fun id hi => h1 id (by simp [idsVs, hi])) (fun id hi => h2 id (by simp [idsVs, hi]))]
    have hflat : ∀ es : List V, deeps es = true → es.map (borrow hp2 k) = es.map (borrow hp k) := fun es hes => by
      induction es with
      | nil => rfl
      | cons c cs ih =>
        simp only [deeps, Bool.and_eq_true] at hes
        simp only [List.map_cons]
        rw [borrow_deep k c hes.1, ih hes.2]
    cases v with
    | undef => rfl
    | v y => rfl
    | rp s es i j => rfl
    | ro s es => rfl
    | ref id i j =>
      simp only [borrow]
      rw [h id (by simp [idsV])]
      split
      · rename_i b hb
        rw [hflat b.es (hn id (by simp [idsV]) b hb)]
      · rfl
    | sl id i n =>
      simp only [borrow]
      rw [h id (by simp [idsV])]
      split
      · rename_i b hb
        have he := hflat b.es (hn id (by simp [idsV]) b hb)
        split
        · rw [List.map_take, List.map_drop, he, List.map_take, List.map_drop]
        · rfl
      · rfl
    | own s es => simp [noOwn] at ho
    | agg cs => simp only [borrow]; rw [hall cs (by simpa [noOwn] using ho) (by simpa [idsV] using h) (by simpa [idsV] using hn)]
    | tup cs => simp only [borrow]; rw [hall cs (by simpa [noOwn] using ho) (by simpa [idsV] using h) (by simpa [idsV] using hn)]
    | clo f cs => simp only [borrow]; rw [hall cs (by simpa [noOwn] using ho) (by simpa [idsV] using h) (by simpa [idsV] using hn)]

omit [GInv] in
theorem idsVs_append : ∀ (xs ys : List V), idsVs (xs ++ ys) = idsVs xs ++ idsVs ys
  | [], ys => rfl
  | x :: xs, ys => by simp [idsVs, idsVs_append xs ys]

omit [GInv] in
theorem idsVs_map {α : Type} (f : α → V) : ∀ xs : List α, idsVs (xs.map f) = xs.flatMap (fun x => idsV (f x))
  | [] => rfl
  | x :: xs => by simp [idsVs, idsVs_map f xs]

omit [GInv] in
theorem map_borrow_agree {hp hp2 : Nat → Option Blk} : ∀ (vs : List V), noOwns vs = true → (∀ id ∈ idsVs vs, hp2 id = hp id) → (∀ id ∈ idsVs vs, ∀ b, hp id = some b → deeps b.es = true) → vs.map (borrow hp2 6) = vs.map (borrow hp 6)
  | [], _, _, _ => rfl
  | v :: vs, ho, h, hn => by
    simp only [noOwns, Bool.and_eq_true] at ho
    simp only [List.map_cons]
    rw [borrow_agree 6 v ho.1 (fun id hi => h id (by simp [idsVs, hi])) (fun id hi => hn id (by simp [idsVs, hi])), map_borrow_agree vs ho.2 (fun id hi => h id (by simp [idsVs, hi])) (fun id hi => hn id (by simp [idsVs, hi]))]

/-- The blocks that an operation's operands lead to. -/
def tch (c : CO) (s : St) : List Nat := (xsO c.o).flatMap fun x => idsV (s.ev x)

theorem callX_agree {f : Nat} {vs : List V} {s s2 : St} {d : Nat} {tr : Tr} (h : ∀ id ∈ idsVs vs, s2.hp id = s.hp id) (hc : callX P f vs s d tr) : callX P f vs s2 d tr := by
  obtain ⟨res, h1, h2, h3, h4, h5, h6⟩ := hc
  refine ⟨res, ?_, h2, h3, h4, h5, fun id hi b hb => h6 id hi b (by rw [← h id hi]; exact hb)⟩
  rw [map_borrow_agree vs h5 h h6]; exact h1

theorem ex_agree {c : CO} {s s2 : St} {tr : Tr} (h : ex P c s tr) (hs : ∀ t ∈ rdS c, s2.sl t = s.sl t) (hh : ∀ id ∈ tch c s, s2.hp id = s.hp id) : ex P c s2 tr := by
  have hev : ∀ x ∈ xsO c.o, s2.ev x = s.ev x := ev_agree fun t ht => hs t (List.mem_append_right _ ht)
  have hids : ∀ x ∈ xsO c.o, ∀ id ∈ idsV (s.ev x), s2.hp id = s.hp id := fun x hx id hi => hh id (List.mem_flatMap.2 ⟨x, hx, hi⟩)
  have exe : exec P c s tr → exec P c s2 tr := by
    intro he
    unfold exec at he ⊢
    split
    · rename_i f xs hco
      rw [hco] at he hev hids
      obtain ⟨d, hd, hc⟩ := he
      refine ⟨d, hd, ?_⟩
      rw [map_agree (xs := xs) hev]
      refine callX_agree (fun id hi => ?_) hc
      rw [idsVs_map] at hi
      obtain ⟨x, hx, hi⟩ := List.mem_flatMap.1 hi
      exact hids x hx id hi
    · rename_i x xs hco
      rw [hco] at he hev hids
      obtain ⟨d, hd, hc⟩ := he
      refine ⟨d, hd, ?_⟩
      rw [hev x (by simp [xsO]), map_agree (fun y hy => hev y (by simp [xsO, hy]))]
      split at hc
      · rename_i f caps hclo
        refine callX_agree (fun id hi => ?_) hc
        rw [idsVs_append, List.mem_append, idsVs_map] at hi
        rcases hi with hi | hi
        · obtain ⟨y, hy, hi⟩ := List.mem_flatMap.1 hi
          exact hids y (by simp [xsO, hy]) id hi
        · exact hids x (by simp [xsO]) id (by rw [hclo]; simpa [idsV] using hi)
      · exact hc.elim
    · rename_i hn1 hn2
      have he' : ∃ p δ, eff s.ev s.hp (c.d.getD 0) c.o = some (p, δ) ∧ p ∧ tr = trOf δ c.d := by
        cases hco : c.o <;> rw [hco] at he hn1 hn2 <;> first | exact he | exact absurd rfl (hn1 _ _) | exact absurd rfl (hn2 _ _)
      obtain ⟨p, δ, h1, h2, h3⟩ := he'
      exact ⟨p, δ, by rw [eff_agree hev hids]; exact h1, h2, h3⟩
  unfold ex at h ⊢
  split
  · rename_i hg
    rw [hg] at h
    exact exe h
  · rename_i t b hg
    rw [hg] at h
    have ht := hs t (by simp [rdS, hg])
    rcases h with ⟨v, hv, h⟩ | ⟨hv, h⟩
    · exact .inl ⟨v, by rw [ht]; exact hv, h.imp (fun h => ⟨h.1, exe h.2⟩) id⟩
    · exact .inr ⟨by rw [ht]; exact hv, h⟩

/-- Values and blocks of a change lead to no block of the list. -/
def Tr.free (tr : Tr) (ids : List Nat) : Bool := ids.all fun d => !ment d tr.v && tr.hp.all fun p => p.1 != d && match p.2 with | some b => !ments d b.es | none => true

omit [GInv] in
theorem updo_other {f : Nat → Option Blk} : ∀ {l : List (Nat × Option Blk)} {i : Nat}, i ∉ l.map (·.1) → updo f l i = f i
  | [], i, h => rfl
  | (j, b) :: l, i, h => by
    simp only [List.map_cons, List.mem_cons, not_or] at h
    simp only [updo]
    rw [updo_other h.2, upd_ne _ _ h.1]

omit [GInv] in
theorem updo_cases {f : Nat → Option Blk} : ∀ (l : List (Nat × Option Blk)) (i : Nat), updo f l i = f i ∨ ∃ b, (i, b) ∈ l ∧ updo f l i = b
  | [], i => .inl rfl
  | (j, b) :: l, i => by
    simp only [updo]
    rcases updo_cases (f := upd f j b) l i with h | ⟨b', h1, h2⟩
    · rw [h]
      by_cases e : i = j
      · subst e; right; exact ⟨b, by simp, by simp⟩
      · left; exact upd_ne _ _ e
    · exact .inr ⟨b', List.mem_cons_of_mem _ h1, h2⟩

omit [GInv] in
theorem Tr.free_fresh {tr : Tr} {ids : List Nat} (h : tr.free ids = true) {d : Nat} (hd : d ∈ ids) {c : Option Nat} {s : St} (hf : Fresh s d) : Fresh (tr.ap c s) d := by
  have := List.all_eq_true.1 h d hd
  simp only [Bool.and_eq_true, Bool.not_eq_true', List.all_eq_true, bne_iff_ne, ne_eq] at this
  obtain ⟨h1, h2⟩ := this
  refine ⟨fun t => ?_, fun id blk hb => ?_, ?_⟩
  · cases c with
    | none => exact hf.sl t
    | some c =>
      simp only [Tr.ap, upd]
      split
      · exact h1
      · exact hf.sl t
  · rcases updo_cases (f := s.hp) tr.hp id with e | ⟨b, hm, e⟩
    · exact hf.hp id blk (by rw [← e]; exact hb)
    · have hb' : updo s.hp tr.hp id = some blk := hb
      rw [e] at hb'; subst hb'
      have := (h2 _ hm).2
      simpa using this
  · show updo s.hp tr.hp d = none
    rw [updo_other]
    · exact hf.no
    · intro hm
      obtain ⟨p, hp, e⟩ := List.mem_map.1 hm
      exact (h2 p hp).1 e
end
end Go.Abs
