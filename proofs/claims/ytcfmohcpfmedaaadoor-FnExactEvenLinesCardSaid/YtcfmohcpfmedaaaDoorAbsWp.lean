/- The abstract layer, part 11: abstract states as lists, and what must hold of one so that the code does what is asked. -/
import Derived.Test.YtcfmohcpfmedaaaDoorAbsMut
set_option linter.unusedVariables false
set_option linter.unusedSimpArgs false
namespace Go.Abs
variable [GInv]

def lk : List (Nat × V) → Nat → V
  | [], _ => .undef
  | (k, v) :: l, i => if i = k then v else lk l i

def lkb : List (Nat × Blk) → Nat → Option Blk
  | [], _ => none
  | (k, b) :: l, i => if i = k then some b else lkb l i

def rmb (i : Nat) : List (Nat × Blk) → List (Nat × Blk)
  | [] => []
  | (k, b) :: l => if k = i then rmb i l else (k, b) :: rmb i l

structure AS where
  sl : List (Nat × V)
  hp : List (Nat × Blk)
  pin : List Nat

def AS.den (s : AS) : St := { sl := lk s.sl, hp := lkb s.hp }

def AS.ev (s : AS) : X → V
  | .t n => lk s.sl n
  | .k v => v

omit [GInv] in
theorem AS.ev_eq (s : AS) : s.den.ev = s.ev := by
  funext x; cases x <;> rfl

omit [GInv] in
theorem lk_cons (k : Nat) (v : V) (l : List (Nat × V)) : lk ((k, v) :: l) = upd (lk l) k v := by
  funext i; simp [lk, upd]

omit [GInv] in
theorem lkb_cons (k : Nat) (b : Blk) (l : List (Nat × Blk)) : lkb ((k, b) :: l) = upd (lkb l) k (some b) := by
  funext i; simp [lkb, upd]

omit [GInv] in
theorem lkb_rmb (k : Nat) : ∀ l : List (Nat × Blk), lkb (rmb k l) = upd (lkb l) k none
  | [] => by funext i; simp [lkb, rmb, upd]
  | (j, b) :: l => by
    funext i
    have ih := congrFun (lkb_rmb k l) i
    simp only [rmb, lkb]
    by_cases e : j = k
    · subst e; simp only [if_true]; rw [ih]; unfold upd; split <;> simp_all
    · simp only [e, if_false, lkb]; rw [ih]; unfold upd; split <;> simp_all

def AS.put (s : AS) (d : Option Nat) (v : V) : AS :=
  match d with
  | some d => { s with sl := (d, v) :: s.sl }
  | none => s

def AS.wrt (s : AS) : Option (Nat × Blk) → AS
  | some (i, b) => { s with hp := (i, b) :: rmb i s.hp }
  | none => s
def AS.del (s : AS) : Option Nat → AS
  | some i => { s with hp := rmb i s.hp }
  | none => s
def AS.new (s : AS) (d : Nat) : Option Blk → AS
  | some b => { s with hp := (d, b) :: s.hp }
  | none => s

def AS.app (s : AS) (d : Option Nat) (δ : Dl) : AS := (((s.wrt δ.wr).del δ.del).new (d.getD 0) δ.new).put d δ.v

omit [GInv] in
theorem upd_upd {α : Type} (f : Nat → α) (k : Nat) (x y : α) : upd (upd f k x) k y = upd f k y := by
  funext i; unfold upd; split <;> rfl

omit [GInv] in
theorem AS.wrt_hp (s : AS) (wr : Option (Nat × Blk)) : lkb (s.wrt wr).hp = hpW (lkb s.hp) wr := by
  cases wr with
  | none => rfl
  | some p => obtain ⟨i, b⟩ := p; simp only [AS.wrt, hpW]; rw [lkb_cons, lkb_rmb, upd_upd]
omit [GInv] in
theorem AS.del_hp (s : AS) (del : Option Nat) : lkb (s.del del).hp = hpD (lkb s.hp) del := by
  cases del with
  | none => rfl
  | some i => simp only [AS.del, hpD]; rw [lkb_rmb]
omit [GInv] in
theorem AS.wrt_sl (s : AS) (wr : Option (Nat × Blk)) : (s.wrt wr).sl = s.sl := by cases wr <;> rfl
omit [GInv] in
theorem AS.del_sl (s : AS) (del : Option Nat) : (s.del del).sl = s.sl := by cases del <;> rfl

omit [GInv] in
theorem AS.den_app (s : AS) (d : Option Nat) (δ : Dl) (h : δ.new.isSome = true → d.isSome = true) : (s.app d δ).den = δ.app d s.den := by
  obtain ⟨v, new, del, wr⟩ := δ
  unfold AS.app Dl.app Dl.hp AS.den
  cases d with
  | none =>
    cases new with
    | none => simp only [AS.new, AS.put, AS.del_hp, AS.wrt_hp, AS.del_sl, AS.wrt_sl, hpN]
    | some b => simp at h
  | some d =>
    cases new with
    | none => simp only [AS.new, AS.put, lk_cons, AS.del_hp, AS.wrt_hp, AS.del_sl, AS.wrt_sl, hpN]
    | some b => simp only [AS.new, AS.put, lk_cons, lkb_cons, AS.del_hp, AS.wrt_hp, AS.del_sl, AS.wrt_sl, Option.getD_some, hpN]

omit [GInv] in
theorem AS.app_pin (s : AS) (d : Option Nat) (δ : Dl) : (s.app d δ).pin = s.pin := by
  obtain ⟨v, new, del, wr⟩ := δ
  unfold AS.app
  cases d <;> cases new <;> cases del <;> cases wr <;> rfl

/-- No slot and no block leads to d. -/
def AS.fresh (s : AS) (d : Nat) : Bool :=
  s.sl.all (fun p => !ment d p.2) && s.hp.all (fun p => p.1 != d && !ments d p.2.es) && !s.pin.contains d

omit [GInv] in
theorem lk_mem : ∀ (l : List (Nat × V)) (i : Nat), lk l i = .undef ∨ ∃ k, (k, lk l i) ∈ l
  | [], i => .inl rfl
  | (k, v) :: l, i => by
    simp only [lk]
    split
    · exact .inr ⟨k, by simp⟩
    · rcases lk_mem l i with h | ⟨j, h⟩
      · exact .inl h
      · exact .inr ⟨j, List.mem_cons_of_mem _ h⟩

omit [GInv] in
theorem lkb_mem : ∀ (l : List (Nat × Blk)) (i : Nat) (b : Blk), lkb l i = some b → (i, b) ∈ l
  | [], i, b, h => by simp [lkb] at h
  | (k, c) :: l, i, b, h => by
    simp only [lkb] at h
    split at h
    · rename_i e; cases h; subst e; simp
    · exact List.mem_cons_of_mem _ (lkb_mem l i b h)

omit [GInv] in
theorem AS.fresh_ok {s : AS} {d : Nat} (h : s.fresh d = true) : Fresh s.den d ∧ d ∉ s.pin := by
  simp only [AS.fresh, Bool.and_eq_true, List.all_eq_true, Bool.not_eq_true', bne_iff_ne, ne_eq] at h
  obtain ⟨⟨h1, h2⟩, h3⟩ := h
  refine ⟨⟨fun t => ?_, fun id blk hb => ?_, ?_⟩, by simpa using h3⟩
  · show ment d (lk s.sl t) = false
    rcases lk_mem s.sl t with e | ⟨k, e⟩
    · rw [e]; rfl
    · exact h1 _ e
  · exact (h2 _ (lkb_mem _ _ _ hb)).2
  · show lkb s.hp d = none
    cases hb : lkb s.hp d with
    | none => rfl
    | some b => exact absurd rfl (h2 _ (lkb_mem _ _ _ hb)).1

def AS.took (s : AS) (d : Nat) (res : V) : AS := { s with sl := (d, (take d 0 res).1) :: s.sl, hp := (take d 0 res).2.1.reverse ++ s.hp }

omit [GInv] in
theorem lkb_rev_append : ∀ (l : List (Nat × Blk)) (h : List (Nat × Blk)), lkb (l.reverse ++ h) = updl (lkb h) l
  | [], h => rfl
  | (i, b) :: l, h => by
    simp only [List.reverse_cons, List.append_assoc, List.singleton_append, updl]
    rw [lkb_rev_append l, lkb_cons]

omit [GInv] in
theorem AS.den_took (s : AS) (d : Nat) (res : V) : (s.took d res).den = s.den.took d res := by
  simp only [AS.took, AS.den, St.took, lk_cons, lkb_rev_append]

/-- A call. -/
def wroteL : List Nat → List (Option Blk) → List (Nat × Blk) → List (Nat × Blk)
  | m :: M, some b :: H, hp => wroteL M H ((m, b) :: rmb m hp)
  | m :: M, none :: H, hp => wroteL M H (rmb m hp)
  | _, _, hp => hp

def AS.wrote (s : AS) (M : List Nat) (H1 : List (Option Blk)) : AS := { s with hp := wroteL M H1 s.hp }

omit [GInv] in
theorem lkb_wroteL : ∀ (M : List Nat) (H : List (Option Blk)) (hp : List (Nat × Blk)), M.Nodup → H.length = M.length → lkb (wroteL M H hp) = fun id => match idx? M id with | some k => (H[k]?).join | none => lkb hp id
  | [], [], hp, _, _ => rfl
  | m :: M, o :: H, hp, hn, hl => by
    rw [List.nodup_cons] at hn
    have key : ∀ hp' : List (Nat × Blk), (∀ id, lkb hp' id = if id = m then o else lkb hp id) → lkb (wroteL M H hp') = fun id => match idx? (m :: M) id with | some k => ((o :: H)[k]?).join | none => lkb hp id := fun hp' hh => by
      rw [lkb_wroteL M H hp' hn.2 (by simpa using hl)]
      funext id
      simp only [idx?]
      by_cases e : m = id
      · subst e
        have : idx? M m = none := by
          cases hi : idx? M m with
          | none => rfl
          | some k => exact absurd (List.mem_iff_getElem?.2 ⟨k, idx?_some M m k hi⟩) hn.1
        rw [this, if_pos rfl]
        simp [hh m]
      · rw [if_neg e]
        cases hi : idx? M id with
        | some k => simp
        | none =>
          show lkb hp' id = lkb hp id
          rw [hh id, if_neg (fun e' => e e'.symm)]
    cases o with
    | some b =>
      refine key _ fun id => ?_
      rw [lkb_cons, lkb_rmb]; unfold upd; split <;> simp_all
    | none =>
      refine key _ fun id => ?_
      rw [lkb_rmb]; rfl
  | [], _ :: _, hp, _, hl => by simp at hl
  | _ :: _, [], hp, _, hl => by simp at hl

omit [GInv] in
theorem AS.den_wrote (s : AS) {M : List Nat} {H1 : List (Option Blk)} (hn : M.Nodup) (hl : H1.length = M.length) : (s.wrote M H1).den = s.den.wrote M H1 := by
  simp only [AS.wrote, AS.den, St.wrote]
  rw [lkb_wroteL M H1 s.hp hn hl]
  rfl

/-- What a block may hold when it comes back. -/
def outOk : List (Option Blk) → Bool
  | [] => true
  | some b :: l => noIdss b.es && noRos b.es && outOk l
  | none :: l => outOk l

omit [GInv] in
theorem outOk_get : ∀ (l : List (Option Blk)) (j : Nat) (b : Blk), outOk l = true → l[j]? = some (some b) → noIdss b.es = true ∧ noRos b.es = true
  | [], j, b, _, h => by simp at h
  | o :: l, 0, b, h, hj => by
    simp only [List.getElem?_cons_zero, Option.some.injEq] at hj; subst hj
    simp only [outOk, Bool.and_eq_true] at h; exact h.1
  | some c :: l, j + 1, b, h, hj => by
    simp only [outOk, Bool.and_eq_true] at h
    exact outOk_get l j b h.2 (by simpa using hj)
  | none :: l, j + 1, b, h, hj => outOk_get l j b (by simpa [outOk] using h) (by simpa using hj)

def callP (P : Program) (f : Nat) (vs : List V) (s : AS) (d : Nat) (K : AS → Prop) : Prop :=
  ∃ res, PCall P f (vs.map (borrow (lkb s.hp) 6)) res ∧ resOk res = true ∧ (noRo res = true ∨ (noIdss vs = true ∧ noOwns vs = true)) ∧
    (List.range (take d 0 res).2.2).all (fun i => s.fresh (d + 1000 * i)) = true ∧ K (s.took d res)

/-- A call of a function that writes: the blocks M are lent to it. -/
def callM (P : Program) (f : Nat) (vs : List V) (s : AS) (d : Nat) (K : AS → Prop) : Prop :=
  ∃ (M : List Nat) (H0 : List Blk) (res : V) (H1 : List (Option Blk)), MCall P f H0 (vs.map (lend M (lkb s.hp) 6)) res H1 ∧ M.Nodup ∧ M.map (lkb s.hp) = H0.map some ∧ (∀ blk ∈ H0, noIdss blk.es = true) ∧ outOk H1 = true ∧
    resOk res = true ∧ noRo res = true ∧ (List.range (take d 0 res).2.2).all (fun i => (s.wrote M H1).fresh (d + 1000 * i)) = true ∧ K ((s.wrote M H1).took d res)

/-- The same, where only R is told. -/
def callR (P : Program) (f : Nat) (vs : List V) (s : AS) (d : Nat) (K : AS → Prop) : Prop :=
  ∃ (M : List Nat) (H0 : List Blk) (R : V → List Blk → Prop), MCallR P f H0 (vs.map (lend M (lkb s.hp) 6)) R ∧ M.Nodup ∧ M.map (lkb s.hp) = H0.map some ∧ (∀ blk ∈ H0, noIdss blk.es = true) ∧
    ∀ res l, R res l → l.length = H0.length → outOk (l.map some) = true ∧ resOk res = true ∧ noRo res = true ∧ (List.range (take d 0 res).2.2).all (fun i => (s.wrote M (l.map some)).fresh (d + 1000 * i)) = true ∧ K ((s.wrote M (l.map some)).took d res)

def callQ (P : Program) (f : Nat) (vs : List V) (s : AS) (d : Nat) (K : AS → Prop) : Prop := callP P f vs s d K ∨ callM P f vs s d K ∨ callR P f vs s d K

/-- The value of a slot is written down anew. -/
def repl : List (Nat × V) → Nat → V → List (Nat × V)
  | [], _, _ => []
  | (k, v) :: l, t, x => if t = k then (k, x) :: l else (k, v) :: repl l t x
omit [GInv] in
theorem lk_repl {l : List (Nat × V)} {t : Nat} {x : V} (h : lk l t = x) : lk (repl l t x) = lk l := by
  funext i
  induction l with
  | nil => rfl
  | cons p l ih =>
    obtain ⟨k, v⟩ := p
    simp only [lk] at h
    simp only [repl]
    split
    · rename_i e
      rw [if_pos e] at h
      subst h
      simp only [lk]
    · rename_i e
      rw [if_neg e] at h
      simp only [lk]
      rw [ih h]
def AS.mark (s : AS) (t : Nat) (x : V) : AS := { s with sl := repl s.sl t x }

def stepO (P : Program) (c : CO) (K : AS → Prop) (s : AS) : Prop :=
  match c.o with
  | .call f xs => callQ P f (xs.map s.ev) s (c.d.getD 0) K
  | .callv x xs => match s.ev x with
    | .clo f caps => callQ P f (xs.map s.ev ++ caps) s (c.d.getD 0) K
    | _ => False
  | o => match eff s.ev (lkb s.hp) (c.d.getD 0) o with
    | some (p, δ) => p ∧ (δ.new.isSome = true → s.fresh (c.d.getD 0) = true) ∧ K (s.app c.d δ)
    | none => False

def wpO (P : Program) : List CO → (AS → Prop) → AS → Prop
  | [], K, s => K s
  | c :: cs, K, s => match c.g with
    | none => stepO P c (wpO P cs K) s
    | some (t, b) => match lk s.sl t with
      | .v (.bool v) => (v = b → stepO P c (wpO P cs K) (s.mark t (.v (.bool b)))) ∧ (v = !b → wpO P cs K ((s.mark t (.v (.bool !b))).put c.d (.tup [])))
      | .tup [] => wpO P cs K (s.put c.d (.tup []))
      | _ => False

omit [GInv] in
/-- To write down what a slot holds already changes nothing. -/
theorem AS.den_same {s : AS} {t : Nat} {v : V} (h : lk s.sl t = v) : (s.mark t v).den = s.den := by
  simp only [AS.mark, AS.den]
  rw [lk_repl h]

def cOpers (P : Program) (ops : Array Oper) (n : Nat) : List Oper → Option (List CO)
  | [] => some []
  | o :: os => match cOper P ops n o, cOpers P ops n os with
    | some c, some cs => some (c :: cs)
    | _, _ => none

section
variable {P : Program} {X : Ctx} {Q : Exit → Act → World → Prop}

theorem wp_of_runs {o : Oper} {a : Act} {w : World} {s' : St} {K : Act → World → Prop} (h : Runs P o X a w s') (hK : ∀ a' w', Rel X s' a' w' → K a' w') : o.wp P a w K Q := by
  obtain ⟨nx, x, w', hr, hnx, hrel⟩ := h
  unfold Oper.wp
  rw [hr]
  rcases hnx with rfl | ⟨rfl, rfl⟩
  · exact hK _ _ hrel
  · exact hK _ _ hrel

omit [GInv] in
theorem cOper_eq {ops : Array Oper} {n : Nat} {o : Oper} {c : CO} (h : cOper P ops n o = some c) : cOp P o.op = some c.o ∧ c.d = o.dst ∧ (∀ d, o.dst = some d → d < n) ∧ (isSt c.o = true → o.dst = none) ∧
    (isSt c.o = false → ∃ d, o.dst = some d) ∧ ((o.guard = none ∧ c.g = none) ∨ ∃ j b t, o.guard = some (j, b) ∧ c.g = some (t, b) ∧ (ops[j]?).bind (·.dst) = some t) := by
  unfold cOper at h
  cases hq : cOp P o.op with
  | none => simp [hq] at h
  | some q =>
    simp only [hq] at h
    split at h
    · rename_i hd
      have hg : ∃ g, c = ⟨g, o.dst, q⟩ ∧ ((o.guard = none ∧ g = none) ∨ ∃ j b t, o.guard = some (j, b) ∧ g = some (t, b) ∧ (ops[j]?).bind (·.dst) = some t) := by
        split at h
        · rename_i hgd
          simp only [Option.some.injEq] at h
          exact ⟨none, h.symm, .inl ⟨hgd, rfl⟩⟩
        · rename_i j b hgd
          split at h
          · rename_i t ht
            simp only [Option.some.injEq] at h
            exact ⟨_, h.symm, .inr ⟨j, b, t, hgd, rfl, ht⟩⟩
          · cases h
      obtain ⟨g, rfl, hg⟩ := hg
      cases hs : isSt q with
      | true =>
        rw [hs] at hd
        unfold dOk at hd
        cases hdst : o.dst with
        | none => exact ⟨rfl, rfl, fun d e => (by cases e), fun _ => rfl, fun e => (by cases e), hg⟩
        | some d => rw [hdst] at hd; simp at hd
      | false =>
        rw [hs] at hd
        unfold dOk at hd
        cases hdst : o.dst with
        | none => rw [hdst] at hd; simp at hd
        | some d => rw [hdst] at hd; exact ⟨rfl, rfl, fun d' e => (by cases e; simpa using hd), fun e => (by cases e), fun _ => ⟨d, rfl⟩, hg⟩
    · cases h

omit [GInv] in
theorem callFunc_run {f : Nat} (h : callable P f = true) (args : Array Value) (w : World) : (callFunc f args).run P w = .ok (.enter f args) w := by
  unfold callable at h
  simp only [beq_iff_eq, Option.map_eq_some_iff, Bool.and_eq_true, bne_iff_ne, ne_eq] at h
  obtain ⟨fn, h1, h2, h3⟩ := h
  have hb : fn.body ≠ none := by cases hb : fn.body <;> simp_all
  simp [callFunc, h1, h3, hb]

omit [GInv] in
theorem wp_of_call {o : Oper} {a : Act} {w : World} {f : Nat} {args : Array Value} {K : Act → World → Prop} (hr : (execOp a.eval o).run P w = .ok (.enter f args) w)
    (h : Calls P f args w fun e w' => ∃ y, e = .returned y ∧ K (a.put o.dst y) w') : o.wp P a w K Q := by
  unfold Oper.wp
  rw [hr, Oper.upon_enter]
  refine h.mono ?_
  rintro e w' ⟨y, rfl, hk⟩
  exact hk

theorem cXs_args {X : Ctx} {s : AS} {a : Act} {w : World} {ys : Array Operand} {xs : List Abs.X} (hx : cXs ys.toList = some xs) : ∀ D φ F, RelD X s.den a w D φ F [] → CVs w D (xs.map s.ev) φ (ys.map a.eval).toList [] := fun D φ F h => by
  have := cXs_ok h hx
  rw [AS.ev_eq] at this
  simpa using this

def isCall : O → Bool
  | .call _ _ => true
  | .callv _ _ => true
  | _ => false

omit [GInv] in
theorem map_isCall {α : Type} {x : Option α} {f : α → O} {q : O} (h : x.map f = some q) (hf : ∀ y, isCall (f y) = false) : isCall q = false := by
  simp only [Option.map_eq_some_iff] at h
  obtain ⟨y, _, rfl⟩ := h
  exact hf y

omit [GInv] in
set_option maxHeartbeats 1000000 in
theorem cOp_isCall {op : Op} {q : O} (h : cOp P op = some q) (hq : isCall q = true) : ∃ c, op = .call c := by
  have no : isCall q ≠ false := by rw [hq]; simp
  cases op with
  | call c => exact ⟨c, rfl⟩
  | move x => exact absurd (map_isCall h (fun _ => rfl)) no
  | assign x => exact absurd (map_isCall h (fun _ => rfl)) no
  | unOp a b x => exact absurd (map_isCall h (fun _ => rfl)) no
  | nilCheck x => exact absurd (map_isCall h (fun _ => rfl)) no
  | extract x i => exact absurd (map_isCall h (fun _ => rfl)) no
  | build t ps =>
    simp only [cOp] at h
    split at h
    · split at h
      · exact absurd (map_isCall h (fun _ => rfl)) no
      · cases h
    · cases h
  | makeFunc fn first cs =>
    cases fn <;> simp only [cOp, reduceCtorEq] at h
    split at h
    · exact absurd (map_isCall h (fun _ => rfl)) no
    · cases h
  | slice t x lo hi mx =>
    cases mx <;> simp only [cOp, reduceCtorEq] at h
    split at h
    · cases h; cases hq
    · split at h
      · cases h; cases hq
      · cases h
    · cases h
  | pick a b c => simp only [cOp] at h; split at h <;> cases h; cases hq
  | box t x => simp only [cOp] at h; split at h <;> cases h; cases hq
  | load t x => simp only [cOp] at h; split at h <;> cases h; cases hq
  | store t x y => simp only [cOp] at h; split at h <;> cases h; cases hq
  | binOp a t x y u => simp only [cOp] at h; split at h <;> cases h; cases hq
  | convert s d x => simp only [cOp] at h; split at h <;> cases h; cases hq
  | indexAddr t x i => simp only [cOp] at h; split at h <;> cases h; cases hq
  | index t x i => simp only [cOp] at h; split at h <;> cases h; cases hq
  | alloc t => simp only [cOp] at h; split at h <;> first | (split at h <;> cases h; cases hq; done) | cases h
  | buildSlice t n ps => simp only [cOp] at h; split at h <;> first | (split at h <;> cases h; cases hq; done) | cases h
  | makeSlice t l c => simp only [cOp] at h; split at h <;> first | (split at h <;> cases h; cases hq; done) | cases h
  | field t x f => simp only [cOp] at h; split at h <;> first | (split at h <;> first | (split at h <;> cases h; cases hq; done) | cases h) | cases h
  | fieldAddr t x f => simp only [cOp] at h; split at h <;> first | (split at h <;> first | (split at h <;> first | (split at h <;> cases h; cases hq; done) | cases h) | cases h) | cases h
  | _ => cases h

omit [GInv] in
theorem cOp_call {c : Call} {q : O} (h : cOp P (.call c) = some q) (hq : isCall q = true) : (∃ f xs, q = .call f xs ∧ c.callee = .value (.func f) ∧ cXs c.args.toList = some xs) ∨ (∃ t xs, q = .callv (.t t) xs ∧ c.callee = .value (.tmp t) ∧ cXs c.args.toList = some xs) := by
  have no : isCall q ≠ false := by rw [hq]; simp
  simp only [cOp] at h
  split at h
  · split at h
    · split at h <;> cases h <;> cases hq
    · cases h
  · split at h
    · split at h
      · split at h
        · cases h; cases hq
        · cases h
      · cases h
    · cases h
  · exact absurd (map_isCall h (fun _ => rfl)) no
  · exact absurd (map_isCall h (fun _ => rfl)) no
  · rename_i f hcal
    simp only [Option.map_eq_some_iff] at h
    obtain ⟨xs, hx, rfl⟩ := h
    exact .inl ⟨f, xs, rfl, hcal, hx⟩
  · rename_i t hcal
    simp only [Option.map_eq_some_iff] at h
    obtain ⟨xs, hx, rfl⟩ := h
    exact .inr ⟨t, xs, rfl, hcal, hx⟩
  · cases h

/-- One operation. -/
theorem stepO_ok {ops : Array Oper} {o : Oper} {c : CO} {s : AS} {a : Act} {w : World} {K : AS → Prop} {K' : Act → World → Prop} (hc : cOper P ops X.n o = some c) (h : Rel X s.den a w) (hpin : X.pin = s.pin) (hs : stepO P c K s)
    (hK : ∀ s' a' w', K s' → s'.pin = s.pin → Rel X s'.den a' w' → K' a' w') : o.wp P a w K' Q := by
  obtain ⟨hq, hdst, hdn, hst, hns, _⟩ := cOper_eq hc
  have callRule : ∀ (f : Nat) (vs : List V) (d : Nat) (args : Array Value), callQ P f vs s d K → o.dst = some d → (∀ D φ F, RelD X s.den a w D φ F [] → CVs w D vs φ args.toList []) →
      (callable P f = true → (execOp a.eval o).run P w = .ok (.enter f args) w) → o.wp P a w K' Q := by
    intro f vs d args hcall hd hv hr
    rcases hcall with hcall | hcall | hcall
    rotate_left
    rotate_left
    · obtain ⟨M, H0, R, hP, hM, hH, hn0, hall⟩ := hcall
      have hlen : H0.length = M.length := by
        have := congrArg List.length hH
        rw [List.length_map, List.length_map] at this
        exact this.symm
      have hl1 : ∀ l : List Blk, l.length = H0.length → (l.map some).length = M.length := fun l hl => by rw [List.length_map, hl, hlen]
      refine wp_of_call (hr hP.1) ?_
      have := mcallR_ok (k := 6) (d := d) hP h hM hH hn0 hv (hdn d hd) (fun res l hR hl => by
        obtain ⟨hout, hres, hro, hfr, _⟩ := hall res l hR hl
        refine ⟨hres, hro, fun j blk hj => outOk_get _ j blk hout hj, fun i hi => ?_⟩
        have := AS.fresh_ok (List.all_eq_true.1 hfr i (List.mem_range.2 hi))
        rw [AS.den_wrote s hM (hl1 l hl)] at this
        exact ⟨this.1, by rw [hpin]; exact this.2⟩)
      rw [Array.toArray_toList] at this
      refine this.mono ?_
      rintro e w' ⟨y, res, l, hR, hl, rfl, hrel⟩
      rw [hd]
      exact ⟨y, rfl, hK ((s.wrote M (l.map some)).took d res) _ _ (hall res l hR hl).2.2.2.2 rfl (by rw [AS.den_took, AS.den_wrote s hM (hl1 l hl)]; exact hrel)⟩
    rotate_left
    · obtain ⟨M, H0, res, H1, hP, hM, hH, hn0, hout, hres, hro, hfr, hk⟩ := hcall
      have hlen : H1.length = M.length := by
        have := congrArg List.length hH
        rw [List.length_map, List.length_map] at this
        exact hP.2.1.trans this.symm
      refine wp_of_call (hr hP.1) ?_
      have hfr' : ∀ i, i < (take d 0 res).2.2 → Fresh (s.den.wrote M H1) (d + 1000 * i) ∧ d + 1000 * i ∉ X.pin := fun i hi => by
        have := AS.fresh_ok (List.all_eq_true.1 hfr i (List.mem_range.2 hi))
        rw [AS.den_wrote s hM hlen] at this
        exact ⟨this.1, by rw [hpin]; exact this.2⟩
      have := mcall_ok (k := 6) (d := d) hP h hM hH hn0 (fun j blk hj => (outOk_get H1 j blk hout hj).1) hv (hdn d hd) hres hro (fun j blk hj => (outOk_get H1 j blk hout hj).2) hfr'
      rw [Array.toArray_toList] at this
      refine this.mono ?_
      rintro e w' ⟨y, rfl, hrel⟩
      rw [hd]
      exact ⟨y, rfl, hK ((s.wrote M H1).took d res) _ _ hk rfl (by rw [AS.den_took, AS.den_wrote s hM hlen]; exact hrel)⟩
    obtain ⟨res, hP, hres, hro, hfr, hk⟩ := hcall
    refine wp_of_call (hr hP.1) ?_
    have hfr' : ∀ i, i < (take d 0 res).2.2 → Fresh s.den (d + 1000 * i) ∧ d + 1000 * i ∉ X.pin := fun i hi => by
      have := AS.fresh_ok (List.all_eq_true.1 hfr i (List.mem_range.2 hi))
      exact ⟨this.1, by rw [hpin]; exact this.2⟩
    have := call_ok (k := 6) (d := d) hP h hv (hdn d hd) hres hro hfr'
    rw [Array.toArray_toList] at this
    refine this.mono ?_
    rintro e w' ⟨y, rfl, hrel⟩
    rw [hd]
    exact ⟨y, rfl, hK (s.took d res) _ _ hk rfl (by rw [AS.den_took]; exact hrel)⟩
  unfold stepO at hs
  split at hs
  · -- a call by name
    rename_i f xs hco
    rw [hco] at hq
    obtain ⟨d, hd⟩ := hns (by rw [hco]; rfl)
    rw [hdst, hd] at hs
    obtain ⟨cl, hop⟩ := cOp_isCall hq rfl
    rw [hop] at hq
    rcases cOp_call hq rfl with ⟨f', xs', e, hcal, hx⟩ | ⟨t, xs', e, hcal, hx⟩
    · cases e
      refine callRule f _ d (cl.args.map a.eval) hs hd (cXs_args hx) fun hcb => ?_
      simp [execOp, hop, resolve, hcal, Act.eval, Deferred.ofValue, invoke, callFunc_run hcb]
    · cases e
  · -- a call of a function value
    rename_i x xs hco
    rw [hco] at hq
    obtain ⟨d, hd⟩ := hns (by rw [hco]; rfl)
    rw [hdst, hd] at hs
    obtain ⟨cl, hop⟩ := cOp_isCall hq rfl
    rw [hop] at hq
    rcases cOp_call hq rfl with ⟨f', xs', e, hcal, hx⟩ | ⟨t, xs', e, hcal, hx⟩
    · cases e
    · cases e
      split at hs
      · rename_i f caps hclo
        obtain ⟨D, φ, F, hrel⟩ := h
        have hslot := hrel.slots t
        have hcl : s.den.sl t = .clo f caps := hclo
        rw [hcl] at hslot
        simp only [CV] at hslot
        obtain ⟨ys, hys, _⟩ := hslot
        refine callRule f _ d (cl.args.map a.eval ++ ys) hs hd (fun D φ F hr => ?_) fun hcb => ?_
        · rw [Array.toList_append]
          have h2 := hr.slots t
          rw [hcl, hys] at h2
          simp only [CV] at h2
          obtain ⟨zs, hz, hcv⟩ := h2
          cases hz
          exact CVs_append (cXs_args hx D φ F hr) hcv
        · have he : a.eval (.tmp t) = .func (.func f) #[] ys := hys
          simp [execOp, hop, resolve, hcal, he, Deferred.ofValue, invoke, callFunc_run hcb]
      · exact hs.elim
  · rename_i hno1 hno2
    split at hs
    · rename_i p δ he
      obtain ⟨hp, hfr, hk⟩ := hs
      obtain ⟨D, φ, F, hrel⟩ := h
      have hnew : δ.new.isSome = true → c.d.isSome = true := fun hn => by
        cases hd : c.d with
        | some d => rfl
        | none =>
          rw [hd] at hdst
          cases hst' : isSt c.o with
          | true =>
            -- a store makes nothing
            cases hco : c.o <;> rw [hco] at hst' <;> simp [isSt] at hst'
            rename_i k x y
            rw [hco] at he
            simp only [eff] at he
            unfold vst at he
            split at he
            · split at he
              · split at he
                · split at he
                  · split at he
                    · simp only [Option.some.injEq, Prod.mk.injEq] at he; obtain ⟨_, rfl⟩ := he; cases hn
                    · cases he
                  · cases he
                · cases he
              · cases he
            · cases he
          | false =>
            obtain ⟨d, hd'⟩ := hns hst'
            rw [hd'] at hdst; cases hdst
      have hruns : Runs P o X a w (δ.app o.dst s.den) := by
        refine eff_ok hq hrel hdn hst hns (p := p) ?_ hp fun hn d hd => ?_
        · rw [AS.ev_eq, ← hdst]; exact he
        · have := AS.fresh_ok (hfr hn)
          rw [hdst, hd] at this
          exact ⟨this.1, by rw [hpin]; exact this.2⟩
      refine wp_of_runs hruns fun a' w' hr => hK (s.app c.d δ) a' w' hk (AS.app_pin _ _ _) ?_
      rw [AS.den_app _ _ _ hnew, hdst]; exact hr
    · exact hs.elim
end

section
variable {P : Program} {X : Ctx} {Q : Exit → Act → World → Prop}

omit [GInv] in
theorem yielded_of {ops : Array Oper} {a : Act} {j t : Nat} {v : Bool} (hj : (ops[j]?).bind (·.dst) = some t) (hv : a.tmps.getD t undef = .bool v) : yielded ops a.tmps j = some v := by
  unfold yielded
  rw [hj]
  simp only [Option.bind_some]
  rw [Array.getD_eq_getD_getElem?] at hv
  cases h : a.tmps[t]? with
  | none => rw [h] at hv; simp [undef] at hv
  | some x => rw [h] at hv; simp at hv; simp [hv]

omit [GInv] in
theorem CV_tup0 {w : World} {D : Nat → Prop} {φ : Nat → Option Pl} {x : Value} {f : List Nat} (h : CV w D (.tup []) φ x f) : x = undef := by
  simp only [CV, CVs] at h
  obtain ⟨xs, rfl, h, _⟩ := h
  simp only [undef]
  congr 1
  exact Array.toList_inj.1 h
omit [GInv] in
theorem CV_tup0_mk {w : World} {D : Nat → Prop} {φ : Nat → Option Pl} : CV w D (.tup []) φ undef [] := by
  simp only [CV, CVs]
  exact ⟨#[], by simp [undef]⟩
omit [GInv] in
theorem yielded_undef {ops : Array Oper} {a : Act} {j t : Nat} (hj : (ops[j]?).bind (·.dst) = some t) (hv : a.tmps.getD t undef = undef) : yielded ops a.tmps j = none := by
  unfold yielded
  rw [hj]
  simp only [Option.bind_some]
  rw [Array.getD_eq_getD_getElem?] at hv
  cases h : a.tmps[t]? with
  | none => rfl
  | some x => rw [h] at hv; simp only [Option.getD_some] at hv; subst hv; rfl

theorem wpO_ok {ops : Array Oper} {K : AS → Prop} : ∀ (os : List Oper) (cs : List CO) (s : AS) (a : Act) (w : World), cOpers P ops X.n os = some cs → Rel X s.den a w → X.pin = s.pin → wpO P cs K s →
    (∀ s' a' w', K s' → s'.pin = s.pin → Rel X s'.den a' w' → Q .normal a' w') → wpList P ops Q os a w
  | [], cs, s, a, w, hc, h, hpin, hs, hK => by
    simp only [cOpers, Option.some.injEq] at hc; subst hc
    exact hK s a w hs rfl h
  | o :: os, cs, s, a, w, hc, h, hpin, hs, hK => by
    unfold cOpers at hc
    split at hc
    · rename_i c cs' hco hcs
      simp only [Option.some.injEq] at hc; subst hc
      obtain ⟨_, hdst, _, _, _, hg⟩ := cOper_eq hco
      unfold wpList
      have run : ∀ s1 : AS, s1.den = s.den → s1.pin = s.pin → stepO P c (wpO P cs' K) s1 → o.wp P a w (wpList P ops Q os) Q := fun s1 hd1 hp1 hst =>
        stepO_ok hco (by rw [hd1]; exact h) (by rw [hp1]; exact hpin) hst fun s' a' w' hk hp hr => wpO_ok os cs' s' a' w' hcs hr (by rw [hpin, hp, hp1]) hk fun s2 a2 w2 k2 p2 => hK s2 a2 w2 k2 (by rw [p2, hp, hp1])
      unfold wpO at hs
      rcases hg with ⟨hg1, hg2⟩ | ⟨j, b, t, hg1, hg2, hj⟩
      · rw [hg2] at hs
        rw [if_pos (by simp [Region.wanted, hg1])]
        exact .inl (run s rfl rfl hs)
      · rw [hg2] at hs
        simp only at hs
        split at hs
        · rename_i v hv
          obtain ⟨D, φ, F, hrel⟩ := h
          have hslot := hrel.slots t
          have hv' : s.den.sl t = .v (.bool v) := hv
          rw [hv'] at hslot
          have hy := yielded_of (ops := ops) hj (CV_v hslot)
          by_cases e : v = b
          · rw [if_pos (by simp [Region.wanted, hg1, hy, e])]
            subst e
            exact .inl (run _ (AS.den_same hv) rfl (hs.1 rfl))
          · rw [if_neg (by simp [Region.wanted, hg1, hy, e])]
            have e' : v = !b := by cases v <;> cases b <;> simp_all
            have hds : (s.mark t (.v (.bool !b))).den = s.den := AS.den_same (by rw [hv, e'])
            refine wpO_ok os cs' ((s.mark t (.v (.bool !b))).put c.d (.tup [])) _ w hcs ?_ (by rw [hpin]; cases c.d <;> rfl) (hs.2 e') fun s2 a2 w2 k2 p2 => hK s2 a2 w2 k2 (by rw [p2]; cases c.d <;> rfl)
            refine ⟨D, φ, F, ?_⟩
            rw [hdst]
            cases hd : o.dst with
            | none =>
              have : ((s.mark t (.v (.bool !b))).put none (.tup [])).den = s.den := hds
              rw [this]; exact hrel
            | some d =>
              by_cases hlt : d < X.n
              · have := hrel.put d hlt (.tup []) undef CV_tup0_mk
                have e2 : ((s.mark t (.v (.bool !b))).put (some d) (.tup [])).den = { s.den with sl := upd s.den.sl d (.tup []) } := by
                  rw [← hds]; simp only [AS.put, AS.den, lk_cons]
                rw [e2]; exact this
              · exact absurd ((cOper_eq hco).2.2.1 d hd) hlt
        · rename_i hv
          obtain ⟨D, φ, F, hrel⟩ := h
          have hslot := hrel.slots t
          have hv' : s.den.sl t = .tup [] := hv
          rw [hv'] at hslot
          have hy := yielded_undef (ops := ops) hj (CV_tup0 hslot)
          rw [if_neg (by simp [Region.wanted, hg1, hy])]
          refine wpO_ok os cs' (s.put c.d (.tup [])) _ w hcs ?_ (by rw [hpin]; cases c.d <;> rfl) hs fun s2 a2 w2 k2 p2 => hK s2 a2 w2 k2 (by rw [p2]; cases c.d <;> rfl)
          refine ⟨D, φ, F, ?_⟩
          rw [hdst]
          cases hd : o.dst with
          | none => exact hrel
          | some d =>
            by_cases hlt : d < X.n
            · have := hrel.put d hlt (.tup []) undef CV_tup0_mk
              have e2 : (s.put (some d) (.tup [])).den = { s.den with sl := upd s.den.sl d (.tup []) } := by
                simp only [AS.put, AS.den, lk_cons]
              rw [e2]; exact this
            · exact absurd ((cOper_eq hco).2.2.1 d hd) hlt
        · exact hs.elim
    · cases hc
end

end Go.Abs
