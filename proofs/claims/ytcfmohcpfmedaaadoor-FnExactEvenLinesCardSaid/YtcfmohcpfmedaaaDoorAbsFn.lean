/- The abstract layer, part 12: code, loops, whole functions. -/
import Derived.Test.YtcfmohcpfmedaaaDoorAbsDraw2
set_option linter.unusedVariables false
set_option linter.unusedSimpArgs false
namespace Go.Abs
variable [GInv]

/-! ### Statements whose order is open -/

def tchA (c : CO) (s : AS) : List Nat := (xsO c.o).flatMap fun x => idsV (s.ev x)

def callD (P : Program) (f : Nat) (vs : List V) (s : AS) (d : Nat) (c : CO) (i : Nat) (next : It → AS → Prop) : Prop :=
  ∃ res, PCall P f (vs.map (borrow (lkb s.hp) 6)) res ∧ resOk res = true ∧ (noRo res = true ∨ (noIdss vs = true ∧ noOwns vs = true)) ∧ noOwns vs = true ∧
    (idsVs vs).all (fun id => match lkb s.hp id with | some b => deeps b.es | none => true) = true ∧ next ⟨c, trTake d res, i, tchA c s⟩ (s.took d res)

def stepD (P : Program) (c : CO) (i : Nat) (s : AS) (next : It → AS → Prop) : Prop :=
  match c.o with
  | .call f xs => ∃ d, c.d = some d ∧ callD P f (xs.map s.ev) s d c i next
  | .callv x xs => ∃ d, c.d = some d ∧ match s.ev x with
    | .clo f caps => callD P f (xs.map s.ev ++ caps) s d c i next
    | _ => False
  | o => match eff s.ev (lkb s.hp) (c.d.getD 0) o with
    | some (p, δ) => p ∧ (δ.new.isSome = true → c.d.isSome = true) ∧ next ⟨c, trOf δ c.d, i, tchA c s⟩ (s.app c.d δ)
    | none => False

def andThenD (f : List It → AS → Prop) (acc : List It) (it : It) (s : AS) : Prop := f (acc ++ [it]) s

def wpD (P : Program) (pl : List (List Nat)) (s0 : AS) (K : AS → Prop) : List CO → Nat → List It → AS → Prop
  | [], _, acc, s => indep pl acc = true ∧ (acc.all fun e => e.tr.news.all s0.fresh) = true ∧ K s
  | c :: cs, i, acc, s => match c.g with
    | none => stepD P c i s (andThenD (wpD P pl s0 K cs (i + 1)) acc)
    | some (t, b) => match lk s.sl t with
      | .v (.bool v) => (v = b → stepD P c i (s.mark t (.v (.bool b))) (andThenD (wpD P pl s0 K cs (i + 1)) acc)) ∧
          (v = !b → wpD P pl s0 K cs (i + 1) (acc ++ [⟨c, ⟨.tup [], [], []⟩, i, tchA c s⟩]) ((s.mark t (.v (.bool !b))).put c.d (.tup [])))
      | .tup [] => wpD P pl s0 K cs (i + 1) (acc ++ [⟨c, ⟨.tup [], [], []⟩, i, tchA c s⟩]) (s.put c.d (.tup []))
      | _ => False

section
variable {P : Program} {X : Ctx} {Q : Exit → Act → World → Prop}

omit [GInv] in
theorem AS.tch_eq (c : CO) (s : AS) : tch c s.den = tchA c s := by
  unfold tch tchA
  rw [AS.ev_eq]

omit [GInv] in
theorem AS.den_put (s : AS) (d : Option Nat) : (s.put d (.tup [])).den = Tr.ap ⟨.tup [], [], []⟩ d s.den := by
  cases d with
  | none => rfl
  | some d => simp only [AS.put, AS.den, Tr.ap, updo, lk_cons]

theorem wpD_plan {pl : List (List Nat)} {s0 : AS} {K : AS → Prop} : ∀ (cs : List CO) (i : Nat) (acc : List It) (s : AS), wpD P pl s0 K cs i acc s →
    ∃ its s', its.map (·.c) = cs ∧ its.map (·.i) = List.range' i cs.length ∧ steps P s.den its ∧ fin s.den its = s'.den ∧ s'.pin = s.pin ∧ indep pl (acc ++ its) = true ∧ ((acc ++ its).all fun e => e.tr.news.all s0.fresh) = true ∧ K s'
  | [], i, acc, s, h => ⟨[], s, rfl, rfl, trivial, rfl, rfl, by simpa using h.1, by simpa using h.2.1, h.2.2⟩
  | c :: cs, i, acc, s, h => by
    -- one operation, then the rest
    have go : ∀ (tr : Tr) (s1 : AS), ex P c s.den tr → s1.den = tr.ap c.d s.den → s1.pin = s.pin → wpD P pl s0 K cs (i + 1) (acc ++ [⟨c, tr, i, tchA c s⟩]) s1 →
        ∃ its s', its.map (·.c) = c :: cs ∧ its.map (·.i) = List.range' i (c :: cs).length ∧ steps P s.den its ∧ fin s.den its = s'.den ∧ s'.pin = s.pin ∧ indep pl (acc ++ its) = true ∧ ((acc ++ its).all fun e => e.tr.news.all s0.fresh) = true ∧ K s' := by
      intro tr s1 hex hden hpin hw
      obtain ⟨its, s', h1, h2, h3, h4, h5, h6, h7, h8⟩ := wpD_plan cs (i + 1) _ s1 hw
      refine ⟨⟨c, tr, i, tchA c s⟩ :: its, s', by simp [h1], by simp [h2, List.range'_succ], ⟨hex, fun id hid => by rw [AS.tch_eq] at hid; exact hid, ?_⟩, ?_, h5.trans hpin, by simpa using h6, by simpa using h7, h8⟩
      · show steps P (tr.ap c.d s.den) its
        rw [← hden]; exact h3
      · show fin (tr.ap c.d s.den) its = s'.den
        rw [← hden]; exact h4
    have callGo : ∀ (s : AS) (f : Nat) (vs : List V) (d : Nat), c.d = some d → callD P f vs s d c i (andThenD (wpD P pl s0 K cs (i + 1)) acc) →
        ∃ res, callX P f vs s.den d (trTake d res) ∧ wpD P pl s0 K cs (i + 1) (acc ++ [⟨c, trTake d res, i, tchA c s⟩]) (s.took d res) := by
      rintro s f vs d hd ⟨res, h1, h2, h3, h4, h5, h6⟩
      refine ⟨res, ⟨res, h1, h2, h3, rfl, h4, fun id hid b hb => ?_⟩, h6⟩
      have := List.all_eq_true.1 h5 id hid
      have hb' : lkb s.hp id = some b := hb
      rw [hb'] at this
      simpa using this
    have step : ∀ s : AS, (stepD P c i s (andThenD (wpD P pl s0 K cs (i + 1)) acc)) → ∃ tr s1, exec P c s.den tr ∧ s1.den = tr.ap c.d s.den ∧ s1.pin = s.pin ∧ wpD P pl s0 K cs (i + 1) (acc ++ [⟨c, tr, i, tchA c s⟩]) s1 := by
      intro s hs
      unfold stepD at hs
      split at hs
      · rename_i f xs hco
        obtain ⟨d, hd, hs⟩ := hs
        obtain ⟨res, h1, h2⟩ := callGo s f _ d hd hs
        refine ⟨trTake d res, s.took d res, ?_, ?_, rfl, h2⟩
        · unfold exec; rw [hco]; exact ⟨d, hd, by rw [AS.ev_eq]; exact h1⟩
        · rw [AS.den_took, hd, trTake_ap]
      · rename_i x xs hco
        obtain ⟨d, hd, hs⟩ := hs
        split at hs
        · rename_i f caps hclo
          obtain ⟨res, h1, h2⟩ := callGo s f _ d hd hs
          refine ⟨trTake d res, s.took d res, ?_, ?_, rfl, h2⟩
          · unfold exec; rw [hco]; refine ⟨d, hd, ?_⟩
            rw [AS.ev_eq, hclo]; exact h1
          · rw [AS.den_took, hd, trTake_ap]
        · exact hs.elim
      · rename_i hn1 hn2
        split at hs
        · rename_i p δ he
          obtain ⟨hp, hnew, hs⟩ := hs
          refine ⟨trOf δ c.d, s.app c.d δ, ?_, ?_, AS.app_pin _ _ _, hs⟩
          · unfold exec
            split
            · rename_i f xs hco; exact absurd hco (hn1 f xs)
            · rename_i x xs hco; exact absurd hco (hn2 x xs)
            · exact ⟨p, δ, by rw [AS.ev_eq]; exact he, hp, rfl⟩
          · rw [AS.den_app _ _ _ hnew, trOf_ap]
        · exact hs.elim
    unfold wpD at h
    split at h
    · rename_i hg
      obtain ⟨tr, s1, h1, h2, h3, h4⟩ := step s h
      exact go tr s1 (by unfold ex; rw [hg]; exact h1) h2 h3 h4
    · rename_i t b hg
      split at h
      · rename_i v hv
        by_cases e : v = b
        · obtain ⟨tr, s1, h1, h2, h3, h4⟩ := step _ (h.1 e)
          have hds : (s.mark t (.v (.bool b))).den = s.den := AS.den_same (by rw [hv, e])
          have htc : tchA c (s.mark t (.v (.bool b))) = tchA c s := by rw [← AS.tch_eq, hds, AS.tch_eq]
          rw [hds] at h1 h2
          rw [htc] at h4
          exact go tr s1 (by unfold ex; rw [hg]; exact .inl ⟨v, hv, .inl ⟨e, h1⟩⟩) h2 h3 h4
        · have e' : v = !b := by cases v <;> cases b <;> simp_all
          have hds : (s.mark t (.v (.bool !b))).den = s.den := AS.den_same (by rw [hv, e'])
          exact go ⟨.tup [], [], []⟩ _ (by unfold ex; rw [hg]; exact .inl ⟨v, hv, .inr ⟨e, rfl⟩⟩) (by rw [AS.den_put, hds]) (by cases c.d <;> rfl) (h.2 e')
      · rename_i hv
        exact go ⟨.tup [], [], []⟩ _ (by unfold ex; rw [hg]; exact .inr ⟨hv, rfl⟩) (by rw [AS.den_put]) (by cases c.d <;> rfl) h
      · exact h.elim

omit [GInv] in
theorem cOpers_get {ops : Array Oper} {n : Nat} : ∀ (os : List Oper) (cs : List CO), cOpers P ops n os = some cs → cs.length = os.length ∧ ∀ (k : Nat) (c : CO), cs[k]? = some c → ∃ o, os[k]? = some o ∧ cOper P ops n o = some c
  | [], cs, h => by simp only [cOpers, Option.some.injEq] at h; subst h; exact ⟨rfl, by simp⟩
  | o :: os, cs, h => by
    unfold cOpers at h
    split at h
    · rename_i c cs' h1 h2
      simp only [Option.some.injEq] at h; subst h
      obtain ⟨g1, g2⟩ := cOpers_get os cs' h2
      refine ⟨by simp [g1], fun k c' hk => ?_⟩
      cases k with
      | zero => simp at hk; subst hk; exact ⟨o, by simp, h1⟩
      | succ k => simpa using g2 k c' (by simpa using hk)
    · cases h

theorem wpD_ok {ops : Array Oper} {id : Nat} {cs : List CO} {pl : List (List Nat)} {s : AS} {a : Act} {w : World} {K : AS → Prop} (hm : P.follows .mixedOrders = true) (hpl : plOk ops pl = true) (hc : cOpers P ops X.n ops.toList = some cs)
    (h : Rel X s.den a w) (hpin : X.pin = s.pin) (hs : wpD P pl s K cs 0 [] s) (hK : ∀ s' a' w', K s' → s'.pin = s.pin → Rel X s'.den a' w' → Q .normal a' w') : (Code.region id ops true).wp P Q a w := by
  obtain ⟨its, s', h1, h2, h3, h4, h5, h6, h7, h8⟩ := wpD_plan cs 0 [] s hs
  simp only [List.nil_append] at h6 h7
  obtain ⟨g1, g2⟩ := cOpers_get _ _ hc
  have hlen : its.length = ops.size := by
    have := congrArg List.length h1
    rw [List.length_map] at this
    rw [this, g1]; simp
  have plan : Plan P X ops pl its := by
    refine ⟨hlen, fun k e hk => ?_, hpl, h6⟩
    have hc' : cs[k]? = some e.c := by rw [← h1, List.getElem?_map, hk]; rfl
    obtain ⟨o, ho, hco⟩ := g2 k e.c hc'
    refine ⟨?_, o, by simpa using ho, hco⟩
    have hi : (its.map (·.i))[k]? = some e.i := by rw [List.getElem?_map, hk]; rfl
    rw [h2] at hi
    have hlt : k < cs.length := (List.getElem?_eq_some_iff.1 hc').1
    rw [List.getElem?_range' hlt] at hi
    simpa using hi.symm
  have hrem : rem its (Array.replicate ops.size false) = its := by
    refine List.filter_eq_self.2 fun e he => ?_
    obtain ⟨k, hk⟩ := List.mem_iff_getElem?.1 he
    have hi := (plan.at_ k e hk).1
    have hlt : k < ops.size := by have := (List.getElem?_eq_some_iff.1 hk).1; omega
    rw [hi, Array.getD_eq_getD_getElem?]
    simp [hlt]
  obtain ⟨D, φ, F, hrel⟩ := h
  have hrel' : Rel X s.den a { w with drawn := w.drawn + 1 } := by
    have := hrel.grow { w with drawn := w.drawn + 1 } D [] rfl rfl rfl (Nat.le_refl _) (fun _ _ => rfl) (fun _ hb => hb) (fun b hb => ⟨.inl hb, hrel.Dlt b hb⟩) List.nodup_nil (by simp)
    exact ⟨D, φ, F, by simpa using this⟩
  refine wp_region_any hm (any_ok plan ops.size _ s.den a _ (by simp) (by rw [hrem, hlen]) (fun i hi hg => ?_) (by rw [hrem]; exact h3) (fun e he d hd => ?_) hrel' fun a' w' hr => ?_)
  · simp [Array.getD_eq_getD_getElem?, hi] at hg
  · rw [hrem] at he
    have := List.all_eq_true.1 (List.all_eq_true.1 h7 e he) d hd
    have := AS.fresh_ok this
    exact ⟨this.1, by rw [hpin]; exact this.2⟩
  · rw [hrem, h4] at hr
    exact hK s' a' w' h8 h5 hr
end

def plOf (ops : Array Oper) : List (List Nat) :=
  let b := Region.before ops
  (List.range ops.size).map fun i => (List.range ops.size).filter fun j => (b.getD i 0).testBit j

/-- The compact form of code. -/
inductive C where
  | skip
  | reg (cs : List CO) (keep : List Nat)
  | regD (cs : List CO) (pl : List (List Nat)) (keep : List Nat)
  | seq (a b : C)
  | cond (x : X) (a b : C)
  | block (id : Nat) (b : C)
  | loop (b : C)
  | exit (id : Nat)
  | ret
  | wk (b : C)
  | bad
  deriving Inhabited

/-- Live slots; 999999 ahead of them asks for a place where the state may be told anew. -/
def mkReg (ks : List Nat) (c : List Nat → C) : C := match ks with
  | [] => c []
  | k :: l => if k = 999999 then .wk (c l) else c (k :: l)

/-- A region: 'bad' where an operation has no compact form. -/
def compR (P : Program) (n : Nat) (ks : List Nat) (ops : Array Oper) (dr : Bool) : C :=
  if dr = true then
    if P.follows .mixedOrders = true ∧ plOk ops (plOf ops) = true then
      match cOpers P ops n ops.toList with
      | some cs => mkReg ks (.regD cs (plOf ops))
      | none => .bad
    else .bad
  else match cOpers P ops n ops.toList with
    | some cs => mkReg ks (.reg cs)
    | none => .bad

def comp (P : Program) (n : Nat) (ks : Nat → List Nat) : Code → C
  | .skip => .skip
  | .region id ops dr => compR P n (ks id) ops dr
  | .seq a b => .seq (comp P n ks a) (comp P n ks b)
  | .cond x a b => match cX x with
    | some x => .cond x (comp P n ks a) (comp P n ks b)
    | none => .bad
  | .block id b => .block id (comp P n ks b)
  | .loop b => .loop (comp P n ks b)
  | .exit id => .exit id
  | .ret => .ret
  | _ => .bad

def AS.keep (s : AS) (ks : List Nat) : AS := { s with sl := ks.map fun t => (t, lk s.sl t) }

/-- s' says no more than s. -/
def Wk (s s' : AS) : Prop := s'.pin = s.pin ∧ ∀ X a w, X.pin = s.pin → Rel X s.den a w → Rel X s'.den a w

theorem Wk.refl (s : AS) : Wk s s := ⟨rfl, fun _ _ _ _ h => h⟩
theorem Wk.trans {s t u : AS} (h : Wk s t) (h' : Wk t u) : Wk s u := ⟨h'.1.trans h.1, fun X a w hp hr => h'.2 X a w (hp.trans h.1.symm) (h.2 X a w hp hr)⟩

theorem Wk.of_lk {s s' : AS} (hp : s'.pin = s.pin) (h1 : ∀ t, lk s'.sl t = lk s.sl t ∨ lk s'.sl t = .undef) (h2 : ∀ i, lkb s'.hp i = lkb s.hp i ∨ lkb s'.hp i = none) : Wk s s' :=
  ⟨hp, fun X a w _ ⟨D, φ, F, h⟩ => ⟨D, φ, _, h.weaken s'.den h1 h2⟩⟩

omit [GInv] in
theorem lk_keep (l : List (Nat × V)) : ∀ (ks : List Nat) (t : Nat), lk (ks.map fun t => (t, lk l t)) t = lk l t ∨ lk (ks.map fun t => (t, lk l t)) t = .undef
  | [], t => .inr rfl
  | k :: ks, t => by
    simp only [List.map_cons, lk]
    split
    · rename_i e; subst e; exact .inl rfl
    · exact lk_keep l ks t

theorem Wk.keep (s : AS) (ks : List Nat) : Wk s (s.keep ks) := Wk.of_lk rfl (lk_keep s.sl ks) fun _ => .inl rfl

def seqK (K : AS → Prop) (Q : Exit → AS → Prop) : Exit → AS → Prop
  | .normal => K
  | e => Q e
def blockK (id : Nat) (Q : Exit → AS → Prop) : Exit → AS → Prop
  | .exit i => if i = id then Q .normal else Q (.exit i)
  | e => Q e
def keepK (ks : List Nat) (Q : Exit → AS → Prop) (s : AS) : Prop := Q .normal (s.keep ks)
def roundK (I : Nat → AS → Prop) (n : Nat) (Q : Exit → AS → Prop) : Exit → AS → Prop
  | .normal => fun s => ∃ m s', m < n ∧ Wk s s' ∧ I m s'
  | e => Q e
def loopQ (body : (Exit → AS → Prop) → AS → Prop) (Q : Exit → AS → Prop) (s : AS) : Prop :=
  ∃ (I : Nat → AS → Prop) (n : Nat) (s0 : AS), Wk s s0 ∧ I n s0 ∧ ∀ n s, I n s → body (roundK I n Q) s

def wpC (P : Program) : C → (Exit → AS → Prop) → AS → Prop
  | .skip, Q, s => Q .normal s
  | .reg cs ks, Q, s => wpO P cs (keepK ks Q) s
  | .regD cs pl ks, Q, s => wpD P pl s (keepK ks Q) cs 0 [] s
  | .seq a b, Q, s => wpC P a (seqK (wpC P b Q) Q) s
  | .cond x a b, Q, s => match s.ev x with
    | .v (.bool t) => (t = true → wpC P a Q s) ∧ (t = false → wpC P b Q s)
    | _ => False
  | .block id b, Q, s => wpC P b (blockK id Q) s
  | .loop b, Q, s => loopQ (wpC P b) Q s
  | .exit id, Q, s => Q (.exit id) s
  | .ret, Q, s => Q .ret s
  | .wk b, Q, s => ∃ s', Wk s s' ∧ wpC P b Q s'
  | .bad, _, _ => False

theorem wpO_mono {P : Program} {K K' : AS → Prop} (h : ∀ s, K s → K' s) : ∀ (cs : List CO) (s : AS), wpO P cs K s → wpO P cs K' s
  | [], s, hs => h s hs
  | c :: cs, s, hs => by
    have step : ∀ s, stepO P c (wpO P cs K) s → stepO P c (wpO P cs K') s := by
      intro s hs
      have call : ∀ f vs d, callQ P f vs s d (wpO P cs K) → callQ P f vs s d (wpO P cs K') := by
        rintro f vs d (⟨res, h1, h2, h3, h4, h5⟩ | ⟨M, H0, res, H1, h1, h2, h3, h4, h5, h6, h7, h8, h9⟩ | ⟨M, H0, R, h1, h2, h3, h4, h5⟩)
        · exact .inl ⟨res, h1, h2, h3, h4, wpO_mono h cs _ h5⟩
        · exact .inr (.inl ⟨M, H0, res, H1, h1, h2, h3, h4, h5, h6, h7, h8, wpO_mono h cs _ h9⟩)
        · exact .inr (.inr ⟨M, H0, R, h1, h2, h3, h4, fun res l hR hl => by
            obtain ⟨g1, g2, g3, g4, g5⟩ := h5 res l hR hl
            exact ⟨g1, g2, g3, g4, wpO_mono h cs _ g5⟩⟩)
      unfold stepO at hs ⊢
      split at hs
      · exact call _ _ _ hs
      · split at hs
        · exact call _ _ _ hs
        · exact hs.elim
      · split at hs
        · exact ⟨hs.1, hs.2.1, wpO_mono h cs _ hs.2.2⟩
        · exact hs.elim
    unfold wpO at hs ⊢
    split at hs
    · exact step _ hs
    · split at hs
      · exact ⟨fun e => step _ (hs.1 e), fun e => wpO_mono h cs _ (hs.2 e)⟩
      · exact wpO_mono h cs _ hs
      · exact hs.elim

theorem wpD_mono {P : Program} {pl : List (List Nat)} {s0 : AS} {K K' : AS → Prop} (h : ∀ s, K s → K' s) : ∀ (cs : List CO) (i : Nat) (acc : List It) (s : AS), wpD P pl s0 K cs i acc s → wpD P pl s0 K' cs i acc s
  | [], i, acc, s, hs => ⟨hs.1, hs.2.1, h s hs.2.2⟩
  | c :: cs, i, acc, s, hs => by
    have step : ∀ {s : AS} {n1 n2 : It → AS → Prop}, (∀ it s, n1 it s → n2 it s) → stepD P c i s n1 → stepD P c i s n2 := by
      intro s n1 n2 hn hs
      have call : ∀ f vs d, callD P f vs s d c i n1 → callD P f vs s d c i n2 := by
        rintro f vs d ⟨res, h1, h2, h3, h4, h5, h6⟩
        exact ⟨res, h1, h2, h3, h4, h5, hn _ _ h6⟩
      unfold stepD at hs ⊢
      split at hs
      · obtain ⟨d, hd, hs⟩ := hs; exact ⟨d, hd, call _ _ _ hs⟩
      · obtain ⟨d, hd, hs⟩ := hs
        refine ⟨d, hd, ?_⟩
        split at hs
        · exact call _ _ _ hs
        · exact hs.elim
      · split at hs
        · exact ⟨hs.1, hs.2.1, hn _ _ hs.2.2⟩
        · exact hs.elim
    unfold wpD at hs ⊢
    split at hs
    · exact step (fun it s' => wpD_mono h cs _ _ s') hs
    · split at hs
      · exact ⟨fun e => step (fun it s' => wpD_mono h cs _ _ s') (hs.1 e), fun e => wpD_mono h cs _ _ _ (hs.2 e)⟩
      · exact wpD_mono h cs _ _ _ hs
      · exact hs.elim

theorem wpC_mono {P : Program} : ∀ (c : C) {Q Q' : Exit → AS → Prop} (s : AS), (∀ e s, Q e s → Q' e s) → wpC P c Q s → wpC P c Q' s
  | .skip, Q, Q', s, h, hs => h _ _ hs
  | .reg cs ks, Q, Q', s, h, hs => wpO_mono (fun s hs => h _ _ hs) cs s hs
  | .regD cs pl ks, Q, Q', s, h, hs => wpD_mono (fun s hs => h _ _ hs) cs 0 [] s hs
  | .seq a b, Q, Q', s, h, hs => wpC_mono a s (fun e s hs => by
      cases e with
      | normal => exact wpC_mono b s h hs
      | _ => exact h _ _ hs) hs
  | .cond x a b, Q, Q', s, h, hs => by
    unfold wpC at hs ⊢
    split at hs
    · exact ⟨fun e => wpC_mono a s h (hs.1 e), fun e => wpC_mono b s h (hs.2 e)⟩
    · exact hs.elim
  | .block id b, Q, Q', s, h, hs => wpC_mono b s (fun e s hs => by
      cases e with
      | exit i =>
        simp only [blockK] at hs ⊢
        split at hs
        · rename_i e; rw [if_pos e]; exact h _ _ hs
        · rename_i e; rw [if_neg e]; exact h _ _ hs
      | _ => exact h _ _ hs) hs
  | .loop b, Q, Q', s, h, hs => by
    obtain ⟨I, n, s0, h1, h2, h3⟩ := hs
    exact ⟨I, n, s0, h1, h2, fun n s hi => wpC_mono b s (fun e s hs => by
      cases e with
      | normal => exact hs
      | _ => exact h _ _ hs) (h3 n s hi)⟩
  | .exit id, Q, Q', s, h, hs => h _ _ hs
  | .ret, Q, Q', s, h, hs => h _ _ hs
  | .wk b, Q, Q', s, h, ⟨s', h1, h2⟩ => ⟨s', h1, wpC_mono b s' h h2⟩
  | .bad, Q, Q', s, h, hs => hs.elim

section
variable {P : Program} {X : Ctx}

/-- What is asked of the machine behind the code. -/
def Post (X : Ctx) (Q : Exit → AS → Prop) : Exit → Act → World → Prop := fun e a w => ∃ s, Rel X s.den a w ∧ X.pin = s.pin ∧ Q e s

theorem mkReg_wk {ks : List Nat} {f : List Nat → C} {Q : Exit → AS → Prop} {s : AS} (h : wpC P (mkReg ks f) Q s) : ∃ s' ks', Wk s s' ∧ wpC P (f ks') Q s' := by
  unfold mkReg at h
  split at h
  · exact ⟨s, _, Wk.refl s, h⟩
  · split at h
    · obtain ⟨s', h1, h2⟩ := h; exact ⟨s', _, h1, h2⟩
    · exact ⟨s, _, Wk.refl s, h⟩

theorem wpC_ok {ks : Nat → List Nat} : ∀ (code : Code) {Q : Exit → AS → Prop} (s : AS) (a : Act) (w : World), Rel X s.den a w → X.pin = s.pin → wpC P (comp P X.n ks code) Q s → code.wp P (Post X Q) a w
  | .skip, Q, s, a, w, h, hpin, hs => wp_skip ⟨s, h, hpin, hs⟩
  | .region id ops dr, Q, s, a, w, h, hpin, hs => by
    simp only [comp, compR] at hs
    cases dr with
    | true =>
      simp only [if_true] at hs
      split at hs
      · rename_i hcond
        split at hs
        · rename_i cs hcs
          obtain ⟨s1, ks', hwk, hs⟩ := mkReg_wk hs
          have h := hwk.2 X a w hpin h
          have hpin : X.pin = s1.pin := by rw [hpin, hwk.1]
          exact wpD_ok hcond.1 hcond.2 hcs h hpin hs fun s' a' w' hk hp hr => ⟨s'.keep ks', (Wk.keep s' ks').2 X a' w' (by rw [hpin, hp]) hr, by rw [hpin, ← hp]; rfl, hk⟩
        · exact hs.elim
      · exact hs.elim
    | false =>
      simp only [Bool.false_eq_true, if_false] at hs
      split at hs
      · rename_i cs hcs
        obtain ⟨s1, ks', hwk, hs⟩ := mkReg_wk hs
        have h := hwk.2 X a w hpin h
        have hpin : X.pin = s1.pin := by rw [hpin, hwk.1]
        exact wp_region_list (wpO_ok _ cs s1 a w hcs h hpin hs fun s' a' w' hk hp hr => ⟨s'.keep ks', (Wk.keep s' ks').2 X a' w' (by rw [hpin, hp]) hr, by rw [hpin, ← hp]; rfl, hk⟩)
      · exact hs.elim
  | .seq x y, Q, s, a, w, h, hpin, hs => by
    simp only [comp] at hs
    refine wp_seq (wp_mono (wpC_ok x s a w h hpin hs) fun e a' w' hq => ?_)
    obtain ⟨s', hr, hp, hq⟩ := hq
    cases e with
    | normal => exact wpC_ok y s' a' w' hr hp hq
    | _ => exact ⟨s', hr, hp, hq⟩
  | .cond x y z, Q, s, a, w, h, hpin, hs => by
    simp only [comp] at hs
    split at hs
    · rename_i cx hx
      unfold wpC at hs
      split at hs
      · rename_i t ht
        obtain ⟨D, φ, F, hrel⟩ := h
        have hcv := cX_ok hx hrel
        rw [AS.ev_eq, ht] at hcv
        refine wp_cond_split (CV_v hcv) (fun e => wpC_ok y s a w ⟨D, φ, F, hrel⟩ hpin (hs.1 e)) (fun e => wpC_ok z s a w ⟨D, φ, F, hrel⟩ hpin (hs.2 e))
      · exact hs.elim
    · exact hs.elim
  | .block id b, Q, s, a, w, h, hpin, hs => by
    simp only [comp] at hs
    refine wp_block (wp_mono (wpC_ok b s a w h hpin hs) fun e a' w' hq => ?_)
    obtain ⟨s', hr, hp, hq⟩ := hq
    cases e with
    | exit i =>
      simp only [Exit.inBlock, blockK] at hq ⊢
      split at hq
      · rename_i e; rw [if_pos e]; exact ⟨s', hr, hp, hq⟩
      · rename_i e; rw [if_neg e]; exact ⟨s', hr, hp, hq⟩
    | _ => exact ⟨s', hr, hp, hq⟩
  | .loop b, Q, s, a, w, h, hpin, hs => by
    simp only [comp] at hs
    obtain ⟨I, n, s0, hw0, hi0, hround⟩ := hs
    intro fb k cs
    have key : ∀ n s0 a w, Rel X s0.den a w → X.pin = s0.pin → I n s0 → ∃ e a' w', Post X Q e a' w' ∧ Arrives P (lone (fb.at a (.code b :: .inLoop b :: k)) cs w) fb k cs e a' w' := by
      intro n
      induction n using Nat.strongRecOn with
      | _ n ih =>
        intro s0 a w hr hp hi
        obtain ⟨e, a1, w1, ⟨s1, hr1, hp1, hq1⟩, harr⟩ := wpC_ok b s0 a w hr hp (hround n s0 hi) fb (.inLoop b :: k) cs
        cases e with
        | normal =>
          obtain ⟨m, s2, hlt, hwk, hi2⟩ := hq1
          obtain ⟨e2, a2, w2, hq2, harr2⟩ := ih m hlt s2 a1 w1 (hwk.2 X a1 w1 hp1 hr1) (by rw [hp1, hwk.1]) hi2
          exact ⟨e2, a2, w2, hq2, .of_steps (Steps.trans harr (.one step_inLoop)) harr2⟩
        | exit id => exact ⟨_, a1, w1, ⟨s1, hr1, hp1, hq1⟩, .pass (x := .inLoop b) rfl (fun _ _ => .inl (by simp)) harr⟩
        | goto l => exact ⟨_, a1, w1, ⟨s1, hr1, hp1, hq1⟩, .pass (x := .inLoop b) rfl (fun _ _ => .inl (by simp)) harr⟩
        | ret => exact ⟨_, a1, w1, ⟨s1, hr1, hp1, hq1⟩, .pass (x := .inLoop b) rfl (fun _ _ => .inl (by simp)) harr⟩
        | panic ch => exact ⟨_, a1, w1, ⟨s1, hr1, hp1, hq1⟩, .pass (x := .inLoop b) rfl (fun _ _ => .inl (by simp)) harr⟩
        | outgrown => exact ⟨_, a1, w1, ⟨s1, hr1, hp1, hq1⟩, .pass (x := .inLoop b) rfl (fun _ _ => .inl (by simp)) harr⟩
    obtain ⟨e, a', w', hq, harr⟩ := key n s0 a w (hw0.2 X a w hpin h) (by rw [hpin, hw0.1]) hi0
    exact ⟨e, a', w', hq, .of_steps (.one step_loop) harr⟩
  | .exit id, Q, s, a, w, h, hpin, hs => wp_exit ⟨s, h, hpin, hs⟩
  | .ret, Q, s, a, w, h, hpin, hs => wp_ret ⟨s, h, hpin, hs⟩
  | .rangeFunc _ _ _ _, Q, s, a, w, h, hpin, hs => by simp only [comp] at hs; exact hs.elim
  | .scope _, Q, s, a, w, h, hpin, hs => by simp only [comp] at hs; exact hs.elim
  | .label _, Q, s, a, w, h, hpin, hs => by simp only [comp] at hs; exact hs.elim
  | .goto _, Q, s, a, w, h, hpin, hs => by simp only [comp] at hs; exact hs.elim
  | .refuse _, Q, s, a, w, h, hpin, hs => by simp only [comp] at hs; exact hs.elim
end

/-! ### Whole functions -/

/-- Where a function's results lie. -/
inductive RV where
  | tmp (t : Nat)
  | cell (t : Nat) (agg : Bool) (n : Nat)
  deriving Inhabited

def cRV (P : Program) : List ResultVar → Option (List RV)
  | [] => some []
  | .tmp t :: rs => (cRV P rs).map (.tmp t :: ·)
  | .cell t ty :: rs => match tyOf P ty, cRV P rs with
    | some (b, n), some rs => some (.cell t b n :: rs)
    | _, _ => none

def retV (s : AS) : List RV → Option (List V)
  | [] => some []
  | .tmp t :: rs => (retV s rs).map (lk s.sl t :: ·)
  | .cell t b n :: rs => match vld b n (lkb s.hp) (lk s.sl t), retV s rs with
    | some (_, δ), some vs => some (δ.v :: vs)
    | _, _ => none

/-- One value, or a tuple. -/
def tupV : List V → V
  | [v] => v
  | vs => .tup vs

/-- The function may end so: its results, with the blocks that go out with them, are 'res'. -/
def Ret (rs : List RV) (res : V) (e : Exit) (s : AS) : Prop :=
  (match e with | .normal => True | .ret => True | _ => False) ∧ ∃ vs p ids, retV s rs = some vs ∧ give (lkb s.hp) (tupV vs) = some (p, res, ids) ∧ p ∧ ids.Nodup

section
variable {P : Program} {X : Ctx}

def rvSem (tmps : Array Value) : ResultVar → Sem Value
  | .tmp t => pure (tmps.getD t undef)
  | .cell ad t => do loadVar t (← asAddr (tmps.getD ad undef))

omit [GInv] in
theorem results_eq (fn : Func) (tmps : Array Value) : results fn tmps = (do let vs ← fn.results.mapM (rvSem tmps); pure (if h : vs.size = 1 then vs[0] else .tuple vs)) := by
  unfold results
  congr 1

theorem retV_ok {s : AS} {a : Act} {w : World} {D : Nat → Prop} {φ : Nat → Option Pl} {F : Nat → List Nat} (h : RelD X s.den a w D φ F []) : ∀ (rvs : List ResultVar) (rs : List RV) (vs : List V), cRV P rvs = some rs → retV s rs = some vs →
    ∃ xs, (rvs.mapM (rvSem a.tmps)).run P w = .ok xs w ∧ CVs w D vs φ xs []
  | [], rs, vs, hr, hv => by
    simp only [cRV, Option.some.injEq] at hr; subst hr
    simp only [retV, Option.some.injEq] at hv; subst hv
    exact ⟨[], by simp, CVs_nil⟩
  | .tmp t :: rvs, rs, vs, hr, hv => by
    simp only [cRV, Option.map_eq_some_iff] at hr
    obtain ⟨rs', hr', rfl⟩ := hr
    simp only [retV, Option.map_eq_some_iff] at hv
    obtain ⟨vs', hv', rfl⟩ := hv
    obtain ⟨xs, h1, h2⟩ := retV_ok h rvs rs' vs' hr' hv'
    refine ⟨a.tmps.getD t undef :: xs, ?_, ?_⟩
    · simp only [List.mapM_cons, rvSem, Sem.run_bind, Sem.run_pure, Result.andThen_ok, h1]
    · simp only [CVs]; exact ⟨_, xs, [], [], rfl, rfl, h.slots t, h2⟩
  | .cell t ty :: rvs, rs, vs, hr, hv => by
    simp only [cRV] at hr
    split at hr <;> simp only [Option.some.injEq, reduceCtorEq] at hr
    rename_i b n rs' ht hr'
    subst hr
    simp only [retV] at hv
    split at hv <;> simp only [Option.some.injEq, reduceCtorEq] at hv
    rename_i p δ vs' hld hv'
    subst hv
    obtain ⟨xs, h1, h2⟩ := retV_ok h rvs rs' vs' hr' hv'
    obtain ⟨ad, y, g1, g2, g3, g4⟩ := run_vld (P := P) h ht (h.slots t) hld
    refine ⟨y :: xs, ?_, ?_⟩
    · have ha : (asAddr (a.tmps.getD t undef)).run P w = .ok ad w := by rw [g1]; rfl
      have hb : (rvSem a.tmps (.cell t ty)).run P w = .ok y w := by simp only [rvSem, Sem.run_bind, ha, Result.andThen_ok, g2]
      simp only [List.mapM_cons, Sem.run_bind, hb, Sem.run_pure, Result.andThen_ok, h1]
    · simp only [CVs]; exact ⟨_, xs, [], [], rfl, rfl, g4, h2⟩

/-- The state at a function's entry. -/
def AS.init (args : List V) : AS := { sl := (List.range args.length).zip args, hp := [], pin := [] }

omit [GInv] in
theorem lk_zip : ∀ (args : List V) (k t : Nat), lk ((List.range' k args.length).zip args) t = if k ≤ t then (args[t - k]?).getD .undef else .undef
  | [], k, t => by simp [lk]
  | v :: vs, k, t => by
    simp only [List.length_cons, List.range'_succ, List.zip_cons_cons, lk]
    rw [lk_zip vs (k + 1) t]
    by_cases e : t = k
    · subst e; simp
    · rw [if_neg e]
      by_cases hle : k ≤ t
      · rw [if_pos (by omega), if_pos hle]
        obtain ⟨m, rfl⟩ : ∃ m, t = k + (m + 1) := ⟨t - k - 1, by omega⟩
        rw [show k + (m + 1) - k = m + 1 from by omega, show k + (m + 1) - (k + 1) = m from by omega]
        simp
      · rw [if_neg (by omega), if_neg hle]

omit [GInv] in
theorem AS.lk_init (args : List V) (t : Nat) : lk (AS.init args).sl t = (args[t]?).getD .undef := by
  simp only [AS.init, List.range_eq_range']
  rw [lk_zip]; simp

mutual
/-- What may stand for what: a nil slice for a row without elements. -/
def leV : V → V → Prop
  | .v x, .own _ es => x = .slice none 0 0 ∧ es = []
  | .tup as, .tup bs => leVs as bs
  | .agg as, .agg bs => leVs as bs
  | a, b => a = b
def leVs : List V → List V → Prop
  | [], [] => True
  | a :: as, b :: bs => leV a b ∧ leVs as bs
  | _, _ => False
end
omit [GInv] in
mutual
theorem leV_ok {w : World} {D : Nat → Prop} {φ : Nat → Option Pl} : ∀ (a b : V) (x : Value) (f : List Nat), leV a b → CV w D a φ x f → CV w D b φ x f
  | a, b, x, f, h, hx => by
    unfold leV at h
    split at h
    · simp only [CV] at hx ⊢
      exact .inl ⟨h.2, hx.1.trans h.1, hx.2.2⟩
    · simp only [CV] at hx ⊢
      obtain ⟨xs, rfl, hx⟩ := hx
      exact ⟨xs, rfl, leVs_ok _ _ _ _ h hx⟩
    · simp only [CV] at hx ⊢
      obtain ⟨xs, rfl, hx⟩ := hx
      exact ⟨xs, rfl, leVs_ok _ _ _ _ h hx⟩
    · rw [← h]; exact hx
theorem leVs_ok {w : World} {D : Nat → Prop} {φ : Nat → Option Pl} : ∀ (as bs : List V) (xs : List Value) (f : List Nat), leVs as bs → CVs w D as φ xs f → CVs w D bs φ xs f
  | [], [], xs, f, _, hx => hx
  | a :: as, b :: bs, xs, f, h, hx => by
    simp only [leVs] at h
    simp only [CVs] at hx ⊢
    obtain ⟨x, xs', f1, f2, rfl, rfl, h1, h2⟩ := hx
    exact ⟨x, xs', f1, f2, rfl, rfl, leV_ok a b x f1 h.1 h1, leVs_ok as bs xs' f2 h.2 h2⟩
  | [], _ :: _, _, _, h, _ => by simp [leVs] at h
  | _ :: _, [], _, _, h, _ => by simp [leVs] at h
end
/-- The function may end so: what it returns may stand for 'res'. -/
def RetL (rs : List RV) (res : V) (e : Exit) (s : AS) : Prop :=
  (match e with | .normal => True | .ret => True | _ => False) ∧ ∃ vs p r ids, retV s rs = some vs ∧ give (lkb s.hp) (tupV vs) = some (p, r, ids) ∧ p ∧ ids.Nodup ∧ leV r res

/-- A function's contract, from what must hold of the abstract state at its entry. -/
theorem PCall.introL {f : Nat} {fn : Func} {code : Code} {c : C} {rs : List RV} {ks : Nat → List Nat} {args : List V} {res : V} (hf : P.funcs[f]? = some fn) (hb : fn.body = some code) (hname : (fn.name != "runtime.NumGoroutine") = true)
    (hc : comp P fn.ntmps ks code = c) (hr : cRV P fn.results.toList = some rs) (hlen : args.length ≤ fn.ntmps) (h : wpC P c (RetL rs res) (AS.init args)) : PCall P f args res := by
  refine ⟨by simp [callable, hf, hb, hname], fun w D xs hD hgi hxs => ?_⟩
  have hl := CVs_length hxs
  let X : Ctx := { w0 := w, W := [], D0 := D, φ0 := fun _ => none, pin := [], n := fn.ntmps }
  have hrel : RelD X (AS.init args).den { tmps := xs.toArray ++ Array.replicate (fn.ntmps - xs.toArray.size) undef, defers := [] } w D (fun _ => none) (fun _ => []) [] := by
    refine ⟨rfl, rfl, rfl, Nat.le_refl _, fun _ _ _ => rfl, fun _ h => h, fun _ h => .inl h, hD, rfl, ?_, fun t => ?_, fun id blk hb => ?_, fun _ _ => rfl, fun _ => List.nodup_nil, fun _ _ _ _ h => absurd h List.not_mem_nil, fun _ _ h => absurd h List.not_mem_nil, fun _ h => absurd h List.not_mem_nil, List.nodup_nil, fun _ _ h => absurd h List.not_mem_nil, fun _ h => absurd h List.not_mem_nil, hgi⟩
    · show (xs.toArray ++ Array.replicate (fn.ntmps - xs.toArray.size) undef).size = fn.ntmps
      simp; omega
    · show CV w D (lk (AS.init args).sl t) _ _ []
      rw [AS.lk_init]
      cases ht : args[t]? with
      | none => simp [CV]
      | some v =>
        obtain ⟨x, f', g1, g2, g3⟩ := CVs_get hxs ht
        have := eq_nil_of_sub g3
        subst this
        simp only [Option.getD_some]
        have hlt : t < xs.length := (List.getElem?_eq_some_iff.1 g1).1
        have : (xs.toArray ++ Array.replicate (fn.ntmps - xs.toArray.size) undef).getD t undef = x := by
          rw [Array.getD_eq_getD_getElem?, Array.getElem?_append_left (by simpa using hlt)]
          simp [g1]
        rw [this]; exact g2
    · simp [AS.init, AS.den, lkb] at hb
  refine calls_of_wp hf hb ?_
  refine wp_mono (wpC_ok (X := X) (ks := ks) code (AS.init args) _ w ⟨D, _, _, hrel⟩ rfl (by rw [hc]; exact h)) fun e a w' hq => ?_
  obtain ⟨s', ⟨D', φ', F', hrel'⟩, _, hexit, vs, p, r, ids, h1, h2, h3, h4, hle⟩ := hq
  obtain ⟨ys, hrun, hcv⟩ := retV_ok (P := P) hrel' fn.results.toList rs vs hr h1
  have hres : (results fn a.tmps).run P w' = .ok (if h : ys.toArray.size = 1 then ys.toArray[0] else .tuple ys.toArray) w' := by
    rw [results_eq, Array.mapM_eq_mapM_toList]
    simp only [Sem.run_bind, Sem.run_map, hrun, Result.andThen_ok, Sem.run_pure]
  have hcv1 : CV w' D' (tupV vs) φ' (if h : ys.toArray.size = 1 then ys.toArray[0] else .tuple ys.toArray) [] := by
    have hl' := CVs_length hcv
    match vs, ys, hcv, hl' with
    | [v], [y], hcv, _ =>
      simp only [CVs] at hcv
      obtain ⟨x, xs', f1, f2, e, hf, g1, _⟩ := hcv
      have hf := List.append_eq_nil_iff.1 hf.symm
      obtain ⟨rfl, rfl⟩ := hf
      cases e
      simpa [tupV] using g1
    | [], [], hcv, _ => simp only [tupV, CV]; exact ⟨#[], by simp, CVs_nil⟩
    | v1 :: v2 :: vs, y1 :: y2 :: ys, hcv, _ =>
      simp only [tupV, CV]
      exact ⟨(y1 :: y2 :: ys).toArray, by simp, by simpa using hcv⟩
  have hgive := leV_ok _ _ _ _ hle (give_ok (F := F') hrel'.blks (tupV vs) _ p r ids h2 h3 hcv1)
  have done : a.defers = [] ∧ ∃ v, (results fn a.tmps).run P w' = .ok v w' ∧ ∃ y D'' fp, Ending.returned v = .returned y ∧ Grow w D [] w' D'' ∧ CV w' D'' res (fun _ => none) y fp ∧ fp.Nodup ∧ ∀ b, b ∈ fp → w.heap.size ≤ b ∧ b < w'.heap.size ∧ ¬ D'' b := by
    refine ⟨hrel'.defers, _, hres, _, D', _, rfl, ⟨hrel'.os, hrel'.tape, hrel'.output, hrel'.size, fun b hb _ => hrel'.old b hb (by simp [X]), hrel'.Dup, hrel'.Ddn, hrel'.Dlt⟩, hgive, flatMap_nodup hrel' ids h4, fun b hb => ?_⟩
    obtain ⟨i, _, hi⟩ := List.mem_flatMap.1 hb
    have := hrel'.notD i b hi
    exact ⟨this.2.2.resolve_right (by simp [X]), this.2.1, this.1⟩
  cases e with
  | normal => exact done
  | ret => exact done
  | _ => exact hexit.elim

omit [GInv] in
theorem leV_refl (a : V) : leV a a := by
  induction a using V.rec (motive_2 := fun l => leVs l l) with
  | undef | v _ | ref _ _ _ | sl _ _ _ | rp _ _ _ _ | ro _ _ | own _ _ | clo _ _ => simp [leV]
  | agg _ h => simpa [leV] using h
  | tup _ h => simpa [leV] using h
  | nil => simp [leVs]
  | cons a l h1 h2 => exact ⟨h1, h2⟩

theorem PCall.intro {f : Nat} {fn : Func} {code : Code} {c : C} {rs : List RV} {ks : Nat → List Nat} {args : List V} {res : V} (hf : P.funcs[f]? = some fn) (hb : fn.body = some code) (hname : (fn.name != "runtime.NumGoroutine") = true)
    (hc : comp P fn.ntmps ks code = c) (hr : cRV P fn.results.toList = some rs) (hlen : args.length ≤ fn.ntmps) (h : wpC P c (Ret rs res) (AS.init args)) : PCall P f args res :=
  PCall.introL hf hb hname hc hr hlen (wpC_mono c _ (fun e s ⟨h0, vs, p, ids, h1, h2, h3, h4⟩ => ⟨h0, vs, p, res, ids, h1, h2, h3, h4, leV_refl res⟩) h)

/-! ### Functions that write what they are handed -/

def hpM : Nat → List Blk → List (Nat × Blk)
  | _, [] => []
  | k, b :: l => (mid k, b) :: hpM (k + 1) l

def AS.minit (args : List V) (H0 : List Blk) (H1 : List (Option Blk)) : AS := { sl := (List.range args.length).zip args, hp := hpM 0 H0, pin := (stayK H1 0).map mid }

omit [GInv] in
theorem mid_inj {a b : Nat} (h : mid a = mid b) : a = b := by unfold mid at h; omega

omit [GInv] in
theorem lkb_hpM : ∀ (l : List Blk) (k id : Nat) (blk : Blk), lkb (hpM k l) id = some blk → ∃ j, id = mid (k + j) ∧ l[j]? = some blk
  | [], k, id, blk, h => by simp [hpM, lkb] at h
  | b :: l, k, id, blk, h => by
    simp only [hpM, lkb] at h
    split at h
    · rename_i e; simp only [Option.some.injEq] at h; subst h; exact ⟨0, e, rfl⟩
    · obtain ⟨j, h1, h2⟩ := lkb_hpM l (k + 1) id blk h
      exact ⟨j + 1, by rw [h1]; congr 1; omega, by simpa using h2⟩
omit [GInv] in
theorem lkb_hpM_none : ∀ (l : List Blk) (k id : Nat), lkb (hpM k l) id = none → ∀ j, j < l.length → id ≠ mid (k + j)
  | [], k, id, h, j, hj => by simp at hj
  | b :: l, k, id, h, j, hj => by
    simp only [hpM, lkb] at h
    split at h
    · cases h
    · rename_i e
      cases j with
      | zero => exact e
      | succ j =>
        have := lkb_hpM_none l (k + 1) id h j (by simpa using hj)
        rw [show k + (j + 1) = k + 1 + j from by omega]; exact this

/-- The blocks are as they must be at the end. -/
def stayAll (look : Nat → Option Blk) : List (Option Blk) → Nat → Prop
  | [], _ => True
  | some b :: l, k => look (mid k) = some b ∧ noIdss b.es = true ∧ stayAll look l (k + 1)
  | none :: l, k => stayAll look l (k + 1)

omit [GInv] in
theorem stayAll_get {look : Nat → Option Blk} : ∀ (l : List (Option Blk)) (k j : Nat) (b : Blk), stayAll look l k → l[j]? = some (some b) → look (mid (k + j)) = some b ∧ noIdss b.es = true
  | [], k, j, b, _, h => by simp at h
  | o :: l, k, 0, b, h, hj => by
    simp only [List.getElem?_cons_zero, Option.some.injEq] at hj; subst hj
    exact ⟨h.1, h.2.1⟩
  | some c :: l, k, j + 1, b, h, hj => by
    have := stayAll_get l (k + 1) j b h.2.2 (by simpa using hj)
    rw [show k + (j + 1) = k + 1 + j from by omega]; exact this
  | none :: l, k, j + 1, b, h, hj => by
    have := stayAll_get l (k + 1) j b h (by simpa using hj)
    rw [show k + (j + 1) = k + 1 + j from by omega]; exact this

def MRet (rs : List RV) (res : V) (H1 : List (Option Blk)) (e : Exit) (s : AS) : Prop :=
  (match e with | .normal => True | .ret => True | _ => False) ∧ ∃ vs p ids, retV s rs = some vs ∧ give (lkb s.hp) (tupV vs) = some (p, res, ids) ∧ p ∧ (ids ++ (stayK H1 0).map mid).Nodup ∧ stayAll (lkb s.hp) H1 0

omit [GInv] in
theorem flat_parts {F0 : Nat → List Nat} : ∀ (l : List Nat), l.Nodup → (l.flatMap F0).Nodup → (∀ k, k ∈ l → (F0 k).Nodup) ∧ ∀ k j, k ∈ l → j ∈ l → k ≠ j → ∀ b, b ∈ F0 k → b ∉ F0 j
  | [], _, _ => ⟨fun _ hk => absurd hk List.not_mem_nil, fun _ _ hk => absurd hk List.not_mem_nil⟩
  | m :: l, hnd, hfl => by
    rw [List.nodup_cons] at hnd
    rw [List.flatMap_cons, List.nodup_append] at hfl
    obtain ⟨g1, g2⟩ := flat_parts l hnd.2 hfl.2.1
    refine ⟨fun k hk => ?_, fun k j hk hj hne b hb hb' => ?_⟩
    · rcases List.mem_cons.1 hk with rfl | hk
      · exact hfl.1
      · exact g1 k hk
    · rcases List.mem_cons.1 hk with ek | hk1
      · rcases List.mem_cons.1 hj with ej | hj1
        · exact hne (ek.trans ej.symm)
        · exact hfl.2.2 b (ek ▸ hb) b (List.mem_flatMap.2 ⟨j, hj1, hb'⟩) rfl
      · rcases List.mem_cons.1 hj with ej | hj1
        · exact hfl.2.2 b (ej ▸ hb') b (List.mem_flatMap.2 ⟨k, hk1, hb⟩) rfl
        · exact g2 k j hk1 hj1 hne b hb hb'

/-- The contract of a function that writes, from what must hold of the abstract state at its entry. -/
theorem MCall.intro {f : Nat} {fn : Func} {code : Code} {c : C} {rs : List RV} {ks : Nat → List Nat} {args : List V} {res : V} {H0 : List Blk} {H1 : List (Option Blk)} (hf : P.funcs[f]? = some fn) (hb : fn.body = some code) (hname : (fn.name != "runtime.NumGoroutine") = true)
    (hc : comp P fn.ntmps ks code = c) (hr : cRV P fn.results.toList = some rs) (hlen : args.length ≤ fn.ntmps) (hl1 : H1.length = H0.length) (hn0 : ∀ blk ∈ H0, noIdss blk.es = true) (h : wpC P c (MRet rs res H1) (AS.minit args H0 H1)) : MCall P f H0 args res H1 := by
  refine ⟨by simp [callable, hf, hb, hname], hl1, fun w D xs p0 F0 hD hgi hblk hnd hnD hxs => ?_⟩
  have hl := CVs_length hxs
  let X : Ctx := { w0 := w, W := (List.range H0.length).flatMap F0, D0 := D, φ0 := plM H0.length p0, pin := (stayK H1 0).map mid, n := fn.ntmps }
  have inW : ∀ id b, b ∈ flM H0.length F0 id → b ∈ (List.range H0.length).flatMap F0 := fun id b hb => by
    unfold flM at hb
    split at hb
    · exact List.mem_flatMap.2 ⟨_, List.mem_range.2 (by omega), hb⟩
    · cases hb
  obtain ⟨fp1, fp2⟩ := flat_parts (List.range H0.length) List.nodup_range hnd
  have hrel : RelD X (AS.minit args H0 H1).den { tmps := xs.toArray ++ Array.replicate (fn.ntmps - xs.toArray.size) undef, defers := [] } w D (plM H0.length p0) (flM H0.length F0) [] := by
    refine ⟨rfl, rfl, rfl, Nat.le_refl _, fun _ _ _ => rfl, fun _ h => h, fun _ h => .inl h, hD, rfl, ?_, fun t => ?_, fun id blk hbl => ?_, fun id hid => ?_, fun id => ?_, fun i j hij b hbi hbj => ?_, fun id b hbm => ?_, fun _ _ => rfl, List.nodup_nil, fun _ _ _ h => absurd h List.not_mem_nil, fun _ h => absurd h List.not_mem_nil, hgi⟩
    · show (xs.toArray ++ Array.replicate (fn.ntmps - xs.toArray.size) undef).size = fn.ntmps
      simp; omega
    · show CV w D (lk (AS.init args).sl t) _ _ []
      rw [AS.lk_init]
      cases ht : args[t]? with
      | none => simp [CV]
      | some v =>
        obtain ⟨x, f', g1, g2, g3⟩ := CVs_get hxs ht
        have := eq_nil_of_sub g3
        subst this
        simp only [Option.getD_some]
        have hlt : t < xs.length := (List.getElem?_eq_some_iff.1 g1).1
        have : (xs.toArray ++ Array.replicate (fn.ntmps - xs.toArray.size) undef).getD t undef = x := by
          rw [Array.getD_eq_getD_getElem?, Array.getElem?_append_left (by simpa using hlt)]
          simp [g1]
        rw [this]; exact g2
    · obtain ⟨j, rfl, hj⟩ := lkb_hpM H0 0 id blk hbl
      rw [Nat.zero_add]
      have hlt := (List.getElem?_eq_some_iff.1 hj).1
      rw [flM_mid F0 hlt]
      exact BlkOk_noIds (φ := fun _ => p0 j) (id := 0) (hn0 blk (List.mem_iff_getElem?.2 ⟨j, hj⟩)) (plM_mid p0 hlt) (hblk j blk hj)
    · unfold flM
      split
      · rename_i hin
        have := lkb_hpM_none H0 0 id hid (id - 1000000) (by omega)
        exact absurd (by unfold mid; omega) this
      · rfl
    · unfold flM
      split
      · exact fp1 _ (List.mem_range.2 (by omega))
      · exact List.nodup_nil
    · unfold flM at hbi hbj
      split at hbi
      · split at hbj
        · exact fp2 _ _ (List.mem_range.2 (by omega)) (List.mem_range.2 (by omega)) (by omega) b hbi hbj
        · cases hbj
      · cases hbi
    · have := hnD b (inW id b hbm)
      exact ⟨this.1, this.2, .inr (inW id b hbm)⟩
  refine calls_of_wp hf hb ?_
  refine wp_mono (wpC_ok (X := X) (ks := ks) code (AS.minit args H0 H1) _ w ⟨D, _, _, hrel⟩ rfl (by rw [hc]; exact h)) fun e a w' hq => ?_
  obtain ⟨s', ⟨D', φ', F', hrel'⟩, _, hexit, vs, p, ids, h1, h2, h3, h4, h5⟩ := hq
  obtain ⟨ys, hrun, hcv⟩ := retV_ok (P := P) hrel' fn.results.toList rs vs hr h1
  have hres : (results fn a.tmps).run P w' = .ok (if h : ys.toArray.size = 1 then ys.toArray[0] else .tuple ys.toArray) w' := by
    rw [results_eq, Array.mapM_eq_mapM_toList]
    simp only [Sem.run_bind, Sem.run_map, hrun, Result.andThen_ok, Sem.run_pure]
  have hcv1 : CV w' D' (tupV vs) φ' (if h : ys.toArray.size = 1 then ys.toArray[0] else .tuple ys.toArray) [] := by
    have hl' := CVs_length hcv
    match vs, ys, hcv, hl' with
    | [v], [y], hcv, _ =>
      simp only [CVs] at hcv
      obtain ⟨x, xs', f1, f2, e, hf, g1, _⟩ := hcv
      have hf := List.append_eq_nil_iff.1 hf.symm
      obtain ⟨rfl, rfl⟩ := hf
      cases e
      simpa [tupV] using g1
    | [], [], hcv, _ => simp only [tupV, CV]; exact ⟨#[], by simp, CVs_nil⟩
    | v1 :: v2 :: vs, y1 :: y2 :: ys, hcv, _ =>
      simp only [tupV, CV]
      exact ⟨(y1 :: y2 :: ys).toArray, by simp, by simpa using hcv⟩
  have hgive := give_ok (F := F') hrel'.blks (tupV vs) _ p res ids h2 h3 hcv1
  have hflat : (stayK H1 0).flatMap (fun k => F' (mid k)) = ((stayK H1 0).map mid).flatMap F' := by rw [List.flatMap_map]
  have done : a.defers = [] ∧ ∃ v, (results fn a.tmps).run P w' = .ok v w' ∧ ∃ y D'' fp F1, Ending.returned v = .returned y ∧ Grow w D ((List.range H0.length).flatMap F0) w' D'' ∧ CV w' D'' res (fun _ => none) y fp ∧
      (∀ (k : Nat) (blk : Blk), H1[k]? = some (some blk) → BlkOk w' D'' (fun _ => p0 k) 0 blk (F1 k)) ∧ (fp ++ (stayK H1 0).flatMap F1).Nodup ∧
      ∀ b, b ∈ fp ++ (stayK H1 0).flatMap F1 → (w.heap.size ≤ b ∨ b ∈ (List.range H0.length).flatMap F0) ∧ b < w'.heap.size ∧ ¬ D'' b := by
    refine ⟨hrel'.defers, _, hres, _, D', ids.flatMap F', fun k => F' (mid k), rfl, ⟨hrel'.os, hrel'.tape, hrel'.output, hrel'.size, fun b hb hW => hrel'.old b hb hW, hrel'.Dup, hrel'.Ddn, hrel'.Dlt⟩, hgive, fun k blk hk => ?_, ?_, fun b hb => ?_⟩
    · obtain ⟨g1, g2⟩ := stayAll_get H1 0 k blk h5 hk
      rw [Nat.zero_add] at g1
      have hpin : mid k ∈ X.pin := List.mem_map.2 ⟨k, (mem_stayK H1 0 k).2 ⟨Nat.zero_le _, blk, by simpa using hk⟩, rfl⟩
      have hlt : k < H0.length := by rw [← hl1]; exact (List.getElem?_eq_some_iff.1 hk).1
      have hp := hrel'.pins (mid k) hpin
      exact BlkOk_noIds (φ := φ') (id := mid k) g2 (by rw [hp]; exact (plM_mid p0 hlt).symm) (hrel'.blks (mid k) blk g1)
    · rw [hflat, ← List.flatMap_append]; exact flatMap_nodup hrel' _ h4
    · rw [hflat, ← List.flatMap_append] at hb
      obtain ⟨i, _, hi⟩ := List.mem_flatMap.1 hb
      have := hrel'.notD i b hi
      exact ⟨this.2.2, this.2.1, this.1⟩
  cases e with
  | normal => exact done
  | ret => exact done
  | _ => exact hexit.elim

/-- The blocks that were handed in, as they are at the end. -/
def lookN (look : Nat → Option Blk) : Nat → Nat → Option (List Blk)
  | _, 0 => some []
  | k, n + 1 => match look (mid k), lookN look (k + 1) n with
    | some b, some l => some (b :: l)
    | _, _ => none
omit [GInv] in
theorem lookN_get {look : Nat → Option Blk} : ∀ {n k : Nat} {l : List Blk}, lookN look k n = some l → l.length = n ∧ ∀ (j : Nat) (b : Blk), l[j]? = some b → look (mid (k + j)) = some b
  | 0, k, l, h => by simp only [lookN, Option.some.injEq] at h; subst h; exact ⟨rfl, by simp⟩
  | n + 1, k, l, h => by
    unfold lookN at h
    split at h
    · rename_i b l' h1 h2
      simp only [Option.some.injEq] at h; subst h
      obtain ⟨g1, g2⟩ := lookN_get h2
      refine ⟨by simp [g1], fun j c hj => ?_⟩
      cases j with
      | zero => simp at hj; subst hj; exact h1
      | succ j =>
        have := g2 j c (by simpa using hj)
        rw [show k + (j + 1) = k + 1 + j from by omega]; exact this
    · cases h
def MRetR (rs : List RV) (R : V → List Blk → Prop) (N : Nat) (e : Exit) (s : AS) : Prop :=
  (match e with | .normal => True | .ret => True | _ => False) ∧ ∃ vs p res ids l, retV s rs = some vs ∧ give (lkb s.hp) (tupV vs) = some (p, res, ids) ∧ p ∧ (ids ++ (List.range N).map mid).Nodup ∧ lookN (lkb s.hp) 0 N = some l ∧ (l.all fun b => noIdss b.es) = true ∧ R res l

/-- The same, where only R is told. -/
theorem MCallR.intro {f : Nat} {fn : Func} {code : Code} {c : C} {rs : List RV} {ks : Nat → List Nat} {args : List V} {H0 : List Blk} {R : V → List Blk → Prop} (hf : P.funcs[f]? = some fn) (hb : fn.body = some code) (hname : (fn.name != "runtime.NumGoroutine") = true)
    (hc : comp P fn.ntmps ks code = c) (hr : cRV P fn.results.toList = some rs) (hlen : args.length ≤ fn.ntmps) (hn0 : ∀ blk ∈ H0, noIdss blk.es = true) (h : wpC P c (MRetR rs R H0.length) (AS.minit args H0 (H0.map some))) : MCallR P f H0 args R := by
  refine ⟨by simp [callable, hf, hb, hname], fun w D xs p0 F0 hD hgi hblk hnd hnD hxs => ?_⟩
  have hl := CVs_length hxs
  have hst : stayK (H0.map some) 0 = List.range H0.length := by rw [stayK_some, List.range_eq_range']
  let X : Ctx := { w0 := w, W := (List.range H0.length).flatMap F0, D0 := D, φ0 := plM H0.length p0, pin := (stayK (H0.map some) 0).map mid, n := fn.ntmps }
  have inW : ∀ id b, b ∈ flM H0.length F0 id → b ∈ (List.range H0.length).flatMap F0 := fun id b hb => by
    unfold flM at hb
    split at hb
    · exact List.mem_flatMap.2 ⟨_, List.mem_range.2 (by omega), hb⟩
    · cases hb
  obtain ⟨fp1, fp2⟩ := flat_parts (List.range H0.length) List.nodup_range hnd
  have hrel : RelD X (AS.minit args H0 (H0.map some)).den { tmps := xs.toArray ++ Array.replicate (fn.ntmps - xs.toArray.size) undef, defers := [] } w D (plM H0.length p0) (flM H0.length F0) [] := by
    refine ⟨rfl, rfl, rfl, Nat.le_refl _, fun _ _ _ => rfl, fun _ h => h, fun _ h => .inl h, hD, rfl, ?_, fun t => ?_, fun id blk hbl => ?_, fun id hid => ?_, fun id => ?_, fun i j hij b hbi hbj => ?_, fun id b hbm => ?_, fun _ _ => rfl, List.nodup_nil, fun _ _ _ h => absurd h List.not_mem_nil, fun _ h => absurd h List.not_mem_nil, hgi⟩
    · show (xs.toArray ++ Array.replicate (fn.ntmps - xs.toArray.size) undef).size = fn.ntmps
      simp; omega
    · show CV w D (lk (AS.init args).sl t) _ _ []
      rw [AS.lk_init]
      cases ht : args[t]? with
      | none => simp [CV]
      | some v =>
        obtain ⟨x, f', g1, g2, g3⟩ := CVs_get hxs ht
        have := eq_nil_of_sub g3
        subst this
        simp only [Option.getD_some]
        have hlt : t < xs.length := (List.getElem?_eq_some_iff.1 g1).1
        have : (xs.toArray ++ Array.replicate (fn.ntmps - xs.toArray.size) undef).getD t undef = x := by
          rw [Array.getD_eq_getD_getElem?, Array.getElem?_append_left (by simpa using hlt)]
          simp [g1]
        rw [this]; exact g2
    · obtain ⟨j, rfl, hj⟩ := lkb_hpM H0 0 id blk hbl
      rw [Nat.zero_add]
      have hlt := (List.getElem?_eq_some_iff.1 hj).1
      rw [flM_mid F0 hlt]
      exact BlkOk_noIds (φ := fun _ => p0 j) (id := 0) (hn0 blk (List.mem_iff_getElem?.2 ⟨j, hj⟩)) (plM_mid p0 hlt) (hblk j blk hj)
    · unfold flM
      split
      · rename_i hin
        have := lkb_hpM_none H0 0 id hid (id - 1000000) (by omega)
        exact absurd (by unfold mid; omega) this
      · rfl
    · unfold flM
      split
      · exact fp1 _ (List.mem_range.2 (by omega))
      · exact List.nodup_nil
    · unfold flM at hbi hbj
      split at hbi
      · split at hbj
        · exact fp2 _ _ (List.mem_range.2 (by omega)) (List.mem_range.2 (by omega)) (by omega) b hbi hbj
        · cases hbj
      · cases hbi
    · have := hnD b (inW id b hbm)
      exact ⟨this.1, this.2, .inr (inW id b hbm)⟩
  refine calls_of_wp hf hb ?_
  refine wp_mono (wpC_ok (X := X) (ks := ks) code (AS.minit args H0 (H0.map some)) _ w ⟨D, _, _, hrel⟩ rfl (by rw [hc]; exact h)) fun e a w' hq => ?_
  obtain ⟨s', ⟨D', φ', F', hrel'⟩, _, hexit, vs, p, res, ids, l, h1, h2, h3, h4, hlk, hni, hR⟩ := hq
  obtain ⟨hll, hget⟩ := lookN_get hlk
  obtain ⟨ys, hrun, hcv⟩ := retV_ok (P := P) hrel' fn.results.toList rs vs hr h1
  have hres : (results fn a.tmps).run P w' = .ok (if h : ys.toArray.size = 1 then ys.toArray[0] else .tuple ys.toArray) w' := by
    rw [results_eq, Array.mapM_eq_mapM_toList]
    simp only [Sem.run_bind, Sem.run_map, hrun, Result.andThen_ok, Sem.run_pure]
  have hcv1 : CV w' D' (tupV vs) φ' (if h : ys.toArray.size = 1 then ys.toArray[0] else .tuple ys.toArray) [] := by
    have hl' := CVs_length hcv
    match vs, ys, hcv, hl' with
    | [v], [y], hcv, _ =>
      simp only [CVs] at hcv
      obtain ⟨x, xs', f1, f2, e, hf, g1, _⟩ := hcv
      have hf := List.append_eq_nil_iff.1 hf.symm
      obtain ⟨rfl, rfl⟩ := hf
      cases e
      simpa [tupV] using g1
    | [], [], hcv, _ => simp only [tupV, CV]; exact ⟨#[], by simp, CVs_nil⟩
    | v1 :: v2 :: vs, y1 :: y2 :: ys, hcv, _ =>
      simp only [tupV, CV]
      exact ⟨(y1 :: y2 :: ys).toArray, by simp, by simpa using hcv⟩
  have hgive := give_ok (F := F') hrel'.blks (tupV vs) _ p res ids h2 h3 hcv1
  have hflat : (List.range H0.length).flatMap (fun k => F' (mid k)) = ((List.range H0.length).map mid).flatMap F' := by rw [List.flatMap_map]
  have done : a.defers = [] ∧ ∃ v, (results fn a.tmps).run P w' = .ok v w' ∧ ∃ res l, R res l ∧ l.length = H0.length ∧ ∃ y D'' fp F1, Ending.returned v = .returned y ∧ Grow w D ((List.range H0.length).flatMap F0) w' D'' ∧ CV w' D'' res (fun _ => none) y fp ∧
      (∀ (k : Nat) (blk : Blk), l[k]? = some blk → BlkOk w' D'' (fun _ => p0 k) 0 blk (F1 k)) ∧ (fp ++ (List.range H0.length).flatMap F1).Nodup ∧
      ∀ b, b ∈ fp ++ (List.range H0.length).flatMap F1 → (w.heap.size ≤ b ∨ b ∈ (List.range H0.length).flatMap F0) ∧ b < w'.heap.size ∧ ¬ D'' b := by
    refine ⟨hrel'.defers, _, hres, res, l, hR, hll, _, D', ids.flatMap F', fun k => F' (mid k), rfl, ⟨hrel'.os, hrel'.tape, hrel'.output, hrel'.size, fun b hb hW => hrel'.old b hb hW, hrel'.Dup, hrel'.Ddn, hrel'.Dlt⟩, hgive, fun k blk hk => ?_, ?_, fun b hb => ?_⟩
    · have g1 := hget k blk hk
      rw [Nat.zero_add] at g1
      have hlt : k < H0.length := by rw [← hll]; exact (List.getElem?_eq_some_iff.1 hk).1
      have hpin : mid k ∈ X.pin := List.mem_map.2 ⟨k, by rw [hst]; exact List.mem_range.2 hlt, rfl⟩
      have hp := hrel'.pins (mid k) hpin
      exact BlkOk_noIds (φ := φ') (id := mid k) (List.all_eq_true.1 hni blk (List.mem_iff_getElem?.2 ⟨k, hk⟩)) (by rw [hp]; exact (plM_mid p0 hlt).symm) (hrel'.blks (mid k) blk g1)
    · rw [hflat, ← List.flatMap_append]; exact flatMap_nodup hrel' _ h4
    · rw [hflat, ← List.flatMap_append] at hb
      obtain ⟨i, _, hi⟩ := List.mem_flatMap.1 hb
      have := hrel'.notD i b hi
      exact ⟨this.2.2, this.2.1, this.1⟩
  cases e with
  | normal => exact done
  | ret => exact done
  | _ => exact hexit.elim

/-- Function f of the program has the compact code c, its results lie in rs, it has n slots. -/
def FnC (P : Program) (f : Nat) (c : C) (rs : List RV) (n : Nat) : Prop :=
  ∃ fn code ks, P.funcs[f]? = some fn ∧ fn.body = some code ∧ (fn.name != "runtime.NumGoroutine") = true ∧ comp P fn.ntmps ks code = c ∧ cRV P fn.results.toList = some rs ∧ fn.ntmps = n

theorem PCall.of {f : Nat} {c : C} {rs : List RV} {n : Nat} {args : List V} {res : V} (hf : FnC P f c rs n) (hlen : args.length ≤ n) (h : wpC P c (Ret rs res) (AS.init args)) : PCall P f args res := by
  obtain ⟨fn, code, ks, h1, h2, h3, h4, h5, h6⟩ := hf
  exact PCall.intro h1 h2 h3 h4 h5 (by rw [h6]; exact hlen) h

/-- The same; a nil slice may be returned for a row without elements. -/
theorem PCall.ofN {f : Nat} {c : C} {rs : List RV} {n : Nat} {args : List V} {res : V} (hf : FnC P f c rs n) (hlen : args.length ≤ n) (h : wpC P c (RetL rs res) (AS.init args)) : PCall P f args res := by
  obtain ⟨fn, code, ks, h1, h2, h3, h4, h5, h6⟩ := hf
  exact PCall.introL h1 h2 h3 h4 h5 (by rw [h6]; exact hlen) h

theorem MCallR.of {f : Nat} {c : C} {rs : List RV} {n : Nat} {args : List V} {H0 : List Blk} {R : V → List Blk → Prop} (hf : FnC P f c rs n) (hlen : args.length ≤ n) (hn0 : ∀ blk ∈ H0, noIdss blk.es = true)
    (h : wpC P c (MRetR rs R H0.length) (AS.minit args H0 (H0.map some))) : MCallR P f H0 args R := by
  obtain ⟨fn, code, ks, h1, h2, h3, h4, h5, h6⟩ := hf
  exact MCallR.intro h1 h2 h3 h4 h5 (by rw [h6]; exact hlen) hn0 h

theorem MCall.of {f : Nat} {c : C} {rs : List RV} {n : Nat} {args : List V} {res : V} {H0 : List Blk} {H1 : List (Option Blk)} (hf : FnC P f c rs n) (hlen : args.length ≤ n) (hl1 : H1.length = H0.length) (hn0 : ∀ blk ∈ H0, noIdss blk.es = true)
    (h : wpC P c (MRet rs res H1) (AS.minit args H0 H1)) : MCall P f H0 args res H1 := by
  obtain ⟨fn, code, ks, h1, h2, h3, h4, h5, h6⟩ := hf
  exact MCall.intro h1 h2 h3 h4 h5 (by rw [h6]; exact hlen) hl1 hn0 h
end
end Go.Abs
