/- The abstract layer, part 13: how the simplifier steps through compact code. -/
import Derived.Test.YtaieoaahmmcnmaaAbsFn
namespace Go.Abs

abbrev I (n : Int) : V := .v (.int .i64 n)
abbrev B (b : Bool) : V := .v (.bool b)

attribute [simp] stepO eff AS.ev AS.init lk lkb rmb AS.keep AS.app AS.put AS.wrt AS.del AS.new keepK AS.fresh pure1 pureIf vbin vun retV tupV give gives vidx vlenS ment ments List.range_succ vld ldOf vst stOf viaddr srcOf vapp vslcX vslcL vslcS lohi vfld vmks setPs vbuild setPt vbslice vmmGo vmm vconv sizeV flatV flat1 scal1 isAggV cells? noOwn noOwns noIds noIdss borrow noRo noRos resOk resOks take takes AS.took andThenD stepD

section
variable {P : Program} {K : AS → Prop} {Q : Exit → AS → Prop} {s : AS}

/-- One operation with its guard. -/
def wpG (P : Program) (c : CO) (K : AS → Prop) (s : AS) : Prop := match c.g with
  | none => stepO P c K s
  | some (t, b) => match lk s.sl t with
    | .v (.bool v) => (v = b → stepO P c K (s.put (some t) (.v (.bool b)))) ∧ (v = !b → K ((s.put (some t) (.v (.bool !b))).put c.d .undef))
    | _ => False
attribute [simp] wpG

@[simp] theorem wpO_nil : wpO P [] K s = K s := rfl
@[simp] theorem wpO_cons {c : CO} {cs : List CO} : wpO P (c :: cs) K s = wpG P c (wpO P cs K) s := rfl

def wpDG (P : Program) (c : CO) (i : Nat) (acc : List It) (f : Nat → List It → AS → Prop) (s : AS) : Prop := match c.g with
  | none => stepD P c i s (andThenD (f (i + 1)) acc)
  | some (t, b) => match lk s.sl t with
    | .v (.bool v) => (v = b → stepD P c i (s.put (some t) (.v (.bool b))) (andThenD (f (i + 1)) acc)) ∧
        (v = !b → f (i + 1) (acc ++ [⟨c, ⟨.undef, [], []⟩, i, tchA c s⟩]) ((s.put (some t) (.v (.bool !b))).put c.d .undef))
    | _ => False
attribute [simp] wpDG

def endD (pl : List (List Nat)) (s0 : AS) (acc : List It) : Prop := indep pl acc = true ∧ (acc.all fun e => e.tr.news.all s0.fresh) = true
theorem wpD_nil {pl : List (List Nat)} {s0 : AS} {i : Nat} {acc : List It} : wpD P pl s0 K [] i acc s = (indep pl acc = true ∧ (acc.all fun e => e.tr.news.all s0.fresh) = true ∧ K s) := rfl
@[simp] theorem wpD_end {pl : List (List Nat)} {s0 : AS} {i : Nat} {acc : List It} : wpD P pl s0 K [] i acc s ↔ (endD pl s0 acc ∧ K s) := by rw [wpD_nil, endD, and_assoc]
@[simp] theorem wpD_cons {pl : List (List Nat)} {s0 : AS} {c : CO} {cs : List CO} {i : Nat} {acc : List It} : wpD P pl s0 K (c :: cs) i acc s = wpDG P c i acc (wpD P pl s0 K cs) s := rfl

@[simp] theorem wpC_skip : wpC P .skip Q s = Q .normal s := rfl
@[simp] theorem wpC_reg {cs : List CO} {ks : List Nat} : wpC P (.reg cs ks) Q s = wpO P cs (keepK ks Q) s := rfl
@[simp] theorem wpC_regD {cs : List CO} {pl : List (List Nat)} {ks : List Nat} : wpC P (.regD cs pl ks) Q s = wpD P pl s (keepK ks Q) cs 0 [] s := rfl
@[simp] theorem wpC_seq {a b : C} : wpC P (.seq a b) Q s = wpC P a (seqK (wpC P b Q) Q) s := rfl
@[simp] theorem wpC_block {id : Nat} {b : C} : wpC P (.block id b) Q s = wpC P b (blockK id Q) s := rfl
@[simp] theorem wpC_loop {b : C} : wpC P (.loop b) Q s = loopQ (wpC P b) Q s := rfl
@[simp] theorem wpC_exit {id : Nat} : wpC P (.exit id) Q s = Q (.exit id) s := rfl
@[simp] theorem wpC_ret : wpC P .ret Q s = Q .ret s := rfl
def condK (K K' : AS → Prop) (s : AS) : V → Prop
  | .v (.bool t) => (t = true → K s) ∧ (t = false → K' s)
  | _ => False
attribute [simp] condK
@[simp] theorem wpC_cond {x : X} {a b : C} : wpC P (.cond x a b) Q s ↔ condK (wpC P a Q) (wpC P b Q) s (s.ev x) := Iff.rfl

@[simp] theorem seqK_normal : seqK K Q .normal = K := rfl
@[simp] theorem seqK_ret : seqK K Q .ret = Q .ret := rfl
@[simp] theorem seqK_exit {i : Nat} : seqK K Q (.exit i) = Q (.exit i) := rfl
@[simp] theorem blockK_normal {id : Nat} : blockK id Q .normal = Q .normal := rfl
@[simp] theorem blockK_ret {id : Nat} : blockK id Q .ret = Q .ret := rfl
@[simp] theorem blockK_exit {id i : Nat} : blockK id Q (.exit i) = if i = id then Q .normal else Q (.exit i) := rfl
@[simp] theorem roundK_ret {I : Nat → AS → Prop} {n : Nat} : roundK I n Q .ret = Q .ret := rfl
@[simp] theorem roundK_exit {I : Nat → AS → Prop} {n i : Nat} : roundK I n Q (.exit i) = Q (.exit i) := rfl
@[simp] theorem roundK_normal {I : Nat → AS → Prop} {n : Nat} {s : AS} : roundK I n Q .normal s ↔ ∃ m s', m < n ∧ Wk s s' ∧ I m s' := Iff.rfl
end

theorem callQ_of {P : Program} {f : Nat} {vs : List V} {s : AS} {d : Nat} {K : AS → Prop} {res : V} (h : PCall P f (vs.map (borrow (lkb s.hp) 6)) res)
    (h1 : resOk res = true) (h2 : noRo res = true ∨ (noIdss vs = true ∧ noOwns vs = true)) (h3 : (List.range (take d 0 res).2.2).all (fun i => s.fresh (d + 1000 * i)) = true) (h4 : K (s.took d res)) : callQ P f vs s d K := ⟨res, h, h1, h2, h3, h4⟩

theorem took_v (s : AS) (d : Nat) (x : Value) : s.took d (.v x) = s.put (some d) (.v x) := by simp [AS.took, take, AS.put]

/-- A call that returns one plain value. -/
theorem callQ_v {P : Program} {f : Nat} {vs : List V} {s : AS} {d : Nat} {K : AS → Prop} {x : Value} (h : PCall P f (vs.map (borrow (lkb s.hp) 6)) (.v x)) (h4 : K (s.put (some d) (.v x))) : callQ P f vs s d K :=
  callQ_of h rfl (.inl rfl) (by simp [take]) (by rw [took_v]; exact h4)

def retOk (res : V) : Option (Prop × V × List Nat) → Prop
  | some (p, r, ids) => p ∧ r = res ∧ ids.Nodup
  | none => False
def retOn (look : Nat → Option Blk) (res : V) : Option (List V) → Prop
  | some vs => retOk res (give look (tupV vs))
  | none => False
attribute [simp] retOk retOn

theorem Ret_eq {rs : List RV} {res : V} {s : AS} : (∃ vs p ids, retV s rs = some vs ∧ give (lkb s.hp) (tupV vs) = some (p, res, ids) ∧ p ∧ ids.Nodup) ↔ retOn (lkb s.hp) res (retV s rs) := by
  cases h : retV s rs with
  | none => simp [retOn]
  | some vs =>
    simp only [retOn, Option.some.injEq]
    cases h2 : give (lkb s.hp) (tupV vs) with
    | none =>
      simp only [retOk, iff_false]
      rintro ⟨vs', p, ids, rfl, h3, _⟩; rw [h2] at h3; cases h3
    | some y =>
      obtain ⟨p, r, ids⟩ := y
      simp only [retOk]
      constructor
      · rintro ⟨vs', p', ids', rfl, h3, h4, h5⟩
        rw [h2] at h3; cases h3; exact ⟨h4, rfl, h5⟩
      · rintro ⟨h4, rfl, h5⟩; exact ⟨vs, p, ids, rfl, h2, h4, h5⟩
theorem Ret_ret {rs : List RV} {res : V} {s : AS} : Ret rs res .ret s ↔ retOn (lkb s.hp) res (retV s rs) := by rw [← Ret_eq]; simp [Ret]
theorem Ret_normal {rs : List RV} {res : V} {s : AS} : Ret rs res .normal s ↔ retOn (lkb s.hp) res (retV s rs) := by rw [← Ret_eq]; simp [Ret]
theorem Ret_exit {rs : List RV} {res : V} {s : AS} {i : Nat} : Ret rs res (.exit i) s ↔ False := by simp [Ret]
attribute [simp] Ret_ret Ret_normal Ret_exit

end Go.Abs
