/- The abstract layer, part 13: how the simplifier steps through compact code. -/
import Derived.Test.YtaieoaahmmcnmaaAbsFn
namespace Go.Abs

abbrev I (n : Int) : V := .v (.int .i64 n)
abbrev B (b : Bool) : V := .v (.bool b)

attribute [simp] vlenL AS.ev AS.init lk lkb rmb AS.keep AS.app AS.put AS.wrt AS.del AS.new keepK AS.fresh pure1 pureIf vbin vun retV tupV give gives vidx vlenS ment ments List.range_succ vld ldOf vst stOf viaddr srcOf vapp vslcX vslcL vslcS lohi vfld vmks setPs vbuild setPt vbslice vmmGo vmm vconv sizeV flatV flat1 scal1 isAggV cells? noOwn noOwns noIds noIdss borrow noRo noRos resOk resOks take takes AS.took andThenD

section
variable {P : Program} {K : AS → Prop} {Q : Exit → AS → Prop} {s : AS}

/-- One operation with its guard. -/
def wpG (P : Program) (c : CO) (K : AS → Prop) (s : AS) : Prop := match c.g with
  | none => stepO P c K s
  | some (t, b) => match lk s.sl t with
    | .v (.bool v) => (v = b → stepO P c K (s.put (some t) (.v (.bool b)))) ∧ (v = !b → K ((s.put (some t) (.v (.bool !b))).put c.d .undef))
    | _ => False
attribute [simp] wpG

@[simp] theorem wpO_nil : wpO P [] K s = K s := rfl
@[simp] theorem wpO_cons {c : CO} {cs : List CO} : wpO P (c :: cs) K s = wpG P c (wpO P cs K) s := rfl

def wpDG (P : Program) (c : CO) (i : Nat) (acc : List It) (f : Nat → List It → AS → Prop) (s : AS) : Prop := match c.g with
  | none => stepD P c i s (andThenD (f (i + 1)) acc)
  | some (t, b) => match lk s.sl t with
    | .v (.bool v) => (v = b → stepD P c i (s.put (some t) (.v (.bool b))) (andThenD (f (i + 1)) acc)) ∧
        (v = !b → f (i + 1) (acc ++ [⟨c, ⟨.undef, [], []⟩, i, tchA c s⟩]) ((s.put (some t) (.v (.bool !b))).put c.d .undef))
    | _ => False
attribute [simp] wpDG

def endD (pl : List (List Nat)) (s0 : AS) (acc : List It) : Prop := indep pl acc = true ∧ (acc.all fun e => e.tr.news.all s0.fresh) = true
theorem wpD_nil {pl : List (List Nat)} {s0 : AS} {i : Nat} {acc : List It} : wpD P pl s0 K [] i acc s = (indep pl acc = true ∧ (acc.all fun e => e.tr.news.all s0.fresh) = true ∧ K s) := rfl
@[simp] theorem wpD_end {pl : List (List Nat)} {s0 : AS} {i : Nat} {acc : List It} : wpD P pl s0 K [] i acc s ↔ (endD pl s0 acc ∧ K s) := by rw [wpD_nil, endD, and_assoc]
@[simp] theorem wpD_cons {pl : List (List Nat)} {s0 : AS} {c : CO} {cs : List CO} {i : Nat} {acc : List It} : wpD P pl s0 K (c :: cs) i acc s = wpDG P c i acc (wpD P pl s0 K cs) s := rfl

@[simp] theorem wpC_skip : wpC P .skip Q s = Q .normal s := rfl
@[simp] theorem wpC_reg {cs : List CO} {ks : List Nat} : wpC P (.reg cs ks) Q s = wpO P cs (keepK ks Q) s := rfl
@[simp] theorem wpC_regD {cs : List CO} {pl : List (List Nat)} {ks : List Nat} : wpC P (.regD cs pl ks) Q s = wpD P pl s (keepK ks Q) cs 0 [] s := rfl
@[simp] theorem wpC_seq {a b : C} : wpC P (.seq a b) Q s = wpC P a (seqK (wpC P b Q) Q) s := rfl
@[simp] theorem wpC_block {id : Nat} {b : C} : wpC P (.block id b) Q s = wpC P b (blockK id Q) s := rfl
@[simp] theorem wpC_loop {b : C} : wpC P (.loop b) Q s = loopQ (wpC P b) Q s := rfl
@[simp] theorem wpC_exit {id : Nat} : wpC P (.exit id) Q s = Q (.exit id) s := rfl
@[simp] theorem wpC_ret : wpC P .ret Q s = Q .ret s := rfl
def condK (K K' : AS → Prop) (s : AS) : V → Prop
  | .v (.bool t) => (t = true → K s) ∧ (t = false → K' s)
  | _ => False
attribute [simp] condK
@[simp] theorem wpC_cond {x : X} {a b : C} : wpC P (.cond x a b) Q s ↔ condK (wpC P a Q) (wpC P b Q) s (s.ev x) := Iff.rfl

@[simp] theorem seqK_normal : seqK K Q .normal = K := rfl
@[simp] theorem seqK_ret : seqK K Q .ret = Q .ret := rfl
@[simp] theorem seqK_exit {i : Nat} : seqK K Q (.exit i) = Q (.exit i) := rfl
@[simp] theorem blockK_normal {id : Nat} : blockK id Q .normal = Q .normal := rfl
@[simp] theorem blockK_ret {id : Nat} : blockK id Q .ret = Q .ret := rfl
@[simp] theorem blockK_exit {id i : Nat} : blockK id Q (.exit i) = if i = id then Q .normal else Q (.exit i) := rfl
@[simp] theorem roundK_ret {I : Nat → AS → Prop} {n : Nat} : roundK I n Q .ret = Q .ret := rfl
@[simp] theorem roundK_exit {I : Nat → AS → Prop} {n i : Nat} : roundK I n Q (.exit i) = Q (.exit i) := rfl
@[simp] theorem roundK_normal {I : Nat → AS → Prop} {n : Nat} {s : AS} : roundK I n Q .normal s ↔ ∃ m s', m < n ∧ Wk s s' ∧ I m s' := Iff.rfl
end

/-! ### One operation -/

def pickV (c a b : V) : Option (Prop × Dl) := match c with | .v (.bool t) => pure1 (bif t then a else b) | _ => none
def vbox (n : Nat) (v : V) (d : Nat) : Option (Prop × Dl) := if sizeV v = some n ∧ noOwn v ∧ flatV v then some (True, { v := .ref d 0 0, new := some ⟨n, [v]⟩ }) else none
def vslc (sz : Option Nat) (look : Nat → Option Blk) (x : V) (lo hi : Option V) : Option (Prop × Dl) := match sz with | none => vslcX x lo hi | some s => vslcL s look x lo hi
def vfaddr (off : Nat) (x : V) : Option (Prop × Dl) := match x with | .ref id i j => pure1 (.ref id i (j + off)) | .rp s es i j => pure1 (.rp s es i (j + off)) | _ => none
def vext (i : Nat) (x : V) : Option (Prop × Dl) := match x with | .tup vs => (match vs[i]? with | some v => pure1 v | none => none) | _ => none
def vlen (b : Bool) (x : V) : Option (Prop × Dl) := if b then vlenS x else vlenL x
attribute [simp] pickV vbox vslc vfaddr vext vlen

def frK (s : AS) (d : Nat) : Option Blk → Prop
  | none => True
  | some _ => s.fresh d = true
@[simp] theorem frK_none {s : AS} {d : Nat} : frK s d none ↔ True := Iff.rfl
@[simp] theorem frK_some {s : AS} {d : Nat} {b : Blk} : frK s d (some b) ↔ s.fresh d = true := Iff.rfl

def effK (d : Option Nat) (K : AS → Prop) (s : AS) : Option (Prop × Dl) → Prop
  | some (p, δ) => p ∧ (δ.new.isSome = true → s.fresh (d.getD 0) = true) ∧ K (s.app d δ)
  | none => False
@[simp] theorem effK_some {d : Option Nat} {K : AS → Prop} {s : AS} {p : Prop} {δ : Dl} : effK d K s (some (p, δ)) ↔ p ∧ frK s (d.getD 0) δ.new ∧ K (s.app d δ) := by
  have h : (δ.new.isSome = true → s.fresh (d.getD 0) = true) ↔ frK s (d.getD 0) δ.new := by
    cases δ.new with
    | none => exact ⟨fun _ => trivial, fun _ h => by cases h⟩
    | some b => exact ⟨fun h => h rfl, fun h _ => h⟩
  show (p ∧ (δ.new.isSome = true → s.fresh (d.getD 0) = true) ∧ K (s.app d δ)) ↔ _
  rw [h]
@[simp] theorem effK_ite {d : Option Nat} {K : AS → Prop} {s : AS} {p : Prop} [Decidable p] {x : Option (Prop × Dl)} : effK d K s (if p then x else none) ↔ p ∧ effK d K s x := by
  by_cases h : p <;> simp only [h, if_true, if_false, true_and, false_and] <;> exact Iff.rfl

def effD (c : CO) (i : Nat) (s : AS) (next : It → AS → Prop) : Option (Prop × Dl) → Prop
  | some (p, δ) => p ∧ (δ.new.isSome = true → c.d.isSome = true) ∧ next ⟨c, trOf δ c.d, i, tchA c s⟩ (s.app c.d δ)
  | none => False
@[simp] theorem effD_some {c : CO} {i : Nat} {s : AS} {next : It → AS → Prop} {p : Prop} {δ : Dl} : effD c i s next (some (p, δ)) ↔ p ∧ (δ.new.isSome = true → c.d.isSome = true) ∧ next ⟨c, trOf δ c.d, i, tchA c s⟩ (s.app c.d δ) := Iff.rfl

section
variable {P : Program} {K : AS → Prop} {s : AS} {g : Option (Nat × Bool)} {d : Option Nat} {j : Nat} {next : It → AS → Prop}
@[simp] theorem stepO_mv {x : X} : stepO P ⟨g, d, .mv x⟩ K s ↔ effK d K s (pure1 (s.ev x)) := by
  exact Iff.rfl
@[simp] theorem stepD_mv {x : X} : stepD P ⟨g, d, .mv x⟩ j s next ↔ effD ⟨g, d, .mv x⟩ j s next (pure1 (s.ev x)) := by
  exact Iff.rfl
@[simp] theorem stepO_pick {c a b : X} : stepO P ⟨g, d, .pick c a b⟩ K s ↔ effK d K s (pickV (s.ev c) (s.ev a) (s.ev b)) := by
  exact Iff.rfl
@[simp] theorem stepD_pick {c a b : X} : stepD P ⟨g, d, .pick c a b⟩ j s next ↔ effD ⟨g, d, .pick c a b⟩ j s next (pickV (s.ev c) (s.ev a) (s.ev b)) := by
  exact Iff.rfl
@[simp] theorem stepO_box {n : Nat} {x : X} : stepO P ⟨g, d, .box n x⟩ K s ↔ effK d K s (vbox n (s.ev x) (d.getD 0)) := by
  exact Iff.rfl
@[simp] theorem stepD_box {n : Nat} {x : X} : stepD P ⟨g, d, .box n x⟩ j s next ↔ effD ⟨g, d, .box n x⟩ j s next (vbox n (s.ev x) (d.getD 0)) := by
  exact Iff.rfl
@[simp] theorem stepO_build {z : V} {ps : List (Nat × Nat × X)} : stepO P ⟨g, d, .build z ps⟩ K s ↔ effK d K s (vbuild s.ev z ps) := by
  exact Iff.rfl
@[simp] theorem stepD_build {z : V} {ps : List (Nat × Nat × X)} : stepD P ⟨g, d, .build z ps⟩ j s next ↔ effD ⟨g, d, .build z ps⟩ j s next (vbuild s.ev z ps) := by
  exact Iff.rfl
@[simp] theorem stepO_bslice {sz : Nat} {z : V} {n : Nat} {ps : List (Nat × X)} : stepO P ⟨g, d, .bslice sz z n ps⟩ K s ↔ effK d K s (vbslice s.ev sz z n (d.getD 0) ps) := by
  exact Iff.rfl
@[simp] theorem stepD_bslice {sz : Nat} {z : V} {n : Nat} {ps : List (Nat × X)} : stepD P ⟨g, d, .bslice sz z n ps⟩ j s next ↔ effD ⟨g, d, .bslice sz z n ps⟩ j s next (vbslice s.ev sz z n (d.getD 0) ps) := by
  exact Iff.rfl
@[simp] theorem stepO_ld {b : Bool} {n : Nat} {x : X} : stepO P ⟨g, d, .ld b n x⟩ K s ↔ effK d K s (vld b n (lkb s.hp) (s.ev x)) := by
  exact Iff.rfl
@[simp] theorem stepD_ld {b : Bool} {n : Nat} {x : X} : stepD P ⟨g, d, .ld b n x⟩ j s next ↔ effD ⟨g, d, .ld b n x⟩ j s next (vld b n (lkb s.hp) (s.ev x)) := by
  exact Iff.rfl
@[simp] theorem stepO_st {n : Nat} {a x : X} : stepO P ⟨g, d, .st n a x⟩ K s ↔ effK d K s (vst n (lkb s.hp) (s.ev x) (s.ev a)) := by
  exact Iff.rfl
@[simp] theorem stepD_st {n : Nat} {a x : X} : stepD P ⟨g, d, .st n a x⟩ j s next ↔ effD ⟨g, d, .st n a x⟩ j s next (vst n (lkb s.hp) (s.ev x) (s.ev a)) := by
  exact Iff.rfl
@[simp] theorem stepO_bin {op : BinOp} {k : EqK} {x y : X} : stepO P ⟨g, d, .bin op k x y⟩ K s ↔ effK d K s (vbin op k (s.ev x) (s.ev y)) := by
  exact Iff.rfl
@[simp] theorem stepD_bin {op : BinOp} {k : EqK} {x y : X} : stepD P ⟨g, d, .bin op k x y⟩ j s next ↔ effD ⟨g, d, .bin op k x y⟩ j s next (vbin op k (s.ev x) (s.ev y)) := by
  exact Iff.rfl
@[simp] theorem stepO_un {op : UnOp} {x : X} : stepO P ⟨g, d, .un op x⟩ K s ↔ effK d K s (vun op (s.ev x)) := by
  exact Iff.rfl
@[simp] theorem stepD_un {op : UnOp} {x : X} : stepD P ⟨g, d, .un op x⟩ j s next ↔ effD ⟨g, d, .un op x⟩ j s next (vun op (s.ev x)) := by
  exact Iff.rfl
@[simp] theorem stepO_conv {c : CK} {x : X} : stepO P ⟨g, d, .conv c x⟩ K s ↔ effK d K s (vconv c (lkb s.hp) (s.ev x)) := by
  exact Iff.rfl
@[simp] theorem stepD_conv {c : CK} {x : X} : stepD P ⟨g, d, .conv c x⟩ j s next ↔ effD ⟨g, d, .conv c x⟩ j s next (vconv c (lkb s.hp) (s.ev x)) := by
  exact Iff.rfl
@[simp] theorem stepO_clo {f : Nat} {cs : List X} : stepO P ⟨g, d, .clo f cs⟩ K s ↔ effK d K s (pure1 (.clo f (cs.map s.ev))) := by
  exact Iff.rfl
@[simp] theorem stepD_clo {f : Nat} {cs : List X} : stepD P ⟨g, d, .clo f cs⟩ j s next ↔ effD ⟨g, d, .clo f cs⟩ j s next (pure1 (.clo f (cs.map s.ev))) := by
  exact Iff.rfl
@[simp] theorem stepO_mks {sz : Nat} {z : V} {bytes : Nat} {l c : X} : stepO P ⟨g, d, .mks sz z bytes l c⟩ K s ↔ effK d K s (vmks sz bytes z (d.getD 0) (s.ev l) (s.ev c)) := by
  exact Iff.rfl
@[simp] theorem stepD_mks {sz : Nat} {z : V} {bytes : Nat} {l c : X} : stepD P ⟨g, d, .mks sz z bytes l c⟩ j s next ↔ effD ⟨g, d, .mks sz z bytes l c⟩ j s next (vmks sz bytes z (d.getD 0) (s.ev l) (s.ev c)) := by
  exact Iff.rfl
@[simp] theorem stepO_slc {sz : Option Nat} {x : X} {lo hi : Option X} : stepO P ⟨g, d, .slc sz x lo hi⟩ K s ↔ effK d K s (vslc sz (lkb s.hp) (s.ev x) (lo.map s.ev) (hi.map s.ev)) := by
  cases sz <;> exact Iff.rfl
@[simp] theorem stepD_slc {sz : Option Nat} {x : X} {lo hi : Option X} : stepD P ⟨g, d, .slc sz x lo hi⟩ j s next ↔ effD ⟨g, d, .slc sz x lo hi⟩ j s next (vslc sz (lkb s.hp) (s.ev x) (lo.map s.ev) (hi.map s.ev)) := by
  cases sz <;> exact Iff.rfl
@[simp] theorem stepO_faddr {off : Nat} {x : X} : stepO P ⟨g, d, .faddr off x⟩ K s ↔ effK d K s (vfaddr off (s.ev x)) := by
  exact Iff.rfl
@[simp] theorem stepD_faddr {off : Nat} {x : X} : stepD P ⟨g, d, .faddr off x⟩ j s next ↔ effD ⟨g, d, .faddr off x⟩ j s next (vfaddr off (s.ev x)) := by
  exact Iff.rfl
@[simp] theorem stepO_fld {b : Bool} {off n : Nat} {x : X} : stepO P ⟨g, d, .fld b off n x⟩ K s ↔ effK d K s (vfld b off n (s.ev x)) := by
  exact Iff.rfl
@[simp] theorem stepD_fld {b : Bool} {off n : Nat} {x : X} : stepD P ⟨g, d, .fld b off n x⟩ j s next ↔ effD ⟨g, d, .fld b off n x⟩ j s next (vfld b off n (s.ev x)) := by
  exact Iff.rfl
@[simp] theorem stepO_iaddr {sz : Nat} {x i : X} : stepO P ⟨g, d, .iaddr sz x i⟩ K s ↔ effK d K s (viaddr sz (lkb s.hp) (s.ev x) (s.ev i)) := by
  exact Iff.rfl
@[simp] theorem stepD_iaddr {sz : Nat} {x i : X} : stepD P ⟨g, d, .iaddr sz x i⟩ j s next ↔ effD ⟨g, d, .iaddr sz x i⟩ j s next (viaddr sz (lkb s.hp) (s.ev x) (s.ev i)) := by
  exact Iff.rfl
@[simp] theorem stepO_idx {x i : X} : stepO P ⟨g, d, .idx x i⟩ K s ↔ effK d K s (vidx (s.ev x) (s.ev i)) := by
  exact Iff.rfl
@[simp] theorem stepD_idx {x i : X} : stepD P ⟨g, d, .idx x i⟩ j s next ↔ effD ⟨g, d, .idx x i⟩ j s next (vidx (s.ev x) (s.ev i)) := by
  exact Iff.rfl
@[simp] theorem stepO_ext {x : X} {i : Nat} : stepO P ⟨g, d, .ext x i⟩ K s ↔ effK d K s (vext i (s.ev x)) := by
  exact Iff.rfl
@[simp] theorem stepD_ext {x : X} {i : Nat} : stepD P ⟨g, d, .ext x i⟩ j s next ↔ effD ⟨g, d, .ext x i⟩ j s next (vext i (s.ev x)) := by
  exact Iff.rfl
@[simp] theorem stepO_len {b : Bool} {x : X} : stepO P ⟨g, d, .len b x⟩ K s ↔ effK d K s (vlen b (s.ev x)) := by
  exact Iff.rfl
@[simp] theorem stepD_len {b : Bool} {x : X} : stepD P ⟨g, d, .len b x⟩ j s next ↔ effD ⟨g, d, .len b x⟩ j s next (vlen b (s.ev x)) := by
  exact Iff.rfl
@[simp] theorem stepO_app {sz bytes : Nat} {x y : X} : stepO P ⟨g, d, .app sz bytes x y⟩ K s ↔ effK d K s (vapp sz bytes (lkb s.hp) (d.getD 0) (s.ev y) (s.ev x)) := by
  exact Iff.rfl
@[simp] theorem stepD_app {sz bytes : Nat} {x y : X} : stepD P ⟨g, d, .app sz bytes x y⟩ j s next ↔ effD ⟨g, d, .app sz bytes x y⟩ j s next (vapp sz bytes (lkb s.hp) (d.getD 0) (s.ev y) (s.ev x)) := by
  exact Iff.rfl
@[simp] theorem stepO_mm {b : Bool} {xs : List X} : stepO P ⟨g, d, .mm b xs⟩ K s ↔ effK d K s (vmm b (xs.map s.ev)) := by
  exact Iff.rfl
@[simp] theorem stepD_mm {b : Bool} {xs : List X} : stepD P ⟨g, d, .mm b xs⟩ j s next ↔ effD ⟨g, d, .mm b xs⟩ j s next (vmm b (xs.map s.ev)) := by
  exact Iff.rfl
@[simp] theorem stepO_call {f : Nat} {xs : List X} : stepO P ⟨g, d, .call f xs⟩ K s ↔ callQ P f (xs.map s.ev) s (d.getD 0) K := Iff.rfl
def callvK (P : Program) (d : Nat) (vs : List V) (K : AS → Prop) (s : AS) : V → Prop
  | .clo f caps => callQ P f (vs ++ caps) s d K
  | _ => False
@[simp] theorem callvK_clo {d : Nat} {vs caps : List V} {f : Nat} : callvK P d vs K s (.clo f caps) ↔ callQ P f (vs ++ caps) s d K := Iff.rfl
@[simp] theorem stepO_callv {x : X} {xs : List X} : stepO P ⟨g, d, .callv x xs⟩ K s ↔ callvK P (d.getD 0) (xs.map s.ev) K s (s.ev x) := Iff.rfl
@[simp] theorem stepD_call {f : Nat} {xs : List X} : stepD P ⟨g, d, .call f xs⟩ j s next ↔ ∃ d', d = some d' ∧ callD P f (xs.map s.ev) s d' ⟨g, d, .call f xs⟩ j next := Iff.rfl
end

theorem callQ_of {P : Program} {f : Nat} {vs : List V} {s : AS} {d : Nat} {K : AS → Prop} {res : V} (h : PCall P f (vs.map (borrow (lkb s.hp) 6)) res)
    (h1 : resOk res = true) (h2 : noRo res = true ∨ (noIdss vs = true ∧ noOwns vs = true)) (h3 : (List.range (take d 0 res).2.2).all (fun i => s.fresh (d + 1000 * i)) = true) (h4 : K (s.took d res)) : callQ P f vs s d K := .inl ⟨res, h, h1, h2, h3, h4⟩

theorem took_v (s : AS) (d : Nat) (x : Value) : s.took d (.v x) = s.put (some d) (.v x) := by simp [AS.took, take, AS.put]

/-- A call that returns one plain value. -/
theorem callQ_v {P : Program} {f : Nat} {vs : List V} {s : AS} {d : Nat} {K : AS → Prop} {x : Value} (h : PCall P f (vs.map (borrow (lkb s.hp) 6)) (.v x)) (h4 : K (s.put (some d) (.v x))) : callQ P f vs s d K :=
  callQ_of h rfl (.inl rfl) (by simp [take]) (by rw [took_v]; exact h4)

theorem PCall.arg {P : Program} {f : Nat} {args args' : List V} {res : V} (h : PCall P f args res) (e : args' = args) : PCall P f args' res := by rw [e]; exact h
theorem MCall.arg {P : Program} {f : Nat} {args args' : List V} {res : V} {H0 : List Blk} {H1 : List (Option Blk)} (h : MCall P f H0 args res H1) (e : args' = args) : MCall P f H0 args' res H1 := by rw [e]; exact h

/-- A call in a statement whose order is open. -/
theorem callD_v {P : Program} {f : Nat} {vs : List V} {s : AS} {d i : Nat} {c : CO} {next : It → AS → Prop} {x : Value} (h : PCall P f (vs.map (borrow (lkb s.hp) 6)) (.v x)) (h1 : noOwns vs = true)
    (h2 : (idsVs vs).all (fun id => match lkb s.hp id with | some b => noIdss b.es && noOwns b.es | none => true) = true) (h3 : next ⟨c, trTake d (.v x), i, tchA c s⟩ (s.put (some d) (.v x))) : callD P f vs s d c i next :=
  ⟨.v x, h, rfl, .inl rfl, h1, h2, by rw [took_v]; exact h3⟩
theorem callD_of {P : Program} {f : Nat} {vs : List V} {s : AS} {d i : Nat} {c : CO} {next : It → AS → Prop} {res : V} (h : PCall P f (vs.map (borrow (lkb s.hp) 6)) res) (h0 : resOk res = true) (hr : noRo res = true ∨ (noIdss vs = true ∧ noOwns vs = true)) (h1 : noOwns vs = true)
    (h2 : (idsVs vs).all (fun id => match lkb s.hp id with | some b => noIdss b.es && noOwns b.es | none => true) = true) (h3 : next ⟨c, trTake d res, i, tchA c s⟩ (s.took d res)) : callD P f vs s d c i next :=
  ⟨res, h, h0, hr, h1, h2, h3⟩
attribute [simp] indep ind offSlots Tr.free trOf trTake tchA xsO idsV idsVs rdS

/-- A call that writes blocks and returns one plain value. -/
theorem callQ_m {P : Program} {f : Nat} {vs : List V} {s : AS} {d : Nat} {K : AS → Prop} {x : Value} (M : List Nat) {H0 : List Blk} {H1 : List (Option Blk)} (h : MCall P f H0 (vs.map (lend M (lkb s.hp) 6)) (.v x) H1)
    (h1 : M.Nodup) (h2 : M.map (lkb s.hp) = H0.map some) (h3 : ∀ blk ∈ H0, noIdss blk.es = true) (h4 : outOk H1 = true) (h5 : K ((s.wrote M H1).put (some d) (.v x))) : callQ P f vs s d K :=
  .inr ⟨M, H0, .v x, H1, h, h1, h2, h3, h4, rfl, rfl, by simp [take], by rw [took_v]; exact h5⟩
theorem callQ_M {P : Program} {f : Nat} {vs : List V} {s : AS} {d : Nat} {K : AS → Prop} {res : V} (M : List Nat) {H0 : List Blk} {H1 : List (Option Blk)} (h : MCall P f H0 (vs.map (lend M (lkb s.hp) 6)) res H1)
    (h1 : M.Nodup) (h2 : M.map (lkb s.hp) = H0.map some) (h3 : ∀ blk ∈ H0, noIdss blk.es = true) (h4 : outOk H1 = true) (h5 : resOk res = true) (h6 : noRo res = true)
    (h7 : (List.range (take d 0 res).2.2).all (fun i => (s.wrote M H1).fresh (d + 1000 * i)) = true) (h8 : K ((s.wrote M H1).took d res)) : callQ P f vs s d K :=
  .inr ⟨M, H0, res, H1, h, h1, h2, h3, h4, h5, h6, h7, h8⟩
attribute [simp] mid hpM AS.minit stayK lend idx? offM AS.wrote wroteL outOk stayAll

def retOk (res : V) : Option (Prop × V × List Nat) → Prop
  | some (p, r, ids) => p ∧ r = res ∧ ids.Nodup
  | none => False
def retOn (look : Nat → Option Blk) (res : V) : Option (List V) → Prop
  | some vs => retOk res (give look (tupV vs))
  | none => False
attribute [simp] retOk retOn

theorem Ret_eq {rs : List RV} {res : V} {s : AS} : (∃ vs p ids, retV s rs = some vs ∧ give (lkb s.hp) (tupV vs) = some (p, res, ids) ∧ p ∧ ids.Nodup) ↔ retOn (lkb s.hp) res (retV s rs) := by
  cases h : retV s rs with
  | none => simp [retOn]
  | some vs =>
    simp only [retOn, Option.some.injEq]
    cases h2 : give (lkb s.hp) (tupV vs) with
    | none =>
      simp only [retOk, iff_false]
      rintro ⟨vs', p, ids, rfl, h3, _⟩; rw [h2] at h3; cases h3
    | some y =>
      obtain ⟨p, r, ids⟩ := y
      simp only [retOk]
      constructor
      · rintro ⟨vs', p', ids', rfl, h3, h4, h5⟩
        rw [h2] at h3; cases h3; exact ⟨h4, rfl, h5⟩
      · rintro ⟨h4, rfl, h5⟩; exact ⟨vs, p, ids, rfl, h2, h4, h5⟩
theorem Ret_ret {rs : List RV} {res : V} {s : AS} : Ret rs res .ret s ↔ retOn (lkb s.hp) res (retV s rs) := by rw [← Ret_eq]; simp [Ret]
theorem Ret_normal {rs : List RV} {res : V} {s : AS} : Ret rs res .normal s ↔ retOn (lkb s.hp) res (retV s rs) := by rw [← Ret_eq]; simp [Ret]
theorem Ret_exit {rs : List RV} {res : V} {s : AS} {i : Nat} : Ret rs res (.exit i) s ↔ False := by simp [Ret]
attribute [simp] Ret_ret Ret_normal Ret_exit

def mretOk (look : Nat → Option Blk) (res : V) (H1 : List (Option Blk)) : Option (Prop × V × List Nat) → Prop
  | some (p, r, ids) => p ∧ r = res ∧ (ids ++ (stayK H1 0).map mid).Nodup ∧ stayAll look H1 0
  | none => False
def mretOn (look : Nat → Option Blk) (res : V) (H1 : List (Option Blk)) : Option (List V) → Prop
  | some vs => mretOk look res H1 (give look (tupV vs))
  | none => False
attribute [simp] mretOk mretOn
theorem MRet_eq {rs : List RV} {res : V} {s : AS} {H1 : List (Option Blk)} : (∃ vs p ids, retV s rs = some vs ∧ give (lkb s.hp) (tupV vs) = some (p, res, ids) ∧ p ∧ (ids ++ (stayK H1 0).map mid).Nodup ∧ stayAll (lkb s.hp) H1 0) ↔ mretOn (lkb s.hp) res H1 (retV s rs) := by
  cases h : retV s rs with
  | none => simp only [mretOn, iff_false]; rintro ⟨vs, p, ids, e, _⟩; cases e
  | some vs =>
    simp only [mretOn, Option.some.injEq]
    cases h2 : give (lkb s.hp) (tupV vs) with
    | none =>
      simp only [mretOk, iff_false]
      rintro ⟨vs', p, ids, rfl, h3, _⟩; rw [h2] at h3; cases h3
    | some y =>
      obtain ⟨p, r, ids⟩ := y
      simp only [mretOk]
      constructor
      · rintro ⟨vs', p', ids', rfl, h3, h4, h5⟩
        rw [h2] at h3; cases h3; exact ⟨h4, rfl, h5⟩
      · rintro ⟨h4, rfl, h5⟩; exact ⟨vs, p, ids, rfl, h2, h4, h5⟩
@[simp] theorem MRet_ret {rs : List RV} {res : V} {H1 : List (Option Blk)} {s : AS} : MRet rs res H1 .ret s ↔ mretOn (lkb s.hp) res H1 (retV s rs) := by rw [← MRet_eq]; simp [MRet]
@[simp] theorem MRet_normal {rs : List RV} {res : V} {H1 : List (Option Blk)} {s : AS} : MRet rs res H1 .normal s ↔ mretOn (lkb s.hp) res H1 (retV s rs) := by rw [← MRet_eq]; simp [MRet]
@[simp] theorem MRet_exit {rs : List RV} {res : V} {H1 : List (Option Blk)} {s : AS} {i : Nat} : MRet rs res H1 (.exit i) s ↔ False := by simp [MRet]


/-! ### Loops -/

theorem lk_list : ∀ (l : List (Nat × V)) (t : Nat), lk l t = .undef ∨ (t, lk l t) ∈ l
  | [], t => .inl rfl
  | (k, v) :: l, t => by
    simp only [lk]
    split
    · rename_i e; subst e; exact .inr (by simp)
    · rcases lk_list l t with h | h
      · exact .inl h
      · exact .inr (List.mem_cons_of_mem _ h)

/-- A state that lists no more than holds. -/
theorem Wk.list {s s' : AS} (hp : s'.pin = s.pin) (h1 : ∀ p ∈ s'.sl, lk s.sl p.1 = p.2) (h2 : ∀ p ∈ s'.hp, lkb s.hp p.1 = some p.2) : Wk s s' := by
  refine Wk.of_lk hp (fun t => ?_) fun i => ?_
  · rcases lk_list s'.sl t with h | h
    · exact .inr h
    · exact .inl (h1 _ h).symm
  · cases hb : lkb s'.hp i with
    | none => exact .inr rfl
    | some b => exact .inl (h2 _ (lkb_mem _ _ _ hb)).symm

/-- Behind one round of a loop whose states are St a. -/
def roundA {α : Type} (St : α → AS) (m : α → Nat) (ok : α → Prop) (a : α) (Q : Exit → AS → Prop) : Exit → AS → Prop
  | .normal => fun s => ∃ a', m a' < m a ∧ ok a' ∧ Wk s (St a')
  | e => Q e

theorem loopQ_ix {P : Program} {b : C} {Q : Exit → AS → Prop} {s : AS} {α : Type} (St : α → AS) (m : α → Nat) (ok : α → Prop) (a0 : α) (h0 : Wk s (St a0)) (h1 : ok a0)
    (step : ∀ a, ok a → wpC P b (roundA St m ok a Q) (St a)) : loopQ (wpC P b) Q s := by
  refine ⟨fun n s => ∃ a, ok a ∧ m a = n ∧ s = St a, m a0, St a0, h0, ⟨a0, h1, rfl, rfl⟩, ?_⟩
  rintro n s ⟨a, ha, rfl, rfl⟩
  refine wpC_mono b (St a) (fun e s hq => ?_) (step a ha)
  cases e with
  | normal =>
    obtain ⟨a', h2, h3, h4⟩ := hq
    exact ⟨m a', St a', h2, h4, a', h3, rfl, rfl⟩
  | _ => exact hq
section
variable {α : Type} {St : α → AS} {m : α → Nat} {ok : α → Prop} {a : α} {Q : Exit → AS → Prop}
@[simp] theorem roundA_ret : roundA St m ok a Q .ret = Q .ret := rfl
@[simp] theorem roundA_exit {i : Nat} : roundA St m ok a Q (.exit i) = Q (.exit i) := rfl
theorem roundA_of {s : AS} (a' : α) (h1 : m a' < m a) (h2 : ok a') (h3 : Wk s (St a')) : roundA St m ok a Q .normal s := ⟨a', h1, h2, h3⟩
end

theorem wrap64 {n : Int} (h1 : -9223372036854775808 ≤ n) (h2 : n ≤ 9223372036854775807) : IntKind.i64.wrap n = n := by
  simp [IntKind.wrap, IntKind.signed, IntKind.bits]; omega

/-- Whole numbers in a row. -/
abbrev ints (l : List Int) : List V := l.map I
@[simp] theorem noOwns_ints (l : List Int) : noOwns (l.map I) = true := by induction l <;> simp_all
@[simp] theorem noIdss_ints (l : List Int) : noIdss (l.map I) = true := by induction l <;> simp_all
@[simp] theorem noRos_ints (l : List Int) : noRos (l.map I) = true := by induction l <;> simp_all
@[simp] theorem ments_ints (d : Nat) (l : List Int) : ments d (l.map I) = false := by induction l <;> simp_all
@[simp] theorem borrow_ints (hp : Nat → Option Blk) (k : Nat) (l : List Int) : (l.map I).map (borrow hp (k + 1)) = l.map I := by simp [Function.comp_def]

@[simp] theorem map_borrow_I (hp : Nat → Option Blk) (k : Nat) (l : List Int) : List.map (borrow hp (k + 1) ∘ I) l = l.map I := by simp [Function.comp_def]
@[simp] theorem take_len_map {α : Type} (f : α → V) (l : List α) : List.take l.length (l.map f) = l.map f := List.take_of_length_le (by simp)

/-! ### Rows put together -/

@[simp] theorem ments_app (d : Nat) : ∀ a b : List V, ments d (a ++ b) = (ments d a || ments d b)
  | [], b => by simp
  | x :: a, b => by simp [ments_app d a b, Bool.or_assoc]
@[simp] theorem noOwns_app : ∀ a b : List V, noOwns (a ++ b) = (noOwns a && noOwns b)
  | [], b => by simp
  | x :: a, b => by simp [noOwns_app a b, Bool.and_assoc]
@[simp] theorem noIdss_app : ∀ a b : List V, noIdss (a ++ b) = (noIdss a && noIdss b)
  | [], b => by simp
  | x :: a, b => by simp [noIdss_app a b, Bool.and_assoc]
@[simp] theorem noRos_app : ∀ a b : List V, noRos (a ++ b) = (noRos a && noRos b)
  | [], b => by simp
  | x :: a, b => by simp [noRos_app a b, Bool.and_assoc]
theorem ments_map {α : Type} (d : Nat) (f : α → V) (h : ∀ x, ment d (f x) = false) : ∀ l : List α, ments d (l.map f) = false
  | [] => by simp
  | x :: l => by simp [h, ments_map d f h l]
theorem noOwns_map {α : Type} (f : α → V) (h : ∀ x, noOwn (f x) = true) : ∀ l : List α, noOwns (l.map f) = true
  | [] => by simp
  | x :: l => by simp [h, noOwns_map f h l]
theorem noIdss_mapf {α : Type} (f : α → V) (h : ∀ x, noIds (f x) = true) : ∀ l : List α, noIdss (l.map f) = true
  | [] => by simp
  | x :: l => by simp [h, noIdss_mapf f h l]
theorem noRos_map {α : Type} (f : α → V) (h : ∀ x, noRo (f x) = true) : ∀ l : List α, noRos (l.map f) = true
  | [] => by simp
  | x :: l => by simp [h, noRos_map f h l]
@[simp] theorem ments_take_ints (d : Nat) (k : Nat) (l : List Int) : ments d (List.take k (l.map I)) = false := by rw [← List.map_take]; exact ments_ints d _
@[simp] theorem noOwns_take_ints (k : Nat) (l : List Int) : noOwns (List.take k (l.map I)) = true := by rw [← List.map_take]; exact noOwns_ints _
@[simp] theorem noIdss_take_ints (k : Nat) (l : List Int) : noIdss (List.take k (l.map I)) = true := by rw [← List.map_take]; exact noIdss_ints _
@[simp] theorem noRos_take_ints (k : Nat) (l : List Int) : noRos (List.take k (l.map I)) = true := by rw [← List.map_take]; exact noRos_ints _
@[simp] theorem ments_drop_ints (d : Nat) (k : Nat) (l : List Int) : ments d (List.drop k (l.map I)) = false := by rw [← List.map_drop]; exact ments_ints d _
@[simp] theorem noOwns_drop_ints (k : Nat) (l : List Int) : noOwns (List.drop k (l.map I)) = true := by rw [← List.map_drop]; exact noOwns_ints _
@[simp] theorem noIdss_drop_ints (k : Nat) (l : List Int) : noIdss (List.drop k (l.map I)) = true := by rw [← List.map_drop]; exact noIdss_ints _
@[simp] theorem noRos_drop_ints (k : Nat) (l : List Int) : noRos (List.drop k (l.map I)) = true := by rw [← List.map_drop]; exact noRos_ints _

end Go.Abs
