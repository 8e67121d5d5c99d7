/- The abstract layer, merged part 4 of 5. -/
import Derived.Test.YtbeoijlggphklaaGreatDoorAbs3
import Derived.Sort.Grow
import Derived.Deep.Draws
import Derived.Below
set_option linter.unusedVariables false
set_option linter.unusedSimpArgs false
namespace Go.Abs

abbrev I (n : Int) : V := .v (.int .i64 n)
abbrev B (b : Bool) : V := .v (.bool b)

attribute [simp] repl AS.mark vlenL AS.ev AS.init lk lkb rmb AS.keep AS.app AS.put AS.wrt AS.del AS.new pure1 pureIf vbin vun veq veq1 and? eqB EqK.veq EqK.nil? retV tupV give gives vidx vlenS ments List.range_succ vld ldOf vst stOf viaddr srcOf vapp vslcX vslcL vslcS lohi vfld vmks setPs vbuild setPt vbslice vmmGo vmm vconv bytesOf sizeV flatV flat1 noOwns noIdss borrow noRos resOks take takes AS.took

@[simp] theorem deepV_undef : deepV (.undef ) = true := by simp only [deepV]
@[simp] theorem deepV_v (x : Value) : deepV (.v x) = true := by simp only [deepV]
@[simp] theorem deepV_ref (id i j : Nat) : deepV (.ref id i j) = false := by simp only [deepV]
@[simp] theorem deepV_sl (id i n : Nat) : deepV (.sl id i n) = false := by simp only [deepV]
@[simp] theorem deepV_rp (s : Nat) (es : List V) (i j : Nat) : deepV (.rp s es i j) = true := by simp only [deepV]
@[simp] theorem deepV_ro (s : Nat) (es : List V) : deepV (.ro s es) = true := by simp only [deepV]
@[simp] theorem deepV_own (s : Nat) (es : List V) : deepV (.own s es) = deeps es := by simp only [deepV]
@[simp] theorem deepV_agg (cs : List V) : deepV (.agg cs) = deeps cs := by simp only [deepV]
@[simp] theorem deepV_tup (cs : List V) : deepV (.tup cs) = deeps cs := by simp only [deepV]
@[simp] theorem deepV_clo (f : Nat) (cs : List V) : deepV (.clo f cs) = deeps cs := by simp only [deepV]
@[simp] theorem noOwn_undef : noOwn (.undef ) = true := by simp only [noOwn]
@[simp] theorem noOwn_v (x : Value) : noOwn (.v x) = true := by simp only [noOwn]
@[simp] theorem noOwn_ref (id i j : Nat) : noOwn (.ref id i j) = true := by simp only [noOwn]
@[simp] theorem noOwn_sl (id i n : Nat) : noOwn (.sl id i n) = true := by simp only [noOwn]
@[simp] theorem noOwn_rp (s : Nat) (es : List V) (i j : Nat) : noOwn (.rp s es i j) = true := by simp only [noOwn]
@[simp] theorem noOwn_ro (s : Nat) (es : List V) : noOwn (.ro s es) = true := by simp only [noOwn]
@[simp] theorem noOwn_own (s : Nat) (es : List V) : noOwn (.own s es) = false := by simp only [noOwn]
@[simp] theorem noOwn_agg (cs : List V) : noOwn (.agg cs) = noOwns cs := by simp only [noOwn]
@[simp] theorem noOwn_tup (cs : List V) : noOwn (.tup cs) = noOwns cs := by simp only [noOwn]
@[simp] theorem noOwn_clo (f : Nat) (cs : List V) : noOwn (.clo f cs) = noOwns cs := by simp only [noOwn]
@[simp] theorem noIds_undef : noIds (.undef ) = true := by simp only [noIds]
@[simp] theorem noIds_v (x : Value) : noIds (.v x) = true := by simp only [noIds]
@[simp] theorem noIds_ref (id i j : Nat) : noIds (.ref id i j) = false := by simp only [noIds]
@[simp] theorem noIds_sl (id i n : Nat) : noIds (.sl id i n) = false := by simp only [noIds]
@[simp] theorem noIds_rp (s : Nat) (es : List V) (i j : Nat) : noIds (.rp s es i j) = true := by simp only [noIds]
@[simp] theorem noIds_ro (s : Nat) (es : List V) : noIds (.ro s es) = true := by simp only [noIds]
@[simp] theorem noIds_own (s : Nat) (es : List V) : noIds (.own s es) = true := by simp only [noIds]
@[simp] theorem noIds_agg (cs : List V) : noIds (.agg cs) = noIdss cs := by simp only [noIds]
@[simp] theorem noIds_tup (cs : List V) : noIds (.tup cs) = noIdss cs := by simp only [noIds]
@[simp] theorem noIds_clo (f : Nat) (cs : List V) : noIds (.clo f cs) = noIdss cs := by simp only [noIds]
@[simp] theorem noRo_undef : noRo (.undef ) = true := by simp only [noRo]
@[simp] theorem noRo_v (x : Value) : noRo (.v x) = true := by simp only [noRo]
@[simp] theorem noRo_ref (id i j : Nat) : noRo (.ref id i j) = true := by simp only [noRo]
@[simp] theorem noRo_sl (id i n : Nat) : noRo (.sl id i n) = true := by simp only [noRo]
@[simp] theorem noRo_rp (s : Nat) (es : List V) (i j : Nat) : noRo (.rp s es i j) = false := by simp only [noRo]
@[simp] theorem noRo_ro (s : Nat) (es : List V) : noRo (.ro s es) = es.isEmpty := by simp only [noRo]
@[simp] theorem noRo_own (s : Nat) (es : List V) : noRo (.own s es) = noRos es := by simp only [noRo]
@[simp] theorem noRo_agg (cs : List V) : noRo (.agg cs) = noRos cs := by simp only [noRo]
@[simp] theorem noRo_tup (cs : List V) : noRo (.tup cs) = noRos cs := by simp only [noRo]
@[simp] theorem noRo_clo (f : Nat) (cs : List V) : noRo (.clo f cs) = noRos cs := by simp only [noRo]
@[simp] theorem resOk_undef : resOk (.undef ) = true := by simp only [resOk]
@[simp] theorem resOk_v (x : Value) : resOk (.v x) = true := by simp only [resOk]
@[simp] theorem resOk_ref (id i j : Nat) : resOk (.ref id i j) = false := by simp only [resOk]
@[simp] theorem resOk_sl (id i n : Nat) : resOk (.sl id i n) = false := by simp only [resOk]
@[simp] theorem resOk_rp (s : Nat) (es : List V) (i j : Nat) : resOk (.rp s es i j) = true := by simp only [resOk]
@[simp] theorem resOk_ro (s : Nat) (es : List V) : resOk (.ro s es) = true := by simp only [resOk]
@[simp] theorem resOk_own (s : Nat) (es : List V) : resOk (.own s es) = true := by simp only [resOk]
@[simp] theorem resOk_agg (cs : List V) : resOk (.agg cs) = resOks cs := by simp only [resOk]
@[simp] theorem resOk_tup (cs : List V) : resOk (.tup cs) = resOks cs := by simp only [resOk]
@[simp] theorem resOk_clo (f : Nat) (cs : List V) : resOk (.clo f cs) = false := by simp only [resOk]
@[simp] theorem isAggV_undef : isAggV (.undef ) = false := by simp only [isAggV]
@[simp] theorem isAggV_v (x : Value) : isAggV (.v x) = false := by simp only [isAggV]
@[simp] theorem isAggV_ref (id i j : Nat) : isAggV (.ref id i j) = false := by simp only [isAggV]
@[simp] theorem isAggV_sl (id i n : Nat) : isAggV (.sl id i n) = false := by simp only [isAggV]
@[simp] theorem isAggV_rp (s : Nat) (es : List V) (i j : Nat) : isAggV (.rp s es i j) = false := by simp only [isAggV]
@[simp] theorem isAggV_ro (s : Nat) (es : List V) : isAggV (.ro s es) = false := by simp only [isAggV]
@[simp] theorem isAggV_own (s : Nat) (es : List V) : isAggV (.own s es) = false := by simp only [isAggV]
@[simp] theorem isAggV_agg (cs : List V) : isAggV (.agg cs) = true := by simp only [isAggV]
@[simp] theorem isAggV_tup (cs : List V) : isAggV (.tup cs) = false := by simp only [isAggV]
@[simp] theorem isAggV_clo (f : Nat) (cs : List V) : isAggV (.clo f cs) = false := by simp only [isAggV]
@[simp] theorem scal1_undef : scal1 (.undef ) = false := by simp only [scal1]
@[simp] theorem scal1_v (x : Value) : scal1 (.v x) = true := by simp only [scal1]
@[simp] theorem scal1_ref (id i j : Nat) : scal1 (.ref id i j) = true := by simp only [scal1]
@[simp] theorem scal1_sl (id i n : Nat) : scal1 (.sl id i n) = true := by simp only [scal1]
@[simp] theorem scal1_rp (s : Nat) (es : List V) (i j : Nat) : scal1 (.rp s es i j) = true := by simp only [scal1]
@[simp] theorem scal1_ro (s : Nat) (es : List V) : scal1 (.ro s es) = true := by simp only [scal1]
@[simp] theorem scal1_own (s : Nat) (es : List V) : scal1 (.own s es) = true := by simp only [scal1]
@[simp] theorem scal1_agg (cs : List V) : scal1 (.agg cs) = false := by simp only [scal1]
@[simp] theorem scal1_tup (cs : List V) : scal1 (.tup cs) = false := by simp only [scal1]
@[simp] theorem scal1_clo (f : Nat) (cs : List V) : scal1 (.clo f cs) = true := by simp only [scal1]
@[simp] theorem cellsq_undef : cells? (.undef ) = none := by simp only [cells?]
@[simp] theorem cellsq_v (x : Value) : cells? (.v x) = some [.v x] := by simp only [cells?]
@[simp] theorem cellsq_ref (id i j : Nat) : cells? (.ref id i j) = some [.ref id i j] := by simp only [cells?]
@[simp] theorem cellsq_sl (id i n : Nat) : cells? (.sl id i n) = some [.sl id i n] := by simp only [cells?]
@[simp] theorem cellsq_rp (s : Nat) (es : List V) (i j : Nat) : cells? (.rp s es i j) = some [.rp s es i j] := by simp only [cells?]
@[simp] theorem cellsq_ro (s : Nat) (es : List V) : cells? (.ro s es) = some [.ro s es] := by simp only [cells?]
@[simp] theorem cellsq_own (s : Nat) (es : List V) : cells? (.own s es) = some [.own s es] := by simp only [cells?]
@[simp] theorem cellsq_agg (cs : List V) : cells? (.agg cs) = some cs := by simp only [cells?]
@[simp] theorem cellsq_tup (cs : List V) : cells? (.tup cs) = none := by simp only [cells?]
@[simp] theorem cellsq_clo (f : Nat) (cs : List V) : cells? (.clo f cs) = some [.clo f cs] := by simp only [cells?]
@[simp] theorem ment_undef (k : Nat) : ment k (.undef ) = false := by simp only [ment]
@[simp] theorem ment_v (k : Nat) (x : Value) : ment k (.v x) = false := by simp only [ment]
@[simp] theorem ment_ref (k : Nat) (id i j : Nat) : ment k (.ref id i j) = (id == k) := by simp only [ment]
@[simp] theorem ment_sl (k : Nat) (id i n : Nat) : ment k (.sl id i n) = (id == k) := by simp only [ment]
@[simp] theorem ment_rp (k : Nat) (s : Nat) (es : List V) (i j : Nat) : ment k (.rp s es i j) = false := by simp only [ment]
@[simp] theorem ment_ro (k : Nat) (s : Nat) (es : List V) : ment k (.ro s es) = false := by simp only [ment]
@[simp] theorem ment_own (k : Nat) (s : Nat) (es : List V) : ment k (.own s es) = false := by simp only [ment]
@[simp] theorem ment_agg (k : Nat) (cs : List V) : ment k (.agg cs) = ments k cs := by simp only [ment]
@[simp] theorem ment_tup (k : Nat) (cs : List V) : ment k (.tup cs) = ments k cs := by simp only [ment]
@[simp] theorem ment_clo (k : Nat) (f : Nat) (cs : List V) : ment k (.clo f cs) = ments k cs := by simp only [ment]
@[simp] theorem idsV_undef : idsV (.undef ) = [] := by simp only [idsV]
@[simp] theorem idsV_v (x : Value) : idsV (.v x) = [] := by simp only [idsV]
@[simp] theorem idsV_ref (id i j : Nat) : idsV (.ref id i j) = [id] := by simp only [idsV]
@[simp] theorem idsV_sl (id i n : Nat) : idsV (.sl id i n) = [id] := by simp only [idsV]
@[simp] theorem idsV_rp (s : Nat) (es : List V) (i j : Nat) : idsV (.rp s es i j) = [] := by simp only [idsV]
@[simp] theorem idsV_ro (s : Nat) (es : List V) : idsV (.ro s es) = [] := by simp only [idsV]
@[simp] theorem idsV_own (s : Nat) (es : List V) : idsV (.own s es) = [] := by simp only [idsV]
@[simp] theorem idsV_agg (cs : List V) : idsV (.agg cs) = idsVs cs := by simp only [idsV]
@[simp] theorem idsV_tup (cs : List V) : idsV (.tup cs) = idsVs cs := by simp only [idsV]
@[simp] theorem idsV_clo (f : Nat) (cs : List V) : idsV (.clo f cs) = idsVs cs := by simp only [idsV]

/-! ### Ids that nothing leads to -/
def frS (d : Nat) : List (Nat × V) → Bool
  | [] => true
  | p :: l => !ment d p.2 && frS d l
def frH (d : Nat) : List (Nat × Blk) → Bool
  | [] => true
  | p :: l => p.1 != d && !ments d p.2.es && frH d l
@[simp] theorem frS_nil {d : Nat} : frS d [] = true := by simp only [frS]
@[simp] theorem frS_cons {d k : Nat} {v : V} {l : List (Nat × V)} : frS d ((k, v) :: l) = (!ment d v && frS d l) := by simp only [frS]
@[simp] theorem frH_nil {d : Nat} : frH d [] = true := by simp only [frH]
@[simp] theorem frH_cons {d k s : Nat} {es : List V} {l : List (Nat × Blk)} : frH d ((k, ⟨s, es⟩) :: l) = (k != d && !ments d es && frH d l) := by simp only [frH]
theorem frS_all (d : Nat) : ∀ l : List (Nat × V), l.all (fun p => !ment d p.2) = frS d l
  | [] => rfl
  | p :: l => by simp only [List.all_cons, frS, frS_all d l]
theorem frH_all (d : Nat) : ∀ l : List (Nat × Blk), l.all (fun p => p.1 != d && !ments d p.2.es) = frH d l
  | [] => rfl
  | p :: l => by simp only [List.all_cons, frH, frH_all d l]
@[simp] theorem AS.fresh_mk {sl : List (Nat × V)} {hp : List (Nat × Blk)} {pin : List Nat} {d : Nat} : AS.fresh ⟨sl, hp, pin⟩ d = (frS d sl && frH d hp && !pin.contains d) := by
  simp only [AS.fresh, frS_all, frH_all]

variable [gI : GInv]

section
variable {P : Program} {K : AS → Prop} {Q : Exit → AS → Prop} {s : AS}

/-- One operation with its guard: the guard's value is looked at first. -/
def guardK (P : Program) (c : CO) (K : AS → Prop) (s : AS) (t : Nat) (b : Bool) : V → Prop
  | .v (.bool v) => (v = b → stepO P c K (s.mark t (.v (.bool b)))) ∧ (v = !b → K ((s.mark t (.v (.bool !b))).put c.d (.tup [])))
  | .tup [] => K (s.put c.d (.tup []))
  | _ => False
theorem guardK_tt {c : CO} {t : Nat} : guardK P c K s t true (.v (.bool true)) ↔ stepO P c K (s.mark t (.v (.bool true))) := by simp [guardK]
theorem guardK_ff {c : CO} {t : Nat} : guardK P c K s t false (.v (.bool false)) ↔ stepO P c K (s.mark t (.v (.bool false))) := by simp [guardK]
theorem guardK_tf {c : CO} {t : Nat} : guardK P c K s t true (.v (.bool false)) ↔ K ((s.mark t (.v (.bool false))).put c.d (.tup [])) := by simp [guardK]
theorem guardK_ft {c : CO} {t : Nat} : guardK P c K s t false (.v (.bool true)) ↔ K ((s.mark t (.v (.bool true))).put c.d (.tup [])) := by simp [guardK]
theorem guardK_u {c : CO} {t : Nat} {b : Bool} : guardK P c K s t b (.tup []) ↔ K (s.put c.d (.tup [])) := Iff.rfl
theorem guardK_q {c : CO} {t : Nat} {b v : Bool} : guardK P c K s t b (.v (.bool v)) ↔ (v = b → stepO P c K (s.mark t (.v (.bool b)))) ∧ (v = !b → K ((s.mark t (.v (.bool !b))).put c.d (.tup []))) := Iff.rfl
def wpG (P : Program) (c : CO) (K : AS → Prop) (s : AS) : Prop := match c.g with
  | none => stepO P c K s
  | some (t, b) => guardK P c K s t b (lk s.sl t)
theorem wpG_none {d : Option Nat} {o : O} : wpG P ⟨none, d, o⟩ K s ↔ stepO P ⟨none, d, o⟩ K s := Iff.rfl
theorem wpG_some {d : Option Nat} {o : O} {t : Nat} {b : Bool} : wpG P ⟨some (t, b), d, o⟩ K s ↔ guardK P ⟨some (t, b), d, o⟩ K s t b (lk s.sl t) := Iff.rfl

theorem wpO_nil : wpO P [] K s = K s := rfl
theorem wpO_cons {c : CO} {cs : List CO} : wpO P (c :: cs) K s = wpG P c (wpO P cs K) s := by
  unfold wpG guardK
  rw [wpO]
  rfl

def guardD (P : Program) (c : CO) (i : Nat) (acc : List It) (f : Nat → List It → AS → Prop) (s : AS) (t : Nat) (b : Bool) : V → Prop
  | .v (.bool v) => (v = b → stepD P c i (s.mark t (.v (.bool b))) (andThenD (f (i + 1)) acc)) ∧
        (v = !b → f (i + 1) (acc ++ [⟨c, ⟨.tup [], [], []⟩, i, tchA c s⟩]) ((s.mark t (.v (.bool !b))).put c.d (.tup [])))
  | .tup [] => f (i + 1) (acc ++ [⟨c, ⟨.tup [], [], []⟩, i, tchA c s⟩]) (s.put c.d (.tup []))
  | _ => False
section
variable {c : CO} {i : Nat} {acc : List It} {f : Nat → List It → AS → Prop} {t : Nat}
theorem guardD_tt : guardD P c i acc f s t true (.v (.bool true)) ↔ stepD P c i (s.mark t (.v (.bool true))) (andThenD (f (i + 1)) acc) := by simp [guardD]
theorem guardD_ff : guardD P c i acc f s t false (.v (.bool false)) ↔ stepD P c i (s.mark t (.v (.bool false))) (andThenD (f (i + 1)) acc) := by simp [guardD]
theorem guardD_tf : guardD P c i acc f s t true (.v (.bool false)) ↔ f (i + 1) (acc ++ [⟨c, ⟨.tup [], [], []⟩, i, tchA c s⟩]) ((s.mark t (.v (.bool false))).put c.d (.tup [])) := by simp [guardD]
theorem guardD_ft : guardD P c i acc f s t false (.v (.bool true)) ↔ f (i + 1) (acc ++ [⟨c, ⟨.tup [], [], []⟩, i, tchA c s⟩]) ((s.mark t (.v (.bool true))).put c.d (.tup [])) := by simp [guardD]
theorem guardD_u {b : Bool} : guardD P c i acc f s t b (.tup []) ↔ f (i + 1) (acc ++ [⟨c, ⟨.tup [], [], []⟩, i, tchA c s⟩]) (s.put c.d (.tup [])) := Iff.rfl
theorem guardD_q {b v : Bool} : guardD P c i acc f s t b (.v (.bool v)) ↔ (v = b → stepD P c i (s.mark t (.v (.bool b))) (andThenD (f (i + 1)) acc)) ∧
        (v = !b → f (i + 1) (acc ++ [⟨c, ⟨.tup [], [], []⟩, i, tchA c s⟩]) ((s.mark t (.v (.bool !b))).put c.d (.tup []))) := Iff.rfl
end
def wpDG (P : Program) (c : CO) (i : Nat) (acc : List It) (f : Nat → List It → AS → Prop) (s : AS) : Prop := match c.g with
  | none => stepD P c i s (andThenD (f (i + 1)) acc)
  | some (t, b) => guardD P c i acc f s t b (lk s.sl t)
theorem wpDG_none {d : Option Nat} {o : O} {i : Nat} {acc : List It} {f : Nat → List It → AS → Prop} : wpDG P ⟨none, d, o⟩ i acc f s ↔ stepD P ⟨none, d, o⟩ i s (andThenD (f (i + 1)) acc) := Iff.rfl
theorem wpDG_some {d : Option Nat} {o : O} {t : Nat} {b : Bool} {i : Nat} {acc : List It} {f : Nat → List It → AS → Prop} : wpDG P ⟨some (t, b), d, o⟩ i acc f s ↔ guardD P ⟨some (t, b), d, o⟩ i acc f s t b (lk s.sl t) := Iff.rfl

def endD (pl : List (List Nat)) (s0 : AS) (acc : List It) : Prop := indep pl acc = true ∧ (acc.all fun e => e.tr.news.all s0.fresh) = true
theorem wpD_nil {pl : List (List Nat)} {s0 : AS} {i : Nat} {acc : List It} : wpD P pl s0 K [] i acc s = (indep pl acc = true ∧ (acc.all fun e => e.tr.news.all s0.fresh) = true ∧ K s) := rfl
theorem wpD_end {pl : List (List Nat)} {s0 : AS} {i : Nat} {acc : List It} : wpD P pl s0 K [] i acc s ↔ (endD pl s0 acc ∧ K s) := by rw [wpD_nil, endD, and_assoc]
theorem wpD_cons {pl : List (List Nat)} {s0 : AS} {c : CO} {cs : List CO} {i : Nat} {acc : List It} : wpD P pl s0 K (c :: cs) i acc s = wpDG P c i acc (wpD P pl s0 K cs) s := by
  unfold wpDG guardD
  rw [wpD]
  rfl

theorem wpC_skip : wpC P .skip Q s = Q .normal s := rfl
theorem wpC_reg {cs : List CO} {ks : List Nat} : wpC P (.reg cs ks) Q s = wpO P cs (keepK ks Q) s := rfl
theorem wpC_regD {cs : List CO} {pl : List (List Nat)} {ks : List Nat} : wpC P (.regD cs pl ks) Q s = wpD P pl s (keepK ks Q) cs 0 [] s := rfl
theorem wpC_seq {a b : C} : wpC P (.seq a b) Q s = wpC P a (seqK (wpC P b Q) Q) s := rfl
theorem wpC_block {id : Nat} {b : C} : wpC P (.block id b) Q s = wpC P b (blockK id Q) s := rfl
theorem wpC_loop {b : C} : wpC P (.loop b) Q s = loopQ (wpC P b) Q s := rfl
theorem wpC_exit {id : Nat} : wpC P (.exit id) Q s = Q (.exit id) s := rfl
theorem wpC_ret : wpC P .ret Q s = Q .ret s := rfl
theorem wpC_wk {b : C} : wpC P (.wk b) Q s = ∃ s', Wk s s' ∧ wpC P b Q s' := rfl
/-- Here the state is told anew. -/
theorem wk_of {b : C} (s' : AS) (h : Wk s s') (h' : wpC P b Q s') : wpC P (.wk b) Q s := ⟨s', h, h'⟩
def condK (K K' : AS → Prop) (s : AS) : V → Prop
  | .v (.bool t) => (t = true → K s) ∧ (t = false → K' s)
  | _ => False
omit gI in
theorem condK_t {K K' : AS → Prop} {s : AS} : condK K K' s (.v (.bool true)) ↔ K s := by simp [condK]
omit gI in
theorem condK_f {K K' : AS → Prop} {s : AS} : condK K K' s (.v (.bool false)) ↔ K' s := by simp [condK]
omit gI in
theorem condK_q {K K' : AS → Prop} {s : AS} {t : Bool} : condK K K' s (.v (.bool t)) ↔ (t = true → K s) ∧ (t = false → K' s) := Iff.rfl
theorem wpC_cond {x : X} {a b : C} : wpC P (.cond x a b) Q s ↔ condK (wpC P a Q) (wpC P b Q) s (s.ev x) := Iff.rfl

omit gI in
theorem seqK_normal : seqK K Q .normal = K := rfl
omit gI in
theorem seqK_ret : seqK K Q .ret = Q .ret := rfl
omit gI in
theorem seqK_exit {i : Nat} : seqK K Q (.exit i) = Q (.exit i) := rfl
omit gI in
theorem blockK_normal {id : Nat} : blockK id Q .normal = Q .normal := rfl
omit gI in
theorem blockK_ret {id : Nat} : blockK id Q .ret = Q .ret := rfl
omit gI in
theorem blockK_exit {id i : Nat} : blockK id Q (.exit i) = if i = id then Q .normal else Q (.exit i) := rfl
@[simp] theorem roundK_ret {I : Nat → AS → Prop} {n : Nat} : roundK I n Q .ret = Q .ret := rfl
@[simp] theorem roundK_exit {I : Nat → AS → Prop} {n i : Nat} : roundK I n Q (.exit i) = Q (.exit i) := rfl
@[simp] theorem roundK_normal {I : Nat → AS → Prop} {n : Nat} {s : AS} : roundK I n Q .normal s ↔ ∃ m s', m < n ∧ Wk s s' ∧ I m s' := Iff.rfl
end

/-! ### One operation -/

def pickV (c a b : V) : Option (Prop × Dl) := match c with | .v (.bool t) => pure1 (bif t then a else b) | _ => none
def vbox (n : Nat) (v : V) (d : Nat) : Option (Prop × Dl) := if sizeV v = some n ∧ noOwn v ∧ flatV v then some (True, { v := .ref d 0 0, new := some ⟨n, [v]⟩ }) else none
def vslc (sz : Option Nat) (look : Nat → Option Blk) (x : V) (lo hi : Option V) : Option (Prop × Dl) := match sz with | none => vslcX x lo hi | some s => vslcL s look x lo hi
def vfaddr (off : Nat) (x : V) : Option (Prop × Dl) := match x with | .ref id i j => pure1 (.ref id i (j + off)) | .rp s es i j => pure1 (.rp s es i (j + off)) | _ => none
def vext (i : Nat) (x : V) : Option (Prop × Dl) := match x with | .tup vs => (match vs[i]? with | some v => pure1 v | none => none) | _ => none
def vlen (b : Bool) (x : V) : Option (Prop × Dl) := if b then vlenS x else vlenL x
attribute [simp] pickV vbox vslc vfaddr vext vlen

def frK (s : AS) (d : Nat) : Option Blk → Prop
  | none => True
  | some _ => s.fresh d = true
omit gI in
@[simp] theorem frK_none {s : AS} {d : Nat} : frK s d none ↔ True := Iff.rfl
omit gI in
@[simp] theorem frK_some {s : AS} {d : Nat} {b : Blk} : frK s d (some b) ↔ s.fresh d = true := Iff.rfl

def effK (d : Option Nat) (K : AS → Prop) (s : AS) : Option (Prop × Dl) → Prop
  | some (p, δ) => p ∧ (δ.new.isSome = true → s.fresh (d.getD 0) = true) ∧ K (s.app d δ)
  | none => False
omit gI in
theorem effK_some {d : Option Nat} {K : AS → Prop} {s : AS} {p : Prop} {δ : Dl} : effK d K s (some (p, δ)) ↔ p ∧ frK s (d.getD 0) δ.new ∧ K (s.app d δ) := by
  have h : (δ.new.isSome = true → s.fresh (d.getD 0) = true) ↔ frK s (d.getD 0) δ.new := by
    cases δ.new with
    | none => exact ⟨fun _ => trivial, fun _ h => by cases h⟩
    | some b => exact ⟨fun h => h rfl, fun h _ => h⟩
  show (p ∧ (δ.new.isSome = true → s.fresh (d.getD 0) = true) ∧ K (s.app d δ)) ↔ _
  rw [h]
omit gI in
theorem effK_ite {d : Option Nat} {K : AS → Prop} {s : AS} {p : Prop} [Decidable p] {x : Option (Prop × Dl)} : effK d K s (if p then x else none) ↔ p ∧ effK d K s x := by
  by_cases h : p <;> simp only [h, if_true, if_false, true_and, false_and] <;> exact Iff.rfl

def effD (c : CO) (i : Nat) (s : AS) (next : It → AS → Prop) : Option (Prop × Dl) → Prop
  | some (p, δ) => p ∧ (δ.new.isSome = true → c.d.isSome = true) ∧ next ⟨c, trOf δ c.d, i, tchA c s⟩ (s.app c.d δ)
  | none => False
omit gI in
theorem effD_some {c : CO} {i : Nat} {s : AS} {next : It → AS → Prop} {p : Prop} {δ : Dl} : effD c i s next (some (p, δ)) ↔ p ∧ (δ.new.isSome = true → c.d.isSome = true) ∧ next ⟨c, trOf δ c.d, i, tchA c s⟩ (s.app c.d δ) := Iff.rfl

section
variable {P : Program} {K : AS → Prop} {s : AS} {g : Option (Nat × Bool)} {d : Option Nat} {j : Nat} {next : It → AS → Prop}
theorem stepO_mv {x : X} : stepO P ⟨g, d, .mv x⟩ K s ↔ effK d K s (pure1 (s.ev x)) := by
  exact Iff.rfl
theorem stepD_mv {x : X} : stepD P ⟨g, d, .mv x⟩ j s next ↔ effD ⟨g, d, .mv x⟩ j s next (pure1 (s.ev x)) := by
  exact Iff.rfl
theorem stepO_pick {c a b : X} : stepO P ⟨g, d, .pick c a b⟩ K s ↔ effK d K s (pickV (s.ev c) (s.ev a) (s.ev b)) := by
  exact Iff.rfl
theorem stepD_pick {c a b : X} : stepD P ⟨g, d, .pick c a b⟩ j s next ↔ effD ⟨g, d, .pick c a b⟩ j s next (pickV (s.ev c) (s.ev a) (s.ev b)) := by
  exact Iff.rfl
theorem stepO_box {n : Nat} {x : X} : stepO P ⟨g, d, .box n x⟩ K s ↔ effK d K s (vbox n (s.ev x) (d.getD 0)) := by
  exact Iff.rfl
theorem stepD_box {n : Nat} {x : X} : stepD P ⟨g, d, .box n x⟩ j s next ↔ effD ⟨g, d, .box n x⟩ j s next (vbox n (s.ev x) (d.getD 0)) := by
  exact Iff.rfl
theorem stepO_build {z : V} {ps : List (Nat × Nat × X)} : stepO P ⟨g, d, .build z ps⟩ K s ↔ effK d K s (vbuild s.ev z ps) := by
  exact Iff.rfl
theorem stepD_build {z : V} {ps : List (Nat × Nat × X)} : stepD P ⟨g, d, .build z ps⟩ j s next ↔ effD ⟨g, d, .build z ps⟩ j s next (vbuild s.ev z ps) := by
  exact Iff.rfl
theorem stepO_bslice {sz : Nat} {z : V} {n : Nat} {ps : List (Nat × X)} : stepO P ⟨g, d, .bslice sz z n ps⟩ K s ↔ effK d K s (vbslice s.ev sz z n (d.getD 0) ps) := by
  exact Iff.rfl
theorem stepD_bslice {sz : Nat} {z : V} {n : Nat} {ps : List (Nat × X)} : stepD P ⟨g, d, .bslice sz z n ps⟩ j s next ↔ effD ⟨g, d, .bslice sz z n ps⟩ j s next (vbslice s.ev sz z n (d.getD 0) ps) := by
  exact Iff.rfl
theorem stepO_ld {b : Bool} {n : Nat} {x : X} : stepO P ⟨g, d, .ld b n x⟩ K s ↔ effK d K s (vld b n (lkb s.hp) (s.ev x)) := by
  exact Iff.rfl
theorem stepD_ld {b : Bool} {n : Nat} {x : X} : stepD P ⟨g, d, .ld b n x⟩ j s next ↔ effD ⟨g, d, .ld b n x⟩ j s next (vld b n (lkb s.hp) (s.ev x)) := by
  exact Iff.rfl
theorem stepO_st {n : Nat} {a x : X} : stepO P ⟨g, d, .st n a x⟩ K s ↔ effK d K s (vst n (lkb s.hp) (s.ev x) (s.ev a)) := by
  exact Iff.rfl
theorem stepD_st {n : Nat} {a x : X} : stepD P ⟨g, d, .st n a x⟩ j s next ↔ effD ⟨g, d, .st n a x⟩ j s next (vst n (lkb s.hp) (s.ev x) (s.ev a)) := by
  exact Iff.rfl
theorem stepO_bin {op : BinOp} {k : EqK} {x y : X} : stepO P ⟨g, d, .bin op k x y⟩ K s ↔ effK d K s (vbin op k (s.ev x) (s.ev y)) := by
  exact Iff.rfl
theorem stepD_bin {op : BinOp} {k : EqK} {x y : X} : stepD P ⟨g, d, .bin op k x y⟩ j s next ↔ effD ⟨g, d, .bin op k x y⟩ j s next (vbin op k (s.ev x) (s.ev y)) := by
  exact Iff.rfl
theorem stepO_un {op : UnOp} {x : X} : stepO P ⟨g, d, .un op x⟩ K s ↔ effK d K s (vun op (s.ev x)) := by
  exact Iff.rfl
theorem stepD_un {op : UnOp} {x : X} : stepD P ⟨g, d, .un op x⟩ j s next ↔ effD ⟨g, d, .un op x⟩ j s next (vun op (s.ev x)) := by
  exact Iff.rfl
theorem stepO_conv {c : CK} {x : X} : stepO P ⟨g, d, .conv c x⟩ K s ↔ effK d K s (vconv c (lkb s.hp) (d.getD 0) (s.ev x)) := by
  exact Iff.rfl
theorem stepD_conv {c : CK} {x : X} : stepD P ⟨g, d, .conv c x⟩ j s next ↔ effD ⟨g, d, .conv c x⟩ j s next (vconv c (lkb s.hp) (d.getD 0) (s.ev x)) := by
  exact Iff.rfl
theorem stepO_clo {f : Nat} {cs : List X} : stepO P ⟨g, d, .clo f cs⟩ K s ↔ effK d K s (pure1 (.clo f (cs.map s.ev))) := by
  exact Iff.rfl
theorem stepD_clo {f : Nat} {cs : List X} : stepD P ⟨g, d, .clo f cs⟩ j s next ↔ effD ⟨g, d, .clo f cs⟩ j s next (pure1 (.clo f (cs.map s.ev))) := by
  exact Iff.rfl
theorem stepO_mks {sz : Nat} {z : V} {bytes : Nat} {l c : X} : stepO P ⟨g, d, .mks sz z bytes l c⟩ K s ↔ effK d K s (vmks sz bytes z (d.getD 0) (s.ev l) (s.ev c)) := by
  exact Iff.rfl
theorem stepD_mks {sz : Nat} {z : V} {bytes : Nat} {l c : X} : stepD P ⟨g, d, .mks sz z bytes l c⟩ j s next ↔ effD ⟨g, d, .mks sz z bytes l c⟩ j s next (vmks sz bytes z (d.getD 0) (s.ev l) (s.ev c)) := by
  exact Iff.rfl
theorem stepO_slc {sz : Option Nat} {x : X} {lo hi : Option X} : stepO P ⟨g, d, .slc sz x lo hi⟩ K s ↔ effK d K s (vslc sz (lkb s.hp) (s.ev x) (lo.map s.ev) (hi.map s.ev)) := by
  cases sz <;> exact Iff.rfl
theorem stepD_slc {sz : Option Nat} {x : X} {lo hi : Option X} : stepD P ⟨g, d, .slc sz x lo hi⟩ j s next ↔ effD ⟨g, d, .slc sz x lo hi⟩ j s next (vslc sz (lkb s.hp) (s.ev x) (lo.map s.ev) (hi.map s.ev)) := by
  cases sz <;> exact Iff.rfl
theorem stepO_faddr {off : Nat} {x : X} : stepO P ⟨g, d, .faddr off x⟩ K s ↔ effK d K s (vfaddr off (s.ev x)) := by
  exact Iff.rfl
theorem stepD_faddr {off : Nat} {x : X} : stepD P ⟨g, d, .faddr off x⟩ j s next ↔ effD ⟨g, d, .faddr off x⟩ j s next (vfaddr off (s.ev x)) := by
  exact Iff.rfl
theorem stepO_fld {b : Bool} {off n : Nat} {x : X} : stepO P ⟨g, d, .fld b off n x⟩ K s ↔ effK d K s (vfld b off n (s.ev x)) := by
  exact Iff.rfl
theorem stepD_fld {b : Bool} {off n : Nat} {x : X} : stepD P ⟨g, d, .fld b off n x⟩ j s next ↔ effD ⟨g, d, .fld b off n x⟩ j s next (vfld b off n (s.ev x)) := by
  exact Iff.rfl
theorem stepO_iaddr {sz : Nat} {x i : X} : stepO P ⟨g, d, .iaddr sz x i⟩ K s ↔ effK d K s (viaddr sz (lkb s.hp) (s.ev x) (s.ev i)) := by
  exact Iff.rfl
theorem stepD_iaddr {sz : Nat} {x i : X} : stepD P ⟨g, d, .iaddr sz x i⟩ j s next ↔ effD ⟨g, d, .iaddr sz x i⟩ j s next (viaddr sz (lkb s.hp) (s.ev x) (s.ev i)) := by
  exact Iff.rfl
theorem stepO_idx {x i : X} : stepO P ⟨g, d, .idx x i⟩ K s ↔ effK d K s (vidx (s.ev x) (s.ev i)) := by
  exact Iff.rfl
theorem stepD_idx {x i : X} : stepD P ⟨g, d, .idx x i⟩ j s next ↔ effD ⟨g, d, .idx x i⟩ j s next (vidx (s.ev x) (s.ev i)) := by
  exact Iff.rfl
theorem stepO_ext {x : X} {i : Nat} : stepO P ⟨g, d, .ext x i⟩ K s ↔ effK d K s (vext i (s.ev x)) := by
  exact Iff.rfl
theorem stepD_ext {x : X} {i : Nat} : stepD P ⟨g, d, .ext x i⟩ j s next ↔ effD ⟨g, d, .ext x i⟩ j s next (vext i (s.ev x)) := by
  exact Iff.rfl
theorem stepO_len {b : Bool} {x : X} : stepO P ⟨g, d, .len b x⟩ K s ↔ effK d K s (vlen b (s.ev x)) := by
  exact Iff.rfl
theorem stepD_len {b : Bool} {x : X} : stepD P ⟨g, d, .len b x⟩ j s next ↔ effD ⟨g, d, .len b x⟩ j s next (vlen b (s.ev x)) := by
  exact Iff.rfl
theorem stepO_app {sz bytes : Nat} {x y : X} : stepO P ⟨g, d, .app sz bytes x y⟩ K s ↔ effK d K s (vapp sz bytes (lkb s.hp) (d.getD 0) (s.ev y) (s.ev x)) := by
  exact Iff.rfl
theorem stepD_app {sz bytes : Nat} {x y : X} : stepD P ⟨g, d, .app sz bytes x y⟩ j s next ↔ effD ⟨g, d, .app sz bytes x y⟩ j s next (vapp sz bytes (lkb s.hp) (d.getD 0) (s.ev y) (s.ev x)) := by
  exact Iff.rfl
theorem stepO_mm {b : Bool} {xs : List X} : stepO P ⟨g, d, .mm b xs⟩ K s ↔ effK d K s (vmm b (xs.map s.ev)) := by
  exact Iff.rfl
theorem stepD_mm {b : Bool} {xs : List X} : stepD P ⟨g, d, .mm b xs⟩ j s next ↔ effD ⟨g, d, .mm b xs⟩ j s next (vmm b (xs.map s.ev)) := by
  exact Iff.rfl
theorem stepO_call {f : Nat} {xs : List X} : stepO P ⟨g, d, .call f xs⟩ K s ↔ callQ P f (xs.map s.ev) s (d.getD 0) K := Iff.rfl
def callvK (P : Program) (d : Nat) (vs : List V) (K : AS → Prop) (s : AS) : V → Prop
  | .clo f caps => callQ P f (vs ++ caps) s d K
  | _ => False
@[simp] theorem callvK_clo {d : Nat} {vs caps : List V} {f : Nat} : callvK P d vs K s (.clo f caps) ↔ callQ P f (vs ++ caps) s d K := Iff.rfl
theorem stepO_callv {x : X} {xs : List X} : stepO P ⟨g, d, .callv x xs⟩ K s ↔ callvK P (d.getD 0) (xs.map s.ev) K s (s.ev x) := Iff.rfl
theorem stepD_call {f : Nat} {xs : List X} : stepD P ⟨g, d, .call f xs⟩ j s next ↔ ∃ d', d = some d' ∧ callD P f (xs.map s.ev) s d' ⟨g, d, .call f xs⟩ j next := Iff.rfl
end

/-! ### What the simplifier steps through: what lies behind the operation at hand is hidden from it -/

/-- Something that the simplifier doesn't look at. -/
class Hd (α : Type) where
  v : α

def oO (P : Program) (cs : List CO) (s : AS) [k : Hd (AS → Prop)] : Prop := wpO P cs k.v s
def oG (P : Program) (c : CO) (s : AS) [k : Hd (AS → Prop)] : Prop := wpG P c k.v s
def oK (P : Program) (c : CO) (t : Nat) (b : Bool) (s : AS) (v : V) [k : Hd (AS → Prop)] : Prop := guardK P c k.v s t b v
def oS (P : Program) (c : CO) (s : AS) [k : Hd (AS → Prop)] : Prop := stepO P c k.v s
def oE (d : Option Nat) (s : AS) (o : Option (Prop × Dl)) [k : Hd (AS → Prop)] : Prop := effK d k.v s o
def oC (P : Program) (b : C) (s : AS) [q : Hd (Exit → AS → Prop)] : Prop := wpC P b q.v s
def oI (P : Program) (a b : C) (s : AS) (v : V) [q : Hd (Exit → AS → Prop)] : Prop := condK (wpC P a q.v) (wpC P b q.v) s v

def oEnd [h : Hd ((List (List Nat) × AS) × List It)] : Prop := endD h.v.1.1 h.v.1.2 h.v.2
def oD (P : Program) (cs : List CO) (i : Nat) (s : AS) [z : Hd (List (List Nat) × AS)] [k : Hd (AS → Prop)] [acc : Hd (List It)] : Prop := wpD P z.v.1 z.v.2 k.v cs i acc.v s
def nxD (P : Program) (cs : List CO) (i : Nat) (it : It) (s : AS) [z : Hd (List (List Nat) × AS)] [k : Hd (AS → Prop)] [acc : Hd (List It)] : Prop := wpD P z.v.1 z.v.2 k.v cs i (acc.v ++ [it]) s
def oDG (P : Program) (c : CO) (i : Nat) (s : AS) [n : Hd (It → AS → Prop)] : Prop := match c.g with
  | none => stepD P c i s n.v
  | some (t, b) => match lk s.sl t with
    | .v (.bool v) => (v = b → stepD P c i (s.mark t (.v (.bool b))) n.v) ∧ (v = !b → n.v ⟨c, ⟨.tup [], [], []⟩, i, tchA c s⟩ ((s.mark t (.v (.bool !b))).put c.d (.tup [])))
    | .tup [] => n.v ⟨c, ⟨.tup [], [], []⟩, i, tchA c s⟩ (s.put c.d (.tup []))
    | _ => False
def oDK (P : Program) (c : CO) (i t : Nat) (b : Bool) (s : AS) (v : V) [n : Hd (It → AS → Prop)] : Prop := match v with
    | .v (.bool v) => (v = b → stepD P c i (s.mark t (.v (.bool b))) n.v) ∧ (v = !b → n.v ⟨c, ⟨.tup [], [], []⟩, i, tchA c s⟩ ((s.mark t (.v (.bool !b))).put c.d (.tup [])))
    | .tup [] => n.v ⟨c, ⟨.tup [], [], []⟩, i, tchA c s⟩ (s.put c.d (.tup []))
    | _ => False
def oDS (P : Program) (c : CO) (i : Nat) (s : AS) [n : Hd (It → AS → Prop)] : Prop := stepD P c i s n.v
def oDE (c : CO) (i : Nat) (s : AS) (o : Option (Prop × Dl)) [n : Hd (It → AS → Prop)] : Prop := effD c i s n.v o

omit gI in
theorem oEnd_of {pl : List (List Nat)} {s0 : AS} {acc : List It} (h1 : indep pl acc = true) (h2 : (acc.all fun e => e.tr.news.all s0.fresh) = true) : @oEnd ⟨((pl, s0), acc)⟩ := ⟨h1, h2⟩

section
variable {P : Program} {K K' : AS → Prop} {Q : Exit → AS → Prop} {s : AS} {cs : List CO} {c : CO} {t i j id : Nat} {g : Option (Nat × Bool)} {d : Option Nat} {o : O} {nx : It → AS → Prop} {pl : List (List Nat)} {s0 : AS} {acc : List It} {it : It} {a b : C} {ks : List Nat}
@[simp ↓] theorem wpC_h : wpC P b Q s ↔ @oC gI P b s ⟨Q⟩ := Iff.rfl
@[simp] theorem oC_skip : @oC gI P .skip s ⟨Q⟩ ↔ Q .normal s := Iff.rfl
@[simp] theorem oC_reg : @oC gI P (.reg cs ks) s ⟨Q⟩ ↔ @oO gI P cs s ⟨fun s => Q .normal (s.keep ks)⟩ := Iff.rfl
@[simp] theorem oC_regD : @oC gI P (.regD cs pl ks) s ⟨Q⟩ ↔ @oD gI P cs 0 s ⟨(pl, s)⟩ ⟨fun s => Q .normal (s.keep ks)⟩ ⟨[]⟩ := Iff.rfl
@[simp] theorem oC_seq : @oC gI P (.seq a b) s ⟨Q⟩ ↔ @oC gI P a s ⟨seqK (wpC P b Q) Q⟩ := Iff.rfl
@[simp] theorem oC_block : @oC gI P (.block id b) s ⟨Q⟩ ↔ @oC gI P b s ⟨blockK id Q⟩ := Iff.rfl
@[simp] theorem oC_loop : @oC gI P (.loop b) s ⟨Q⟩ ↔ loopQ (wpC P b) Q s := Iff.rfl
@[simp] theorem oC_exit : @oC gI P (.exit id) s ⟨Q⟩ ↔ Q (.exit id) s := Iff.rfl
@[simp] theorem oC_ret : @oC gI P .ret s ⟨Q⟩ ↔ Q .ret s := Iff.rfl
@[simp] theorem oC_bad : @oC gI P .bad s ⟨Q⟩ ↔ False := Iff.rfl
@[simp] theorem oC_cond {x : X} : @oC gI P (.cond x a b) s ⟨Q⟩ ↔ @oI gI P a b s (s.ev x) ⟨Q⟩ := wpC_cond
@[simp] theorem oI_t : @oI gI P a b s (.v (.bool true)) ⟨Q⟩ ↔ @oC gI P a s ⟨Q⟩ := condK_t
@[simp] theorem oI_f : @oI gI P a b s (.v (.bool false)) ⟨Q⟩ ↔ @oC gI P b s ⟨Q⟩ := condK_f
@[simp low] theorem oI_q {q : Bool} : @oI gI P a b s (.v (.bool q)) ⟨Q⟩ ↔ (q = true → @oC gI P a s ⟨Q⟩) ∧ (q = false → @oC gI P b s ⟨Q⟩) := condK_q
omit gI in
@[simp ↓] theorem seqK_n : seqK K Q .normal s ↔ K s := Iff.rfl
omit gI in
@[simp ↓] theorem seqK_r : seqK K Q .ret s ↔ Q .ret s := Iff.rfl
omit gI in
@[simp ↓] theorem seqK_e : seqK K Q (.exit i) s ↔ Q (.exit i) s := Iff.rfl
omit gI in
@[simp ↓] theorem blockK_n : blockK id Q .normal s ↔ Q .normal s := Iff.rfl
omit gI in
@[simp ↓] theorem blockK_r : blockK id Q .ret s ↔ Q .ret s := Iff.rfl
omit gI in
@[simp ↓] theorem blockK_e : blockK id Q (.exit i) s ↔ if i = id then Q .normal s else Q (.exit i) s := by
  rw [blockK_exit]; split <;> rfl
omit gI in
@[simp ↓] theorem keepK_h : keepK ks Q s ↔ Q .normal (s.keep ks) := Iff.rfl

@[simp] theorem oO_nil : @oO gI P [] s ⟨K⟩ ↔ K s := Iff.rfl
@[simp] theorem oO_cons : @oO gI P (c :: cs) s ⟨K⟩ ↔ @oG gI P c s ⟨fun s => @oO gI P cs s ⟨K⟩⟩ := by
  unfold oO oG; rw [wpO_cons]; rfl
@[simp ↓] theorem wpO_h : wpO P cs K s ↔ @oO gI P cs s ⟨K⟩ := Iff.rfl
@[simp] theorem oG_none : @oG gI P ⟨none, d, o⟩ s ⟨K⟩ ↔ @oS gI P ⟨none, d, o⟩ s ⟨K⟩ := Iff.rfl
@[simp] theorem oG_some {q : Bool} : @oG gI P ⟨some (t, q), d, o⟩ s ⟨K⟩ ↔ @oK gI P ⟨some (t, q), d, o⟩ t q s (lk s.sl t) ⟨K⟩ := Iff.rfl
@[simp] theorem oK_tt : @oK gI P c t true s (.v (.bool true)) ⟨K⟩ ↔ @oS gI P c (s.mark t (.v (.bool true))) ⟨K⟩ := guardK_tt
@[simp] theorem oK_ff : @oK gI P c t false s (.v (.bool false)) ⟨K⟩ ↔ @oS gI P c (s.mark t (.v (.bool false))) ⟨K⟩ := guardK_ff
@[simp] theorem oK_tf : @oK gI P c t true s (.v (.bool false)) ⟨K⟩ ↔ K ((s.mark t (.v (.bool false))).put c.d (.tup [])) := guardK_tf
@[simp] theorem oK_ft : @oK gI P c t false s (.v (.bool true)) ⟨K⟩ ↔ K ((s.mark t (.v (.bool true))).put c.d (.tup [])) := guardK_ft
@[simp] theorem oK_u {q : Bool} : @oK gI P c t q s (.tup []) ⟨K⟩ ↔ K (s.put c.d (.tup [])) := Iff.rfl
@[simp low] theorem oK_q {q v : Bool} : @oK gI P c t q s (.v (.bool v)) ⟨K⟩ ↔ (v = q → @oS gI P c (s.mark t (.v (.bool q))) ⟨K⟩) ∧ (v = !q → K ((s.mark t (.v (.bool !q))).put c.d (.tup []))) := Iff.rfl
omit [GInv] in
@[simp] theorem oE_some {p : Prop} {δ : Dl} : @oE d s (some (p, δ)) ⟨K⟩ ↔ p ∧ frK s (d.getD 0) δ.new ∧ K (s.app d δ) := effK_some
omit [GInv] in
@[simp] theorem oE_ite {p : Prop} [Decidable p] {x : Option (Prop × Dl)} : @oE d s (if p then x else none) ⟨K⟩ ↔ p ∧ @oE d s x ⟨K⟩ := effK_ite
@[simp] theorem oS_call {f : Nat} {xs : List X} : @oS gI P ⟨g, d, .call f xs⟩ s ⟨K⟩ ↔ callQ P f (xs.map s.ev) s (d.getD 0) K := Iff.rfl
@[simp] theorem oS_callv {x : X} {xs : List X} : @oS gI P ⟨g, d, .callv x xs⟩ s ⟨K⟩ ↔ callvK P (d.getD 0) (xs.map s.ev) K s (s.ev x) := stepO_callv

@[simp ↓] theorem wpD_h : wpD P pl s0 K cs i acc s ↔ @oD gI P cs i s ⟨(pl, s0)⟩ ⟨K⟩ ⟨acc⟩ := Iff.rfl
@[simp] theorem oD_nil : @oD gI P [] i s ⟨(pl, s0)⟩ ⟨K⟩ ⟨acc⟩ ↔ (@oEnd ⟨((pl, s0), acc)⟩ ∧ K s) := wpD_end
@[simp] theorem oD_cons : @oD gI P (c :: cs) i s ⟨(pl, s0)⟩ ⟨K⟩ ⟨acc⟩ ↔ @oDG gI P c i s ⟨fun it s => @nxD gI P cs (i + 1) it s ⟨(pl, s0)⟩ ⟨K⟩ ⟨acc⟩⟩ := by
  unfold oD oDG; rw [wpD]; rfl
@[simp] theorem nxD_h : @nxD gI P cs i it s ⟨(pl, s0)⟩ ⟨K⟩ ⟨acc⟩ ↔ @oD gI P cs i s ⟨(pl, s0)⟩ ⟨K⟩ ⟨acc ++ [it]⟩ := Iff.rfl
@[simp] theorem oDG_none : @oDG gI P ⟨none, d, o⟩ i s ⟨nx⟩ ↔ @oDS gI P ⟨none, d, o⟩ i s ⟨nx⟩ := Iff.rfl
@[simp] theorem oDG_some {q : Bool} : @oDG gI P ⟨some (t, q), d, o⟩ i s ⟨nx⟩ ↔ @oDK gI P ⟨some (t, q), d, o⟩ i t q s (lk s.sl t) ⟨nx⟩ := Iff.rfl
@[simp] theorem oDK_tt : @oDK gI P c i t true s (.v (.bool true)) ⟨nx⟩ ↔ @oDS gI P c i (s.mark t (.v (.bool true))) ⟨nx⟩ := by simp [oDK, oDS]
@[simp] theorem oDK_ff : @oDK gI P c i t false s (.v (.bool false)) ⟨nx⟩ ↔ @oDS gI P c i (s.mark t (.v (.bool false))) ⟨nx⟩ := by simp [oDK, oDS]
@[simp] theorem oDK_tf : @oDK gI P c i t true s (.v (.bool false)) ⟨nx⟩ ↔ nx ⟨c, ⟨.tup [], [], []⟩, i, tchA c s⟩ ((s.mark t (.v (.bool false))).put c.d (.tup [])) := by simp [oDK]
@[simp] theorem oDK_ft : @oDK gI P c i t false s (.v (.bool true)) ⟨nx⟩ ↔ nx ⟨c, ⟨.tup [], [], []⟩, i, tchA c s⟩ ((s.mark t (.v (.bool true))).put c.d (.tup [])) := by simp [oDK]
@[simp] theorem oDK_u {q : Bool} : @oDK gI P c i t q s (.tup []) ⟨nx⟩ ↔ nx ⟨c, ⟨.tup [], [], []⟩, i, tchA c s⟩ (s.put c.d (.tup [])) := Iff.rfl
@[simp low] theorem oDK_q {q v : Bool} : @oDK gI P c i t q s (.v (.bool v)) ⟨nx⟩ ↔ (v = q → @oDS gI P c i (s.mark t (.v (.bool q))) ⟨nx⟩) ∧ (v = !q → nx ⟨c, ⟨.tup [], [], []⟩, i, tchA c s⟩ ((s.mark t (.v (.bool !q))).put c.d (.tup []))) := Iff.rfl
omit [GInv] in
@[simp] theorem oDE_some {p : Prop} {δ : Dl} : @oDE c i s (some (p, δ)) ⟨nx⟩ ↔ p ∧ (δ.new.isSome = true → c.d.isSome = true) ∧ nx ⟨c, trOf δ c.d, i, tchA c s⟩ (s.app c.d δ) := Iff.rfl
omit [GInv] in
@[simp] theorem oDE_ite {p : Prop} [Decidable p] {x : Option (Prop × Dl)} : @oDE c i s (if p then x else none) ⟨nx⟩ ↔ p ∧ @oDE c i s x ⟨nx⟩ := by
  by_cases h : p <;> simp only [h, if_true, if_false, true_and, false_and] <;> exact Iff.rfl
@[simp] theorem oDS_call {f : Nat} {xs : List X} : @oDS gI P ⟨g, d, .call f xs⟩ j s ⟨nx⟩ ↔ ∃ d', d = some d' ∧ callD P f (xs.map s.ev) s d' ⟨g, d, .call f xs⟩ j nx := Iff.rfl
def callvD (P : Program) (d : Option Nat) (vs : List V) (c : CO) (i : Nat) (nx : It → AS → Prop) (s : AS) : V → Prop
  | .clo f caps => ∃ d', d = some d' ∧ callD P f (vs ++ caps) s d' c i nx
  | _ => False
@[simp] theorem callvD_clo {vs caps : List V} {f : Nat} : callvD P d vs c i nx s (.clo f caps) ↔ ∃ d', d = some d' ∧ callD P f (vs ++ caps) s d' c i nx := Iff.rfl
theorem stepD_callv {x : X} {xs : List X} : stepD P ⟨g, d, .callv x xs⟩ j s nx ↔ callvD P d (xs.map s.ev) ⟨g, d, .callv x xs⟩ j nx s (s.ev x) := by
  unfold stepD callvD
  simp only
  cases s.ev x <;> simp
@[simp] theorem oDS_callv {x : X} {xs : List X} : @oDS gI P ⟨g, d, .callv x xs⟩ j s ⟨nx⟩ ↔ callvD P d (xs.map s.ev) ⟨g, d, .callv x xs⟩ j nx s (s.ev x) := stepD_callv
@[simp] theorem oS_mv {x : X} : @oS gI P ⟨g, d, .mv x⟩ s ⟨K⟩ ↔ @oE d s (pure1 (s.ev x)) ⟨K⟩ := stepO_mv
@[simp] theorem oDS_mv {x : X} : @oDS gI P ⟨g, d, .mv x⟩ j s ⟨nx⟩ ↔ @oDE ⟨g, d, .mv x⟩ j s (pure1 (s.ev x)) ⟨nx⟩ := stepD_mv
@[simp] theorem oS_pick {c a b : X} : @oS gI P ⟨g, d, .pick c a b⟩ s ⟨K⟩ ↔ @oE d s (pickV (s.ev c) (s.ev a) (s.ev b)) ⟨K⟩ := stepO_pick
@[simp] theorem oDS_pick {c a b : X} : @oDS gI P ⟨g, d, .pick c a b⟩ j s ⟨nx⟩ ↔ @oDE ⟨g, d, .pick c a b⟩ j s (pickV (s.ev c) (s.ev a) (s.ev b)) ⟨nx⟩ := stepD_pick
@[simp] theorem oS_box {n : Nat} {x : X} : @oS gI P ⟨g, d, .box n x⟩ s ⟨K⟩ ↔ @oE d s (vbox n (s.ev x) (d.getD 0)) ⟨K⟩ := stepO_box
@[simp] theorem oDS_box {n : Nat} {x : X} : @oDS gI P ⟨g, d, .box n x⟩ j s ⟨nx⟩ ↔ @oDE ⟨g, d, .box n x⟩ j s (vbox n (s.ev x) (d.getD 0)) ⟨nx⟩ := stepD_box
@[simp] theorem oS_build {z : V} {ps : List (Nat × Nat × X)} : @oS gI P ⟨g, d, .build z ps⟩ s ⟨K⟩ ↔ @oE d s (vbuild s.ev z ps) ⟨K⟩ := stepO_build
@[simp] theorem oDS_build {z : V} {ps : List (Nat × Nat × X)} : @oDS gI P ⟨g, d, .build z ps⟩ j s ⟨nx⟩ ↔ @oDE ⟨g, d, .build z ps⟩ j s (vbuild s.ev z ps) ⟨nx⟩ := stepD_build
@[simp] theorem oS_bslice {sz : Nat} {z : V} {n : Nat} {ps : List (Nat × X)} : @oS gI P ⟨g, d, .bslice sz z n ps⟩ s ⟨K⟩ ↔ @oE d s (vbslice s.ev sz z n (d.getD 0) ps) ⟨K⟩ := stepO_bslice
@[simp] theorem oDS_bslice {sz : Nat} {z : V} {n : Nat} {ps : List (Nat × X)} : @oDS gI P ⟨g, d, .bslice sz z n ps⟩ j s ⟨nx⟩ ↔ @oDE ⟨g, d, .bslice sz z n ps⟩ j s (vbslice s.ev sz z n (d.getD 0) ps) ⟨nx⟩ := stepD_bslice
@[simp] theorem oS_ld {b : Bool} {n : Nat} {x : X} : @oS gI P ⟨g, d, .ld b n x⟩ s ⟨K⟩ ↔ @oE d s (vld b n (lkb s.hp) (s.ev x)) ⟨K⟩ := stepO_ld
@[simp] theorem oDS_ld {b : Bool} {n : Nat} {x : X} : @oDS gI P ⟨g, d, .ld b n x⟩ j s ⟨nx⟩ ↔ @oDE ⟨g, d, .ld b n x⟩ j s (vld b n (lkb s.hp) (s.ev x)) ⟨nx⟩ := stepD_ld
@[simp] theorem oS_st {n : Nat} {a x : X} : @oS gI P ⟨g, d, .st n a x⟩ s ⟨K⟩ ↔ @oE d s (vst n (lkb s.hp) (s.ev x) (s.ev a)) ⟨K⟩ := stepO_st
@[simp] theorem oDS_st {n : Nat} {a x : X} : @oDS gI P ⟨g, d, .st n a x⟩ j s ⟨nx⟩ ↔ @oDE ⟨g, d, .st n a x⟩ j s (vst n (lkb s.hp) (s.ev x) (s.ev a)) ⟨nx⟩ := stepD_st
@[simp] theorem oS_bin {op : BinOp} {k : EqK} {x y : X} : @oS gI P ⟨g, d, .bin op k x y⟩ s ⟨K⟩ ↔ @oE d s (vbin op k (s.ev x) (s.ev y)) ⟨K⟩ := stepO_bin
@[simp] theorem oDS_bin {op : BinOp} {k : EqK} {x y : X} : @oDS gI P ⟨g, d, .bin op k x y⟩ j s ⟨nx⟩ ↔ @oDE ⟨g, d, .bin op k x y⟩ j s (vbin op k (s.ev x) (s.ev y)) ⟨nx⟩ := stepD_bin
@[simp] theorem oS_un {op : UnOp} {x : X} : @oS gI P ⟨g, d, .un op x⟩ s ⟨K⟩ ↔ @oE d s (vun op (s.ev x)) ⟨K⟩ := stepO_un
@[simp] theorem oDS_un {op : UnOp} {x : X} : @oDS gI P ⟨g, d, .un op x⟩ j s ⟨nx⟩ ↔ @oDE ⟨g, d, .un op x⟩ j s (vun op (s.ev x)) ⟨nx⟩ := stepD_un
@[simp] theorem oS_conv {c : CK} {x : X} : @oS gI P ⟨g, d, .conv c x⟩ s ⟨K⟩ ↔ @oE d s (vconv c (lkb s.hp) (d.getD 0) (s.ev x)) ⟨K⟩ := stepO_conv
@[simp] theorem oDS_conv {c : CK} {x : X} : @oDS gI P ⟨g, d, .conv c x⟩ j s ⟨nx⟩ ↔ @oDE ⟨g, d, .conv c x⟩ j s (vconv c (lkb s.hp) (d.getD 0) (s.ev x)) ⟨nx⟩ := stepD_conv
@[simp] theorem oS_clo {f : Nat} {cs : List X} : @oS gI P ⟨g, d, .clo f cs⟩ s ⟨K⟩ ↔ @oE d s (pure1 (.clo f (cs.map s.ev))) ⟨K⟩ := stepO_clo
@[simp] theorem oDS_clo {f : Nat} {cs : List X} : @oDS gI P ⟨g, d, .clo f cs⟩ j s ⟨nx⟩ ↔ @oDE ⟨g, d, .clo f cs⟩ j s (pure1 (.clo f (cs.map s.ev))) ⟨nx⟩ := stepD_clo
@[simp] theorem oS_mks {sz : Nat} {z : V} {bytes : Nat} {l c : X} : @oS gI P ⟨g, d, .mks sz z bytes l c⟩ s ⟨K⟩ ↔ @oE d s (vmks sz bytes z (d.getD 0) (s.ev l) (s.ev c)) ⟨K⟩ := stepO_mks
@[simp] theorem oDS_mks {sz : Nat} {z : V} {bytes : Nat} {l c : X} : @oDS gI P ⟨g, d, .mks sz z bytes l c⟩ j s ⟨nx⟩ ↔ @oDE ⟨g, d, .mks sz z bytes l c⟩ j s (vmks sz bytes z (d.getD 0) (s.ev l) (s.ev c)) ⟨nx⟩ := stepD_mks
@[simp] theorem oS_slc {sz : Option Nat} {x : X} {lo hi : Option X} : @oS gI P ⟨g, d, .slc sz x lo hi⟩ s ⟨K⟩ ↔ @oE d s (vslc sz (lkb s.hp) (s.ev x) (lo.map s.ev) (hi.map s.ev)) ⟨K⟩ := stepO_slc
@[simp] theorem oDS_slc {sz : Option Nat} {x : X} {lo hi : Option X} : @oDS gI P ⟨g, d, .slc sz x lo hi⟩ j s ⟨nx⟩ ↔ @oDE ⟨g, d, .slc sz x lo hi⟩ j s (vslc sz (lkb s.hp) (s.ev x) (lo.map s.ev) (hi.map s.ev)) ⟨nx⟩ := stepD_slc
@[simp] theorem oS_faddr {off : Nat} {x : X} : @oS gI P ⟨g, d, .faddr off x⟩ s ⟨K⟩ ↔ @oE d s (vfaddr off (s.ev x)) ⟨K⟩ := stepO_faddr
@[simp] theorem oDS_faddr {off : Nat} {x : X} : @oDS gI P ⟨g, d, .faddr off x⟩ j s ⟨nx⟩ ↔ @oDE ⟨g, d, .faddr off x⟩ j s (vfaddr off (s.ev x)) ⟨nx⟩ := stepD_faddr
@[simp] theorem oS_fld {b : Bool} {off n : Nat} {x : X} : @oS gI P ⟨g, d, .fld b off n x⟩ s ⟨K⟩ ↔ @oE d s (vfld b off n (s.ev x)) ⟨K⟩ := stepO_fld
@[simp] theorem oDS_fld {b : Bool} {off n : Nat} {x : X} : @oDS gI P ⟨g, d, .fld b off n x⟩ j s ⟨nx⟩ ↔ @oDE ⟨g, d, .fld b off n x⟩ j s (vfld b off n (s.ev x)) ⟨nx⟩ := stepD_fld
@[simp] theorem oS_iaddr {sz : Nat} {x i : X} : @oS gI P ⟨g, d, .iaddr sz x i⟩ s ⟨K⟩ ↔ @oE d s (viaddr sz (lkb s.hp) (s.ev x) (s.ev i)) ⟨K⟩ := stepO_iaddr
@[simp] theorem oDS_iaddr {sz : Nat} {x i : X} : @oDS gI P ⟨g, d, .iaddr sz x i⟩ j s ⟨nx⟩ ↔ @oDE ⟨g, d, .iaddr sz x i⟩ j s (viaddr sz (lkb s.hp) (s.ev x) (s.ev i)) ⟨nx⟩ := stepD_iaddr
@[simp] theorem oS_idx {x i : X} : @oS gI P ⟨g, d, .idx x i⟩ s ⟨K⟩ ↔ @oE d s (vidx (s.ev x) (s.ev i)) ⟨K⟩ := stepO_idx
@[simp] theorem oDS_idx {x i : X} : @oDS gI P ⟨g, d, .idx x i⟩ j s ⟨nx⟩ ↔ @oDE ⟨g, d, .idx x i⟩ j s (vidx (s.ev x) (s.ev i)) ⟨nx⟩ := stepD_idx
@[simp] theorem oS_ext {x : X} {i : Nat} : @oS gI P ⟨g, d, .ext x i⟩ s ⟨K⟩ ↔ @oE d s (vext i (s.ev x)) ⟨K⟩ := stepO_ext
@[simp] theorem oDS_ext {x : X} {i : Nat} : @oDS gI P ⟨g, d, .ext x i⟩ j s ⟨nx⟩ ↔ @oDE ⟨g, d, .ext x i⟩ j s (vext i (s.ev x)) ⟨nx⟩ := stepD_ext
@[simp] theorem oS_len {b : Bool} {x : X} : @oS gI P ⟨g, d, .len b x⟩ s ⟨K⟩ ↔ @oE d s (vlen b (s.ev x)) ⟨K⟩ := stepO_len
@[simp] theorem oDS_len {b : Bool} {x : X} : @oDS gI P ⟨g, d, .len b x⟩ j s ⟨nx⟩ ↔ @oDE ⟨g, d, .len b x⟩ j s (vlen b (s.ev x)) ⟨nx⟩ := stepD_len
@[simp] theorem oS_app {sz bytes : Nat} {x y : X} : @oS gI P ⟨g, d, .app sz bytes x y⟩ s ⟨K⟩ ↔ @oE d s (vapp sz bytes (lkb s.hp) (d.getD 0) (s.ev y) (s.ev x)) ⟨K⟩ := stepO_app
@[simp] theorem oDS_app {sz bytes : Nat} {x y : X} : @oDS gI P ⟨g, d, .app sz bytes x y⟩ j s ⟨nx⟩ ↔ @oDE ⟨g, d, .app sz bytes x y⟩ j s (vapp sz bytes (lkb s.hp) (d.getD 0) (s.ev y) (s.ev x)) ⟨nx⟩ := stepD_app
@[simp] theorem oS_mm {b : Bool} {xs : List X} : @oS gI P ⟨g, d, .mm b xs⟩ s ⟨K⟩ ↔ @oE d s (vmm b (xs.map s.ev)) ⟨K⟩ := stepO_mm
@[simp] theorem oDS_mm {b : Bool} {xs : List X} : @oDS gI P ⟨g, d, .mm b xs⟩ j s ⟨nx⟩ ↔ @oDE ⟨g, d, .mm b xs⟩ j s (vmm b (xs.map s.ev)) ⟨nx⟩ := stepD_mm
end

theorem callQ_of {P : Program} {f : Nat} {vs : List V} {s : AS} {d : Nat} {K : AS → Prop} {res : V} (h : PCall P f (vs.map (borrow (lkb s.hp) 6)) res)
    (h1 : resOk res = true) (h2 : noRo res = true ∨ (noIdss vs = true ∧ noOwns vs = true)) (h3 : (List.range (take d 0 res).2.2).all (fun i => s.fresh (d + 1000 * i)) = true) (h4 : K (s.took d res)) : callQ P f vs s d K := .inl ⟨res, h, h1, h2, h3, h4⟩

omit [GInv] in
theorem took_v (s : AS) (d : Nat) (x : Value) : s.took d (.v x) = s.put (some d) (.v x) := by simp [AS.took, take, AS.put]

/-- A call that returns one plain value. -/
theorem callQ_v {P : Program} {f : Nat} {vs : List V} {s : AS} {d : Nat} {K : AS → Prop} {x : Value} (h : PCall P f (vs.map (borrow (lkb s.hp) 6)) (.v x)) (h4 : K (s.put (some d) (.v x))) : callQ P f vs s d K :=
  callQ_of h rfl (.inl rfl) (by simp [take]) (by rw [took_v]; exact h4)

theorem PCall.arg {P : Program} {f : Nat} {args args' : List V} {res : V} (h : PCall P f args res) (e : args' = args) : PCall P f args' res := by rw [e]; exact h
theorem MCall.arg {P : Program} {f : Nat} {args args' : List V} {res : V} {H0 : List Blk} {H1 : List (Option Blk)} (h : MCall P f H0 args res H1) (e : args' = args) : MCall P f H0 args' res H1 := by rw [e]; exact h

/-- A call in a statement whose order is open. -/
theorem callD_v {P : Program} {f : Nat} {vs : List V} {s : AS} {d i : Nat} {c : CO} {next : It → AS → Prop} {x : Value} (h : PCall P f (vs.map (borrow (lkb s.hp) 6)) (.v x)) (h1 : noOwns vs = true)
    (h2 : (idsVs vs).all (fun id => match lkb s.hp id with | some b => deeps b.es | none => true) = true) (h3 : next ⟨c, trTake d (.v x), i, tchA c s⟩ (s.put (some d) (.v x))) : callD P f vs s d c i next :=
  .inl ⟨.v x, h, rfl, .inl rfl, h1, h2, by rw [took_v]; exact h3⟩
theorem callD_of {P : Program} {f : Nat} {vs : List V} {s : AS} {d i : Nat} {c : CO} {next : It → AS → Prop} {res : V} (h : PCall P f (vs.map (borrow (lkb s.hp) 6)) res) (h0 : resOk res = true) (hr : noRo res = true ∨ (noIdss vs = true ∧ noOwns vs = true)) (h1 : noOwns vs = true)
    (h2 : (idsVs vs).all (fun id => match lkb s.hp id with | some b => deeps b.es | none => true) = true) (h3 : next ⟨c, trTake d res, i, tchA c s⟩ (s.took d res)) : callD P f vs s d c i next :=
  .inl ⟨res, h, h0, hr, h1, h2, h3⟩
theorem callD_M {P : Program} {f : Nat} {vs : List V} {s : AS} {d i : Nat} {c : CO} {next : It → AS → Prop} {res : V} (M Z : List Nat) {H0 l : List Blk} (h : MCall P f H0 (vs.map (lend M (onlyZ Z (lkb s.hp)) 6)) res (l.map some))
    (h1 : M.Nodup) (hz : (Z.all fun z => !M.contains z) = true) (h2 : M.map (lkb s.hp) = H0.map some) (h3 : ∀ blk ∈ H0, noIdss blk.es = true) (h4 : outIds (l.map some) = true) (h5 : resOk res = true) (h6 : (M.all fun id => (idsVs vs).contains id) = true) (h7 : (Z.all fun id => (idsVs vs).contains id) = true)
    (h8 : next ⟨c, trM d M Z l res, i, tchA c s⟩ (((s.sunk Z).wrote M (l.map some)).took d res)) : callD P f vs s d c i next := .inr ⟨M, Z, H0, l, res, h, h1, hz, h2, h3, h4, h5, h6, h7, h8⟩
attribute [simp] trM
attribute [simp] deeps indep ind offSlots Tr.free trOf trTake tchA xsT xsO idsVs rdS

/-- A call that writes blocks and returns one plain value. -/
theorem callQ_m {P : Program} {f : Nat} {vs : List V} {s : AS} {d : Nat} {K : AS → Prop} {x : Value} (M : List Nat) {H0 : List Blk} {H1 : List (Option Blk)} (h : MCall P f H0 (vs.map (lend M (lkb s.hp) 6)) (.v x) H1)
    (h1 : M.Nodup) (h2 : M.map (lkb s.hp) = H0.map some) (h3 : ∀ blk ∈ H0, noIdss blk.es = true) (h4 : outOk H1 = true) (h5 : K ((s.wrote M H1).put (some d) (.v x))) : callQ P f vs s d K :=
  .inr <| .inl ⟨M, H0, .v x, H1, h, h1, h2, h3, h4, rfl, rfl, by simp [take], by rw [took_v]; exact h5⟩
theorem callQ_M {P : Program} {f : Nat} {vs : List V} {s : AS} {d : Nat} {K : AS → Prop} {res : V} (M : List Nat) {H0 : List Blk} {H1 : List (Option Blk)} (h : MCall P f H0 (vs.map (lend M (lkb s.hp) 6)) res H1)
    (h1 : M.Nodup) (h2 : M.map (lkb s.hp) = H0.map some) (h3 : ∀ blk ∈ H0, noIdss blk.es = true) (h4 : outOk H1 = true) (h5 : resOk res = true) (h6 : noRo res = true)
    (h7 : (List.range (take d 0 res).2.2).all (fun i => (s.wrote M H1).fresh (d + 1000 * i)) = true) (h8 : K ((s.wrote M H1).took d res)) : callQ P f vs s d K :=
  .inr <| .inl ⟨M, H0, res, H1, h, h1, h2, h3, h4, h5, h6, h7, h8⟩
attribute [simp] mid hpM AS.minit stayK lend lend0 idx? offM AS.wrote wroteL outOk stayAll

def retOk (res : V) : Option (Prop × V × List Nat) → Prop
  | some (p, r, ids) => p ∧ r = res ∧ ids.Nodup
  | none => False
def retOn (look : Nat → Option Blk) (res : V) : Option (List V) → Prop
  | some vs => retOk res (give look (tupV vs))
  | none => False
attribute [simp] retOk retOn

omit [GInv] in
theorem Ret_eq {rs : List RV} {res : V} {s : AS} : (∃ vs p ids, retV s rs = some vs ∧ give (lkb s.hp) (tupV vs) = some (p, res, ids) ∧ p ∧ ids.Nodup) ↔ retOn (lkb s.hp) res (retV s rs) := by
  cases h : retV s rs with
  | none => simp [retOn]
  | some vs =>
    simp only [retOn, Option.some.injEq]
    cases h2 : give (lkb s.hp) (tupV vs) with
    | none =>
      simp only [retOk, iff_false]
      rintro ⟨vs', p, ids, rfl, h3, _⟩; rw [h2] at h3; cases h3
    | some y =>
      obtain ⟨p, r, ids⟩ := y
      simp only [retOk]
      constructor
      · rintro ⟨vs', p', ids', rfl, h3, h4, h5⟩
        rw [h2] at h3; cases h3; exact ⟨h4, rfl, h5⟩
      · rintro ⟨h4, rfl, h5⟩; exact ⟨vs, p, ids, rfl, h2, h4, h5⟩
omit [GInv] in
theorem Ret_ret {rs : List RV} {res : V} {s : AS} : Ret rs res .ret s ↔ retOn (lkb s.hp) res (retV s rs) := by rw [← Ret_eq]; simp [Ret]
omit [GInv] in
theorem Ret_normal {rs : List RV} {res : V} {s : AS} : Ret rs res .normal s ↔ retOn (lkb s.hp) res (retV s rs) := by rw [← Ret_eq]; simp [Ret]
omit [GInv] in
theorem Ret_exit {rs : List RV} {res : V} {s : AS} {i : Nat} : Ret rs res (.exit i) s ↔ False := by simp [Ret]
attribute [simp] Ret_ret Ret_normal Ret_exit

def mretOk (look : Nat → Option Blk) (res : V) (H1 : List (Option Blk)) : Option (Prop × V × List Nat) → Prop
  | some (p, r, ids) => p ∧ r = res ∧ (ids ++ (stayK H1 0).map mid).Nodup ∧ stayAll look H1 0
  | none => False
def mretOn (look : Nat → Option Blk) (res : V) (H1 : List (Option Blk)) : Option (List V) → Prop
  | some vs => mretOk look res H1 (give look (tupV vs))
  | none => False
attribute [simp] mretOk mretOn
omit [GInv] in
theorem MRet_eq {rs : List RV} {res : V} {s : AS} {H1 : List (Option Blk)} : (∃ vs p ids, retV s rs = some vs ∧ give (lkb s.hp) (tupV vs) = some (p, res, ids) ∧ p ∧ (ids ++ (stayK H1 0).map mid).Nodup ∧ stayAll (lkb s.hp) H1 0) ↔ mretOn (lkb s.hp) res H1 (retV s rs) := by
  cases h : retV s rs with
  | none => simp only [mretOn, iff_false]; rintro ⟨vs, p, ids, e, _⟩; cases e
  | some vs =>
    simp only [mretOn, Option.some.injEq]
    cases h2 : give (lkb s.hp) (tupV vs) with
    | none =>
      simp only [mretOk, iff_false]
      rintro ⟨vs', p, ids, rfl, h3, _⟩; rw [h2] at h3; cases h3
    | some y =>
      obtain ⟨p, r, ids⟩ := y
      simp only [mretOk]
      constructor
      · rintro ⟨vs', p', ids', rfl, h3, h4, h5⟩
        rw [h2] at h3; cases h3; exact ⟨h4, rfl, h5⟩
      · rintro ⟨h4, rfl, h5⟩; exact ⟨vs, p, ids, rfl, h2, h4, h5⟩
omit [GInv] in
@[simp] theorem MRet_ret {rs : List RV} {res : V} {H1 : List (Option Blk)} {s : AS} : MRet rs res H1 .ret s ↔ mretOn (lkb s.hp) res H1 (retV s rs) := by rw [← MRet_eq]; simp [MRet]
omit [GInv] in
@[simp] theorem MRet_normal {rs : List RV} {res : V} {H1 : List (Option Blk)} {s : AS} : MRet rs res H1 .normal s ↔ mretOn (lkb s.hp) res H1 (retV s rs) := by rw [← MRet_eq]; simp [MRet]
omit [GInv] in
@[simp] theorem MRet_exit {rs : List RV} {res : V} {H1 : List (Option Blk)} {s : AS} {i : Nat} : MRet rs res H1 (.exit i) s ↔ False := by simp [MRet]


/-! ### Two ways that meet -/
def joinK (J : AS → Prop) (Q : Exit → AS → Prop) : Exit → AS → Prop
  | .normal => J
  | e => Q e
omit [GInv] in
@[simp ↓] theorem joinK_n {J : AS → Prop} {Q : Exit → AS → Prop} {s : AS} : joinK J Q .normal s ↔ J s := Iff.rfl
omit [GInv] in
@[simp ↓] theorem joinK_r {J : AS → Prop} {Q : Exit → AS → Prop} {s : AS} : joinK J Q .ret s ↔ Q .ret s := Iff.rfl
omit [GInv] in
@[simp ↓] theorem joinK_e {J : AS → Prop} {Q : Exit → AS → Prop} {i : Nat} {s : AS} : joinK J Q (.exit i) s ↔ Q (.exit i) s := Iff.rfl
/-- Behind a test both ways lead to J. -/
theorem oI_join {P : Program} {a b : C} {s : AS} {v : V} {Q : Exit → AS → Prop} (J : AS → Prop) (h : @oI gI P a b s v ⟨joinK J Q⟩) (hJ : ∀ sl hp pin, J ⟨sl, hp, pin⟩ → Q .normal ⟨sl, hp, pin⟩) : @oI gI P a b s v ⟨Q⟩ := by
  have hm : ∀ (e : Exit) (s' : AS), joinK J Q e s' → Q e s' := fun e s' h => by
    cases e with
    | normal => exact hJ _ _ _ h
    | _ => exact h
  unfold oI condK at h ⊢
  split at h
  · exact ⟨fun e => wpC_mono a s hm (h.1 e), fun e => wpC_mono b s hm (h.2 e)⟩
  · exact h.elim

/-! ### Results of which less is told -/
section
omit [GInv]
@[simp] theorem leV_tup (as bs : List V) : leV (.tup as) (.tup bs) ↔ leVs as bs := by simp [leV]
@[simp] theorem leV_agg (as bs : List V) : leV (.agg as) (.agg bs) ↔ leVs as bs := by simp [leV]
@[simp] theorem leV_nil (x : Value) (n : Nat) (es : List V) : leV (.v x) (.own n es) ↔ x = .slice none 0 0 ∧ es = [] := by simp [leV]
@[simp] theorem leV_v (x y : Value) : leV (.v x) (.v y) ↔ x = y := by simp [leV]
@[simp] theorem leV_own (n m : Nat) (as bs : List V) : leV (.own n as) (.own m bs) ↔ n = m ∧ as = bs := by simp [leV]
@[simp] theorem leVs_nil : leVs [] [] ↔ True := by simp [leVs]
@[simp] theorem leVs_cons (a b : V) (as bs : List V) : leVs (a :: as) (b :: bs) ↔ leV a b ∧ leVs as bs := by simp [leVs]
end

def retOkL (res : V) : Option (Prop × V × List Nat) → Prop
  | some (p, r, ids) => p ∧ leV r res ∧ ids.Nodup
  | none => False
def retOnL (look : Nat → Option Blk) (res : V) : Option (List V) → Prop
  | some vs => retOkL res (give look (tupV vs))
  | none => False
attribute [simp] retOkL retOnL
omit [GInv] in
theorem RetL_eq {rs : List RV} {res : V} {s : AS} : (∃ vs p r ids, retV s rs = some vs ∧ give (lkb s.hp) (tupV vs) = some (p, r, ids) ∧ p ∧ ids.Nodup ∧ leV r res) ↔ retOnL (lkb s.hp) res (retV s rs) := by
  cases h : retV s rs with
  | none => simp [retOnL]
  | some vs =>
    simp only [retOnL, Option.some.injEq]
    cases h2 : give (lkb s.hp) (tupV vs) with
    | none =>
      simp only [retOkL, iff_false]
      rintro ⟨vs', p, r, ids, rfl, h3, _⟩; rw [h2] at h3; cases h3
    | some y =>
      obtain ⟨p, r, ids⟩ := y
      simp only [retOkL]
      constructor
      · rintro ⟨vs', p', r', ids', rfl, h3, h4, h5, h6⟩
        rw [h2] at h3; cases h3; exact ⟨h4, h6, h5⟩
      · rintro ⟨h4, h6, h5⟩; exact ⟨vs, p, r, ids, rfl, h2, h4, h5, h6⟩
omit [GInv] in
@[simp] theorem RetL_ret {rs : List RV} {res : V} {s : AS} : RetL rs res .ret s ↔ retOnL (lkb s.hp) res (retV s rs) := by rw [← RetL_eq]; simp [RetL]
omit [GInv] in
@[simp] theorem RetL_normal {rs : List RV} {res : V} {s : AS} : RetL rs res .normal s ↔ retOnL (lkb s.hp) res (retV s rs) := by rw [← RetL_eq]; simp [RetL]
omit [GInv] in
@[simp] theorem RetL_exit {rs : List RV} {res : V} {s : AS} {i : Nat} : RetL rs res (.exit i) s ↔ False := by simp [RetL]

def mretOkR (R : V → List Blk → Prop) (N : Nat) : Option (Prop × V × List Nat) → Option (List Blk) → Prop
  | some (p, r, ids), some l => p ∧ (ids ++ (List.range N).map mid).Nodup ∧ (l.all fun b => noIdss b.es) = true ∧ R r l
  | _, _ => False
def mretOnR (look : Nat → Option Blk) (R : V → List Blk → Prop) (N : Nat) : Option (List V) → Prop
  | some vs => mretOkR R N (give look (tupV vs)) (lookN look 0 N)
  | none => False
attribute [simp] mretOkR mretOnR lookN
omit [GInv] in
theorem MRetR_eq {rs : List RV} {R : V → List Blk → Prop} {N : Nat} {s : AS} : (∃ vs p res ids l, retV s rs = some vs ∧ give (lkb s.hp) (tupV vs) = some (p, res, ids) ∧ p ∧ (ids ++ (List.range N).map mid).Nodup ∧ lookN (lkb s.hp) 0 N = some l ∧ (l.all fun b => noIdss b.es) = true ∧ R res l) ↔ mretOnR (lkb s.hp) R N (retV s rs) := by
  cases h : retV s rs with
  | none => simp only [mretOnR, iff_false]; rintro ⟨vs, p, r, ids, l, e, _⟩; cases e
  | some vs =>
    simp only [mretOnR]
    constructor
    · rintro ⟨vs', p, r, ids, l, e, h1, h2, h3, h4, h5, h6⟩
      cases e
      rw [h1, h4]
      exact ⟨h2, h3, h5, h6⟩
    · intro hm
      unfold mretOkR at hm
      split at hm
      · rename_i p r ids l h1 h2
        exact ⟨vs, p, r, ids, l, rfl, h1, hm.1, hm.2.1, h2, hm.2.2.1, hm.2.2.2⟩
      · exact hm.elim
omit [GInv] in
@[simp] theorem MRetR_ret {rs : List RV} {R : V → List Blk → Prop} {N : Nat} {s : AS} : MRetR rs R N .ret s ↔ mretOnR (lkb s.hp) R N (retV s rs) := by rw [← MRetR_eq]; simp [MRetR]
omit [GInv] in
@[simp] theorem MRetR_normal {rs : List RV} {R : V → List Blk → Prop} {N : Nat} {s : AS} : MRetR rs R N .normal s ↔ mretOnR (lkb s.hp) R N (retV s rs) := by rw [← MRetR_eq]; simp [MRetR]
omit [GInv] in
@[simp] theorem MRetR_exit {rs : List RV} {R : V → List Blk → Prop} {N : Nat} {s : AS} {i : Nat} : MRetR rs R N (.exit i) s ↔ False := by simp [MRetR]

/-- A call of which only R is told. -/
theorem callQ_R {P : Program} {f : Nat} {vs : List V} {s : AS} {d : Nat} {K : AS → Prop} (M : List Nat) {H0 : List Blk} {R : V → List Blk → Prop} (h : MCallR P f H0 (vs.map (lend M (lkb s.hp) 6)) R)
    (h1 : M.Nodup) (h2 : M.map (lkb s.hp) = H0.map some) (h3 : ∀ blk ∈ H0, noIdss blk.es = true)
    (h4 : ∀ res l, R res l → l.length = H0.length → outOk (l.map some) = true ∧ resOk res = true ∧ noRo res = true ∧ (List.range (take d 0 res).2.2).all (fun i => (s.wrote M (l.map some)).fresh (d + 1000 * i)) = true ∧ K ((s.wrote M (l.map some)).took d res)) : callQ P f vs s d K :=
  .inr <| .inr <| .inl ⟨M, H0, R, h, h1, h2, h3, h4⟩
/-- Calls behind which the blocks Z have sunk. -/
theorem callQ_Rz {P : Program} {f : Nat} {vs : List V} {s : AS} {d : Nat} {K : AS → Prop} (M Z : List Nat) {H0 : List Blk} {R : V → List Blk → Prop} (h : MCallR P f H0 (vs.map (lend M (onlyZ Z (lkb s.hp)) 6)) R)
    (h1 : M.Nodup) (hz : (Z.all fun z => !M.contains z) = true) (h2 : M.map (lkb s.hp) = H0.map some) (h3 : ∀ blk ∈ H0, noIdss blk.es = true)
    (h4 : ∀ res l, R res l → l.length = H0.length → outIds (l.map some) = true ∧ resOk res = true ∧ (List.range (take d 0 res).2.2).all (fun i => ((s.sunk Z).wrote M (l.map some)).fresh (d + 1000 * i)) = true ∧ K (((s.sunk Z).wrote M (l.map some)).took d res)) : callQ P f vs s d K :=
  .inr <| .inr <| .inr <| .inr ⟨M, Z, H0, R, h, h1, hz, h2, h3, h4⟩
theorem callQ_Mz {P : Program} {f : Nat} {vs : List V} {s : AS} {d : Nat} {K : AS → Prop} {res : V} (M Z : List Nat) {H0 : List Blk} {H1 : List (Option Blk)} (h : MCall P f H0 (vs.map (lend M (onlyZ Z (lkb s.hp)) 6)) res H1)
    (h1 : M.Nodup) (hz : (Z.all fun z => !M.contains z) = true) (h2 : M.map (lkb s.hp) = H0.map some) (h3 : ∀ blk ∈ H0, noIdss blk.es = true) (h4 : outIds H1 = true) (h5 : resOk res = true)
    (h7 : (List.range (take d 0 res).2.2).all (fun i => ((s.sunk Z).wrote M H1).fresh (d + 1000 * i)) = true) (h8 : K (((s.sunk Z).wrote M H1).took d res)) : callQ P f vs s d K :=
  .inr <| .inr <| .inr <| .inl ⟨M, Z, H0, res, H1, h, h1, hz, h2, h3, h4, h5, h7, h8⟩
attribute [simp] outIds onlyZ AS.sunk rmbs
theorem MCallR.arg {P : Program} {f : Nat} {args args' : List V} {H0 : List Blk} {R : V → List Blk → Prop} (h : MCallR P f H0 args R) (e : args' = args) : MCallR P f H0 args' R := by rw [e]; exact h

/-! ### Loops -/

omit [GInv] in
theorem lk_list : ∀ (l : List (Nat × V)) (t : Nat), lk l t = .undef ∨ (t, lk l t) ∈ l
  | [], t => .inl rfl
  | (k, v) :: l, t => by
    simp only [lk]
    split
    · rename_i e; subst e; exact .inr (by simp)
    · rcases lk_list l t with h | h
      · exact .inl h
      · exact .inr (List.mem_cons_of_mem _ h)

/-- A state that lists no more than holds. -/
theorem Wk.list {s s' : AS} (hp : s'.pin = s.pin) (h1 : ∀ p ∈ s'.sl, lk s.sl p.1 = p.2) (h2 : ∀ p ∈ s'.hp, lkb s.hp p.1 = some p.2) : Wk s s' := by
  refine Wk.of_lk hp (fun t => ?_) fun i => ?_
  · rcases lk_list s'.sl t with h | h
    · exact .inr h
    · exact .inl (h1 _ h).symm
  · cases hb : lkb s'.hp i with
    | none => exact .inr rfl
    | some b => exact .inl (h2 _ (lkb_mem _ _ _ hb)).symm

/-- Behind one round of a loop whose states are St a. -/
def roundA {α : Type} (St : α → AS) (m : α → Nat) (ok : α → Prop) (a : α) (Q : Exit → AS → Prop) : Exit → AS → Prop
  | .normal => fun s => ∃ a', m a' < m a ∧ ok a' ∧ Wk s (St a')
  | e => Q e

theorem loopQ_ix {P : Program} {b : C} {Q : Exit → AS → Prop} {s : AS} {α : Type} (St : α → AS) (m : α → Nat) (ok : α → Prop) (a0 : α) (h0 : Wk s (St a0)) (h1 : ok a0)
    (step : ∀ a, ok a → wpC P b (roundA St m ok a Q) (St a)) : loopQ (wpC P b) Q s := by
  refine ⟨fun n s => ∃ a, ok a ∧ m a = n ∧ s = St a, m a0, St a0, h0, ⟨a0, h1, rfl, rfl⟩, ?_⟩
  rintro n s ⟨a, ha, rfl, rfl⟩
  refine wpC_mono b (St a) (fun e s hq => ?_) (step a ha)
  cases e with
  | normal =>
    obtain ⟨a', h2, h3, h4⟩ := hq
    exact ⟨m a', St a', h2, h4, a', h3, rfl, rfl⟩
  | _ => exact hq
/-- The same; what lies behind the round is not shown. -/
theorem loopK {P : Program} {b : C} {Q : Exit → AS → Prop} {s : AS} {α : Type} (St : α → AS) (m : α → Nat) (ok : α → Prop) (a0 : α) (h0 : Wk s (St a0)) (h1 : ok a0)
    (step : ∀ a, ok a → ∀ K : Exit → AS → Prop, (∀ a' s, m a' < m a → ok a' → Wk s (St a') → K .normal s) → (∀ s, Q .ret s → K .ret s) → (∀ i s, Q (.exit i) s → K (.exit i) s) → wpC P b K (St a)) : loopQ (wpC P b) Q s :=
  loopQ_ix St m ok a0 h0 h1 fun a ha => step a ha _ (fun a' _ h2 h3 h4 => ⟨a', h2, h3, h4⟩) (fun _ h => h) (fun _ _ h => h)
section
variable {α : Type} {St : α → AS} {m : α → Nat} {ok : α → Prop} {a : α} {Q : Exit → AS → Prop}
@[simp] theorem roundA_ret : roundA St m ok a Q .ret = Q .ret := rfl
@[simp] theorem roundA_exit {i : Nat} : roundA St m ok a Q (.exit i) = Q (.exit i) := rfl
theorem roundA_of {s : AS} (a' : α) (h1 : m a' < m a) (h2 : ok a') (h3 : Wk s (St a')) : roundA St m ok a Q .normal s := ⟨a', h1, h2, h3⟩
end

omit [GInv] in
theorem wrap64 {n : Int} (h1 : -9223372036854775808 ≤ n) (h2 : n ≤ 9223372036854775807) : IntKind.i64.wrap n = n := by
  simp [IntKind.wrap, IntKind.signed, IntKind.bits]; omega

/-- Whole numbers in a row. -/
abbrev ints (l : List Int) : List V := l.map I
omit [GInv] in
@[simp] theorem deeps_ints (l : List Int) : deeps (l.map I) = true := by induction l <;> simp_all [deeps]
omit [GInv] in
@[simp] theorem noOwns_ints (l : List Int) : noOwns (l.map I) = true := by induction l <;> simp_all
omit [GInv] in
@[simp] theorem noIdss_ints (l : List Int) : noIdss (l.map I) = true := by induction l <;> simp_all
omit [GInv] in
@[simp] theorem noRos_ints (l : List Int) : noRos (l.map I) = true := by induction l <;> simp_all
omit [GInv] in
@[simp] theorem ments_ints (d : Nat) (l : List Int) : ments d (l.map I) = false := by induction l <;> simp_all
omit [GInv] in
@[simp] theorem borrow_ints (hp : Nat → Option Blk) (k : Nat) (l : List Int) : (l.map I).map (borrow hp (k + 1)) = l.map I := by simp [Function.comp_def]

omit [GInv] in
@[simp] theorem map_borrow_I (hp : Nat → Option Blk) (k : Nat) (l : List Int) : List.map (borrow hp (k + 1) ∘ I) l = l.map I := by simp [Function.comp_def]
omit [GInv] in
@[simp] theorem take_len_map {α : Type} (f : α → V) (l : List α) : List.take l.length (l.map f) = l.map f := List.take_of_length_le (by simp)

/-! ### Rows put together -/

omit [GInv] in
@[simp] theorem ments_app (d : Nat) : ∀ a b : List V, ments d (a ++ b) = (ments d a || ments d b)
  | [], b => by simp
  | x :: a, b => by simp [ments_app d a b, Bool.or_assoc]
omit [GInv] in
@[simp] theorem noOwns_app : ∀ a b : List V, noOwns (a ++ b) = (noOwns a && noOwns b)
  | [], b => by simp
  | x :: a, b => by simp [noOwns_app a b, Bool.and_assoc]
omit [GInv] in
@[simp] theorem deeps_app : ∀ a b : List V, deeps (a ++ b) = (deeps a && deeps b)
  | [], b => by simp [deeps]
  | x :: a, b => by simp [deeps, deeps_app a b, Bool.and_assoc]
omit [GInv] in
@[simp] theorem deeps_map {α : Type} (f : α → V) (h : ∀ x, deepV (f x) = true) : ∀ l : List α, deeps (l.map f) = true
  | [] => by simp [deeps]
  | x :: l => by simp [deeps, h, deeps_map f h l]
omit [GInv] in
@[simp] theorem noIdss_app : ∀ a b : List V, noIdss (a ++ b) = (noIdss a && noIdss b)
  | [], b => by simp
  | x :: a, b => by simp [noIdss_app a b, Bool.and_assoc]
omit [GInv] in
@[simp] theorem noRos_app : ∀ a b : List V, noRos (a ++ b) = (noRos a && noRos b)
  | [], b => by simp
  | x :: a, b => by simp [noRos_app a b, Bool.and_assoc]
omit [GInv] in
@[simp] theorem ments_map {α : Type} (d : Nat) (f : α → V) (h : ∀ x, ment d (f x) = false) : ∀ l : List α, ments d (l.map f) = false
  | [] => by simp
  | x :: l => by simp [h, ments_map d f h l]
omit [GInv] in
@[simp] theorem noOwns_map {α : Type} (f : α → V) (h : ∀ x, noOwn (f x) = true) : ∀ l : List α, noOwns (l.map f) = true
  | [] => by simp
  | x :: l => by simp [h, noOwns_map f h l]
omit [GInv] in
@[simp] theorem noIdss_mapf {α : Type} (f : α → V) (h : ∀ x, noIds (f x) = true) : ∀ l : List α, noIdss (l.map f) = true
  | [] => by simp
  | x :: l => by simp [h, noIdss_mapf f h l]
omit [GInv] in
@[simp] theorem noRos_map {α : Type} (f : α → V) (h : ∀ x, noRo (f x) = true) : ∀ l : List α, noRos (l.map f) = true
  | [] => by simp
  | x :: l => by simp [h, noRos_map f h l]


/-! ### Parts of rows -/
omit [GInv] in
theorem ments_all {d : Nat} : ∀ {es : List V}, ments d es = false ↔ ∀ e ∈ es, ment d e = false
  | [] => by simp
  | e :: es => by simp [ments_all (es := es)]
omit [GInv] in
@[simp] theorem ments_take {d : Nat} {es : List V} {k : Nat} (h : ments d es = false) : ments d (es.take k) = false := ments_all.2 fun e he => ments_all.1 h e (List.mem_of_mem_take he)
omit [GInv] in
@[simp] theorem ments_drop {d : Nat} {es : List V} {k : Nat} (h : ments d es = false) : ments d (es.drop k) = false := ments_all.2 fun e he => ments_all.1 h e (List.mem_of_mem_drop he)
omit [GInv] in
@[simp] theorem ments_set' {d : Nat} {es : List V} {k : Nat} {v : V} (h : ments d es = false) (hv : ment d v = false) : ments d (es.set k v) = false := ments_all.2 fun e he => by
  rcases List.mem_or_eq_of_mem_set he with h' | rfl
  · exact ments_all.1 h e h'
  · exact hv
omit [GInv] in
@[simp] theorem ments_rep {d : Nat} {v : V} {k : Nat} (hv : ment d v = false) : ments d (List.replicate k v) = false := ments_all.2 fun e he => by rw [(List.mem_replicate.1 he).2]; exact hv
omit [GInv] in
theorem noOwns_all : ∀ {es : List V}, noOwns es = true ↔ ∀ e ∈ es, noOwn e = true
  | [] => by simp
  | e :: es => by simp [noOwns_all (es := es)]
omit [GInv] in
@[simp] theorem noOwns_take {es : List V} {k : Nat} (h : noOwns es = true) : noOwns (es.take k) = true := noOwns_all.2 fun e he => noOwns_all.1 h e (List.mem_of_mem_take he)
omit [GInv] in
@[simp] theorem noOwns_drop {es : List V} {k : Nat} (h : noOwns es = true) : noOwns (es.drop k) = true := noOwns_all.2 fun e he => noOwns_all.1 h e (List.mem_of_mem_drop he)
omit [GInv] in
@[simp] theorem noOwns_set' {es : List V} {k : Nat} {v : V} (h : noOwns es = true) (hv : noOwn v = true) : noOwns (es.set k v) = true := noOwns_all.2 fun e he => by
  rcases List.mem_or_eq_of_mem_set he with h' | rfl
  · exact noOwns_all.1 h e h'
  · exact hv
omit [GInv] in
@[simp] theorem noOwns_rep {v : V} {k : Nat} (hv : noOwn v = true) : noOwns (List.replicate k v) = true := noOwns_all.2 fun e he => by rw [(List.mem_replicate.1 he).2]; exact hv
omit [GInv] in
theorem noIdss_all : ∀ {es : List V}, noIdss es = true ↔ ∀ e ∈ es, noIds e = true
  | [] => by simp
  | e :: es => by simp [noIdss_all (es := es)]
omit [GInv] in
@[simp] theorem noIdss_take {es : List V} {k : Nat} (h : noIdss es = true) : noIdss (es.take k) = true := noIdss_all.2 fun e he => noIdss_all.1 h e (List.mem_of_mem_take he)
omit [GInv] in
@[simp] theorem noIdss_drop {es : List V} {k : Nat} (h : noIdss es = true) : noIdss (es.drop k) = true := noIdss_all.2 fun e he => noIdss_all.1 h e (List.mem_of_mem_drop he)
omit [GInv] in
@[simp] theorem noIdss_set' {es : List V} {k : Nat} {v : V} (h : noIdss es = true) (hv : noIds v = true) : noIdss (es.set k v) = true := noIdss_all.2 fun e he => by
  rcases List.mem_or_eq_of_mem_set he with h' | rfl
  · exact noIdss_all.1 h e h'
  · exact hv
omit [GInv] in
@[simp] theorem noIdss_rep {v : V} {k : Nat} (hv : noIds v = true) : noIdss (List.replicate k v) = true := noIdss_all.2 fun e he => by rw [(List.mem_replicate.1 he).2]; exact hv
omit [GInv] in
theorem noRos_all : ∀ {es : List V}, noRos es = true ↔ ∀ e ∈ es, noRo e = true
  | [] => by simp
  | e :: es => by simp [noRos_all (es := es)]
omit [GInv] in
@[simp] theorem noRos_take {es : List V} {k : Nat} (h : noRos es = true) : noRos (es.take k) = true := noRos_all.2 fun e he => noRos_all.1 h e (List.mem_of_mem_take he)
omit [GInv] in
@[simp] theorem noRos_drop {es : List V} {k : Nat} (h : noRos es = true) : noRos (es.drop k) = true := noRos_all.2 fun e he => noRos_all.1 h e (List.mem_of_mem_drop he)
omit [GInv] in
@[simp] theorem noRos_set' {es : List V} {k : Nat} {v : V} (h : noRos es = true) (hv : noRo v = true) : noRos (es.set k v) = true := noRos_all.2 fun e he => by
  rcases List.mem_or_eq_of_mem_set he with h' | rfl
  · exact noRos_all.1 h e h'
  · exact hv
omit [GInv] in
@[simp] theorem noRos_rep {v : V} {k : Nat} (hv : noRo v = true) : noRos (List.replicate k v) = true := noRos_all.2 fun e he => by rw [(List.mem_replicate.1 he).2]; exact hv

omit [GInv] in
theorem deeps_all : ∀ {es : List V}, deeps es = true ↔ ∀ e ∈ es, deepV e = true
  | [] => by simp
  | e :: es => by simp [deeps_all (es := es)]
omit [GInv] in
@[simp] theorem deeps_take {es : List V} {k : Nat} (h : deeps es = true) : deeps (es.take k) = true := deeps_all.2 fun e he => deeps_all.1 h e (List.mem_of_mem_take he)
omit [GInv] in
@[simp] theorem deeps_drop {es : List V} {k : Nat} (h : deeps es = true) : deeps (es.drop k) = true := deeps_all.2 fun e he => deeps_all.1 h e (List.mem_of_mem_drop he)

/-! ### Rows of rows of whole numbers -/

abbrev roI (l : List Int) : V := .ro 1 (ints l)
abbrev ownI (l : List Int) : V := .own 1 (ints l)
omit [GInv] in
@[simp] theorem map_borrow_ownI (hp : Nat → Option Blk) (k : Nat) (l : List (List Int)) : List.map (borrow hp (k + 2) ∘ ownI) l = l.map roI := by simp [Function.comp_def]
omit [GInv] in
@[simp] theorem map_borrow_roI (hp : Nat → Option Blk) (k : Nat) (l : List (List Int)) : List.map (borrow hp (k + 1) ∘ roI) l = l.map roI := by simp [Function.comp_def]
end Go.Abs

set_option linter.unusedVariables false
set_option linter.unusedSimpArgs false
namespace Go.Abs

/-- A text. -/
abbrev S (l : List UInt8) : V := .v (.string (bs l))
/-- A byte. -/
abbrev Y (b : UInt8) : V := .v (.int .u8 b.toNat)

@[simp] theorem bs_size (l : List UInt8) : (bs l).size = l.length := by simp [bs, ByteArray.size]
@[simp] theorem bs_append (a b : List UInt8) : bs a ++ bs b = bs (a ++ b) := by apply ByteArray.ext; simp [bs]
@[simp] theorem bs_extract (l : List UInt8) (i j : Nat) : (bs l).extract i j = bs ((l.drop i).take (j - i)) := by apply ByteArray.ext; simp [bs]
@[simp] theorem bs_get (l : List UInt8) (i : Nat) : (bs l)[i]? = l[i]? := by
  unfold bs
  show (if h : i < (ByteArray.mk l.toArray).size then some ((ByteArray.mk l.toArray)[i]) else none) = _
  have : (ByteArray.mk l.toArray).size = l.length := rfl
  by_cases h : i < l.length
  · rw [dif_pos (by rw [this]; exact h), List.getElem?_eq_getElem h]; rfl
  · rw [dif_neg (by rw [this]; exact h), List.getElem?_eq_none (by omega)]
@[simp] theorem bs_getE (l : List UInt8) (i : Nat) (h : i < (bs l).size) : (bs l)[i]'h = l[i]'(by simpa [bs, ByteArray.size] using h) := by
  have h1 : (bs l)[i]? = some ((bs l)[i]'h) := by rw [getElem?_pos]
  rw [bs_get, List.getElem?_eq_getElem (by simpa [bs, ByteArray.size] using h)] at h1
  exact (Option.some.inj h1).symm
theorem bs_loop (l : List UInt8) : ∀ (k i : Nat) (r : List UInt8), l.length - i = k → ByteArray.toList.loop (bs l) i r = r.reverse ++ l.drop i := by
  intro k
  induction k with
  | zero =>
    intro i r h
    rw [ByteArray.toList.loop, if_neg (by show ¬ i < l.length; omega), List.drop_of_length_le (by omega)]; simp
  | succ k ih =>
    intro i r h
    rw [ByteArray.toList.loop, if_pos (by show i < l.length; omega), ih (i + 1) _ (by omega)]
    have hi : i < l.length := by omega
    rw [List.drop_eq_getElem_cons hi]
    have : (bs l).get! i = l[i] := by
      show (bs l).data[i]! = _
      simp [bs, hi]
    rw [this]; simp
@[simp] theorem bs_toList (l : List UInt8) : (bs l).toList = l := by
  show ByteArray.toList.loop (bs l) 0 [] = l
  rw [bs_loop l _ 0 [] rfl]; simp
theorem bs_data (b : ByteArray) : b = bs b.data.toList := by apply ByteArray.ext; simp [bs]
@[simp] theorem bs_inj {a b : List UInt8} : bs a = bs b ↔ a = b := ⟨fun h => by rw [← bs_toList a, h, bs_toList], fun h => by rw [h]⟩
@[simp] theorem byte_toNat_inj {a b : UInt8} : ((a.toNat : Int) = (b.toNat : Int)) ↔ a = b := ⟨fun h => UInt8.toNat.inj (by omega), fun h => by rw [h]⟩

/-- Texts in a row. -/
abbrev texts (l : List (List UInt8)) : List V := l.map S
@[simp] theorem noOwns_texts (l : List (List UInt8)) : noOwns (l.map S) = true := by induction l <;> simp_all
@[simp] theorem noIdss_texts (l : List (List UInt8)) : noIdss (l.map S) = true := by induction l <;> simp_all
@[simp] theorem noRos_texts (l : List (List UInt8)) : noRos (l.map S) = true := by induction l <;> simp_all
@[simp] theorem ments_texts (d : Nat) (l : List (List UInt8)) : ments d (l.map S) = false := by induction l <;> simp_all
@[simp] theorem map_borrow_S (hp : Nat → Option Blk) (k : Nat) (l : List (List UInt8)) : List.map (borrow hp (k + 1) ∘ S) l = l.map S := by simp [Function.comp_def]

theorem rows_of {α : Type} {f : α → V} {s : Nat} {b : Bool} {Q : V → Prop} (hQ : ∀ v, Q v → ∃ x, v = f x) {v : V} (h : ∃ es, v = .ro s es ∧ (∀ e ∈ es, Q e ∧ isAggV e = b) ∧ es.length ≤ maxLen) : ∃ l : List α, v = .ro s (l.map f) := by
  obtain ⟨es, rfl, h, hlen⟩ := h
  clear hlen
  induction es with
  | nil => exact ⟨[], rfl⟩
  | cons e es ih =>
    obtain ⟨x, hx⟩ := hQ e (h e List.mem_cons_self).1
    obtain ⟨l, hl⟩ := ih (fun e he => h e (List.mem_cons_of_mem _ he))
    cases hl
    exact ⟨x :: l, by rw [hx]; rfl⟩
@[simp] theorem strV_bs (l : List UInt8) : strV (bs l) = l.map Y := by simp [strV, bs]
@[simp] theorem bytesOf_Y : ∀ l : List UInt8, bytesOf (l.map Y) = some l
  | [] => rfl
  | x :: l => by
    have ih := bytesOf_Y l
    simp only [List.map_cons, bytesOf] at ih ⊢
    rw [ih]
    simp
end Go.Abs

set_option linter.unusedVariables false
set_option linter.unusedSimpArgs false
namespace Go.Abs
variable [GInv]

def reN (i j k : Nat) : Nat := if k = i then j else k

mutual
def ren (i j : Nat) : V → V
  | .ref k a b => .ref (reN i j k) a b
  | .sl k a n => .sl (reN i j k) a n
  | .agg cs => .agg (rens i j cs)
  | .tup cs => .tup (rens i j cs)
  | .clo f cs => .clo f (rens i j cs)
  | .undef => .undef
  | .v x => .v x
  | .rp s es a b => .rp s es a b
  | .ro s es => .ro s es
  | .own s es => .own s es
def rens (i j : Nat) : List V → List V
  | [] => []
  | c :: cs => ren i j c :: rens i j cs
end
attribute [simp] reN ren rens

section
variable {w : World} {D : Nat → Prop} {φ φ' : Nat → Option Pl} {i j : Nat}

omit [GInv] in
theorem reN_eq (hj : φ' j = φ i) (ho : ∀ k, k ≠ j → φ' k = φ k) {k : Nat} (h : k ≠ j) : φ' (reN i j k) = φ k := by
  unfold reN
  split
  · rename_i e; rw [hj, e]
  · exact ho k h

omit [GInv] in
mutual
theorem CV_ren (hj : φ' j = φ i) (ho : ∀ k, k ≠ j → φ' k = φ k) : ∀ (v : V) (x : Value) (fp : List Nat), ment j v = false → CV w D v φ x fp → CV w D (ren i j v) φ' x fp
  | .undef, x, fp, _, h => by simpa [CV] using h
  | .v y, x, fp, _, h => by simpa [CV] using h
  | .rp _ _ _ _, x, fp, _, h => by simpa [CV] using h
  | .ro _ _, x, fp, _, h => by simpa [CV] using h
  | .own _ _, x, fp, _, h => by simpa [CV] using h
  | .ref k a b, x, fp, hm, h => by
    have hk : k ≠ j := by simpa [ment] using hm
    simp only [ren, CV] at h ⊢
    rw [reN_eq hj ho hk]; exact h
  | .sl k a n, x, fp, hm, h => by
    have hk : k ≠ j := by simpa [ment] using hm
    simp only [ren, CV] at h ⊢
    rw [reN_eq hj ho hk]; exact h
  | .agg cs, x, fp, hm, h => by
    simp only [ren, CV] at h ⊢
    obtain ⟨xs, rfl, h⟩ := h
    exact ⟨xs, rfl, CVs_ren hj ho cs _ _ (by simpa [ment] using hm) h⟩
  | .tup cs, x, fp, hm, h => by
    simp only [ren, CV] at h ⊢
    obtain ⟨xs, rfl, h⟩ := h
    exact ⟨xs, rfl, CVs_ren hj ho cs _ _ (by simpa [ment] using hm) h⟩
  | .clo f cs, x, fp, hm, h => by
    simp only [ren, CV] at h ⊢
    obtain ⟨xs, rfl, h⟩ := h
    exact ⟨xs, rfl, CVs_ren hj ho cs _ _ (by simpa [ment] using hm) h⟩
theorem CVs_ren (hj : φ' j = φ i) (ho : ∀ k, k ≠ j → φ' k = φ k) : ∀ (cs : List V) (xs : List Value) (fp : List Nat), ments j cs = false → CVs w D cs φ xs fp → CVs w D (rens i j cs) φ' xs fp
  | [], xs, fp, _, h => by simpa [CVs] using h
  | c :: cs, xs, fp, hm, h => by
    simp only [ments, Bool.or_eq_false_iff] at hm
    simp only [rens, CVs] at h ⊢
    obtain ⟨x, xs', f1, f2, rfl, rfl, h1, h2⟩ := h
    exact ⟨x, xs', f1, f2, rfl, rfl, CV_ren hj ho c _ _ hm.1 h1, CVs_ren hj ho cs _ _ hm.2 h2⟩
end

omit [GInv] in
theorem CR_ren (hj : φ' j = φ i) (ho : ∀ k, k ≠ j → φ' k = φ k) {s : Nat} : ∀ (cs : List V) (xs : List Value) (fp : List Nat), ments j cs = false → CR w D s cs φ xs fp → CR w D s (rens i j cs) φ' xs fp
  | [], xs, fp, _, h => by simpa [CR] using h
  | c :: cs, xs, fp, hm, h => by
    simp only [ments, Bool.or_eq_false_iff] at hm
    simp only [rens, CR] at h ⊢
    obtain ⟨x, rest, f1, f2, rfl, hs, rfl, h1, h2⟩ := h
    exact ⟨x, rest, f1, f2, rfl, hs, rfl, CV_ren hj ho c _ _ hm.1 h1, CR_ren hj ho cs _ _ hm.2 h2⟩

omit [GInv] in
theorem rens_nil_iff : ∀ cs : List V, rens i j cs = [] ↔ cs = []
  | [] => by simp
  | c :: cs => by simp

def renB (i j : Nat) (b : Blk) : Blk := ⟨b.s, rens i j b.es⟩
attribute [simp] renB

theorem RelD.ren {X : Ctx} {s s' : St} {a : Act} {F : Nat → List Nat} {G : List Nat} (h : RelD X s a w D φ F G) (hij : i ≠ j) (hf : Fresh s j) (hp : j ∉ X.pin) (hsl : ∀ t, s'.sl t = Abs.ren i j (s.sl t))
    (hhp : ∀ k, s'.hp k = if k = j then (s.hp i).map (renB i j) else if k = i then none else (s.hp k).map (renB i j)) :
    RelD X s' a w D (fun k => if k = j then φ i else φ k) (fun k => if k = j then F i else if k = i then [] else F k) G := by
  have hj : (fun k => if k = j then φ i else φ k) j = φ i := by simp
  have ho : ∀ k, k ≠ j → (fun k => if k = j then φ i else φ k) k = φ k := fun k hk => by simp [hk]
  have blk : ∀ k blk, s.hp k = some blk → ∀ id, (if id = j then φ i else φ id) = φ k → BlkOk w D (fun k => if k = j then φ i else φ k) id (renB i j blk) (F k) := fun k blk hb id hid => by
    rcases h.blks k blk hb with ⟨h1, h2, h3⟩ | ⟨p, arr, ty, f', h1, h2, h3, h4, h5, h6⟩
    · exact .inl ⟨hid.trans h1, by simp [h2], h3⟩
    · exact .inr ⟨p, arr, ty, f', hid.trans h1, h2, h3, h4, h5, CR_ren hj ho _ _ _ (hf.hp k blk hb) h6⟩
  have part : ∀ k b, b ∈ (if k = j then F i else if k = i then [] else F k) → ∃ k', b ∈ F k' ∧ ((k = j ∧ k' = i) ∨ (k ≠ j ∧ k ≠ i ∧ k' = k)) := fun k b hb => by
    split at hb
    · rename_i e; exact ⟨i, hb, .inl ⟨e, rfl⟩⟩
    · split at hb
      · cases hb
      · rename_i e1 e2; exact ⟨k, hb, .inr ⟨e1, e2, rfl⟩⟩
  refine { h with slots := fun t => ?_, blks := fun id b hb => ?_, nob := fun id hid => ?_, nodup := fun id => ?_, sep := fun k k' hkk b hb hb' => ?_, notD := fun id b hb => ?_, pins := fun id hid => ?_, gsep := fun k b hb => ?_ }
  · rw [hsl]; exact CV_ren hj ho _ _ _ (hf.sl t) (h.slots t)
  · rw [hhp] at hb
    by_cases e : id = j
    · rw [if_pos e] at hb ⊢
      simp only [Option.map_eq_some_iff] at hb
      obtain ⟨b0, hb0, rfl⟩ := hb
      exact blk i b0 hb0 id (by rw [if_pos e])
    · rw [if_neg e] at hb ⊢
      by_cases e2 : id = i
      · rw [if_pos e2] at hb; cases hb
      · rw [if_neg e2] at hb ⊢
        simp only [Option.map_eq_some_iff] at hb
        obtain ⟨b0, hb0, rfl⟩ := hb
        exact blk id b0 hb0 id (by rw [if_neg e])
  · rw [hhp] at hid
    by_cases e : id = j
    · rw [if_pos e] at hid ⊢
      exact h.nob i (by simpa using hid)
    · rw [if_neg e] at hid ⊢
      by_cases e2 : id = i
      · rw [if_pos e2]
      · rw [if_neg e2] at hid ⊢
        exact h.nob id (by simpa using hid)
  · split
    · exact h.nodup i
    · split
      · exact List.nodup_nil
      · exact h.nodup id
  · obtain ⟨m, h1, h2⟩ := part k b hb
    obtain ⟨m', h1', h2'⟩ := part k' b hb'
    refine h.sep m m' ?_ b h1 h1'
    rcases h2 with ⟨a1, a2⟩ | ⟨a1, a2, a3⟩ <;> rcases h2' with ⟨b1, b2⟩ | ⟨b1, b2, b3⟩ <;> omega
  · obtain ⟨m, h1, _⟩ := part id b hb
    exact h.notD m b h1
  · have hne : id ≠ j := fun e => hp (by rw [← e]; exact hid)
    rw [if_neg hne]
    exact h.pins id hid
  · obtain ⟨m, h1, _⟩ := part k b hb
    exact h.gsep m b h1
end

def AS.ren (i j : Nat) (s : AS) : AS := { s with sl := s.sl.map fun p => (p.1, Abs.ren i j p.2), hp := s.hp.map fun p => (reN i j p.1, renB i j p.2) }
attribute [simp] AS.ren

omit [GInv] in
theorem lk_ren (i j : Nat) : ∀ (l : List (Nat × V)) (t : Nat), lk (l.map fun p => (p.1, ren i j p.2)) t = ren i j (lk l t)
  | [], t => by simp [lk]
  | (k, v) :: l, t => by
    simp only [List.map_cons, lk]
    split
    · rfl
    · exact lk_ren i j l t

omit [GInv] in
theorem lkb_ren {i j : Nat} (hij : i ≠ j) : ∀ (l : List (Nat × Blk)), (∀ p ∈ l, p.1 ≠ j) → ∀ k, lkb (l.map fun p => (reN i j p.1, renB i j p.2)) k = if k = j then (lkb l i).map (renB i j) else if k = i then none else (lkb l k).map (renB i j)
  | [], _, k => by simp [lkb]
  | (m, b) :: l, h, k => by
    have ih := lkb_ren hij l (fun p hp => h p (List.mem_cons_of_mem _ hp)) k
    have hm : m ≠ j := h _ List.mem_cons_self
    simp only [List.map_cons, lkb]
    rw [ih]
    simp only [reN]
    by_cases e1 : m = i
    · subst e1
      by_cases e2 : k = j
      · subst e2; simp
      · by_cases e3 : k = m
        · subst e3; simp [e2]
        · simp [e2, e3]
    · by_cases e2 : k = j
      · subst e2
        have : ¬ k = m := fun e => hm e.symm
        have e1' : ¬ i = m := fun e => e1 e.symm
        simp [e1, e1', this]
      · by_cases e3 : k = i
        · subst e3
          have : ¬ k = m := fun e => e1 e.symm
          simp [e1, e2, this]
        · by_cases e4 : k = m
          · subst e4; simp [e1, e2]
          · simp [e1, e2, e3, e4]

/-- A block gets another id. -/
theorem Wk.ren {s : AS} (i j : Nat) (hij : i ≠ j) (hf : s.fresh j = true) : Wk s (s.ren i j) := by
  refine ⟨rfl, fun X a w hpin ⟨D, φ, F, h⟩ => ?_⟩
  obtain ⟨h1, h2⟩ := AS.fresh_ok hf
  simp only [AS.fresh, Bool.and_eq_true, List.all_eq_true, bne_iff_ne, ne_eq] at hf
  exact ⟨D, _, _, h.ren hij h1 (by rw [hpin]; exact h2) (fun t => lk_ren i j s.sl t) (fun k => lkb_ren hij s.hp (fun p hp => (hf.1.2 p hp).1) k)⟩

omit [GInv] in
@[simp] theorem rens_ints (i j : Nat) (l : List Int) : rens i j (l.map I) = l.map I := by induction l <;> simp_all

omit [GInv] in
@[simp] theorem rens_app (i j : Nat) : ∀ a b : List V, rens i j (a ++ b) = rens i j a ++ rens i j b
  | [], b => by simp
  | x :: a, b => by simp [rens_app i j a b]

omit [GInv] in
@[simp] theorem rens_take_ints (i j k : Nat) (l : List Int) : rens i j (List.take k (l.map I)) = List.take k (l.map I) := by rw [← List.map_take]; exact rens_ints i j _
omit [GInv] in
@[simp] theorem rens_drop_ints (i j k : Nat) (l : List Int) : rens i j (List.drop k (l.map I)) = List.drop k (l.map I) := by rw [← List.map_drop]; exact rens_ints i j _

/-! ### A result read otherwise -/

theorem PCall.res {P : Program} {f : Nat} {args : List V} {res res' : V} (h : PCall P f args res) (hr : ∀ w D x fp, CV w D res (fun _ => none) x fp → CV w D res' (fun _ => none) x fp) : PCall P f args res' := by
  refine ⟨h.1, fun w D xs hD hg hxs => (h.2 w D xs hD hg hxs).mono ?_⟩
  rintro e w' ⟨y, D', fp, h1, h2, h3, h4⟩
  exact ⟨y, D', fp, h1, h2, hr _ _ _ _ h3, h4⟩

/-- 'v' may be read as 'v''. -/
def Le (v v' : V) : Prop := ∀ w D x fp, CV w D v (fun _ => none) x fp → CV w D v' (fun _ => none) x fp
omit [GInv] in
theorem Le.refl (v : V) : Le v v := fun _ _ _ _ h => h
omit [GInv] in
theorem Le.nil (s : Nat) : Le (.v (.slice none 0 0)) (.own s []) := fun w D x fp h => by
  simp only [CV] at h ⊢
  exact .inl ⟨trivial, h.1, h.2.2⟩
def Les : List V → List V → Prop
  | [], [] => True
  | v :: vs, u :: us => Le v u ∧ Les vs us
  | _, _ => False
omit [GInv] in
theorem CVs_le {w : World} {D : Nat → Prop} : ∀ (vs us : List V) (xs : List Value) (fp : List Nat), Les vs us → CVs w D vs (fun _ => none) xs fp → CVs w D us (fun _ => none) xs fp
  | [], [], xs, fp, _, h => h
  | v :: vs, u :: us, xs, fp, hl, h => by
    simp only [CVs] at h ⊢
    obtain ⟨x, xs', f1, f2, rfl, rfl, h1, h2⟩ := h
    exact ⟨x, xs', f1, f2, rfl, rfl, hl.1 _ _ _ _ h1, CVs_le vs us _ _ hl.2 h2⟩
  | [], _ :: _, _, _, hl, _ => hl.elim
  | _ :: _, [], _, _, hl, _ => hl.elim
omit [GInv] in
theorem Le.tup {vs us : List V} (h : Les vs us) : Le (.tup vs) (.tup us) := fun w D x fp hv => by
  simp only [CV] at hv ⊢
  obtain ⟨xs, rfl, hv⟩ := hv
  exact ⟨xs, rfl, CVs_le vs us _ _ h hv⟩
omit [GInv] in
theorem Le.agg {vs us : List V} (h : Les vs us) : Le (.agg vs) (.agg us) := fun w D x fp hv => by
  simp only [CV] at hv ⊢
  obtain ⟨xs, rfl, hv⟩ := hv
  exact ⟨xs, rfl, CVs_le vs us _ _ h hv⟩


omit [GInv] in
mutual
theorem ren_id {i j : Nat} : ∀ (v : V), ment i v = false → Abs.ren i j v = v
  | .undef, _ | .v _, _ | .rp _ _ _ _, _ | .ro _ _, _ | .own _ _, _ => by simp only [Abs.ren]
  | .ref id a b, h => by
    have : id ≠ i := by simpa [ment] using h
    simp only [Abs.ren, reN, if_neg this]
  | .sl id a b, h => by
    have : id ≠ i := by simpa [ment] using h
    simp only [Abs.ren, reN, if_neg this]
  | .agg cs, h => by simp only [Abs.ren]; rw [rens_id cs (by simpa [ment] using h)]
  | .tup cs, h => by simp only [Abs.ren]; rw [rens_id cs (by simpa [ment] using h)]
  | .clo f cs, h => by simp only [Abs.ren]; rw [rens_id cs (by simpa [ment] using h)]
theorem rens_id {i j : Nat} : ∀ (cs : List V), ments i cs = false → rens i j cs = cs
  | [], _ => by simp only [rens]
  | c :: cs, h => by
    simp only [ments, Bool.or_eq_false_iff] at h
    simp only [rens]; rw [ren_id c h.1, rens_id cs h.2]
end
omit [GInv] in
theorem rens_map {α : Type} {i j : Nat} {f : α → V} {l : List α} (h : ∀ x, ment i (f x) = false) : rens i j (l.map f) = l.map f := rens_id _ (ments_map i f h l)
attribute [simp] rens_map
end Go.Abs

set_option linter.unusedVariables false
set_option linter.unusedSimpArgs false
namespace Go.Abs
variable [GInv]

mutual
def frz (i : Nat) (blk : Blk) : V → V
  | .ref k a b => if k = i then .rp blk.s blk.es a b else .ref k a b
  | .sl k a n => if k = i then (if a + n ≤ blk.es.length then .ro blk.s ((blk.es.drop a).take n) else .undef) else .sl k a n
  | .agg cs => .agg (frzs i blk cs)
  | .tup cs => .tup (frzs i blk cs)
  | .clo f cs => .clo f (frzs i blk cs)
  | .undef => .undef
  | .v x => .v x
  | .rp s es a b => .rp s es a b
  | .ro s es => .ro s es
  | .own s es => .own s es
def frzs (i : Nat) (blk : Blk) : List V → List V
  | [] => []
  | c :: cs => frz i blk c :: frzs i blk cs
end
attribute [simp] frz frzs

section
variable {w : World} {D : Nat → Prop} {φ : Nat → Option Pl} {i : Nat} {blk : Blk} {f : List Nat}

omit [GInv] in
mutual
theorem CV_frz (hb : BlkOk w D φ i blk f) (hi : noIdss blk.es = true) (ho : noOwns blk.es = true) : ∀ (v : V) (x : Value) (fp : List Nat), CV w D v φ x fp → CV w (fun b => D b ∨ b ∈ f) (frz i blk v) φ x fp
  | .undef, x, fp, h => by simpa [CV] using h
  | .v y, x, fp, h => by simpa [CV] using h
  | .rp s es a b, x, fp, h => CV_mono (fun _ h => .inl h) (.rp s es a b) φ φ x fp (fun _ _ => rfl) (fun _ _ => rfl) h
  | .ro s es, x, fp, h => CV_mono (fun _ h => .inl h) (.ro s es) φ φ x fp (fun _ _ => rfl) (fun _ _ => rfl) h
  | .own s es, x, fp, h => CV_mono (fun _ h => .inl h) (.own s es) φ φ x fp (fun _ _ => rfl) (fun _ _ => rfl) h
  | .ref k a b, x, fp, h => by
    by_cases e : k = i
    · subst e
      simp only [frz, if_true]
      simp only [CV] at h ⊢
      obtain ⟨rfl, p, hp, rfl⟩ := h
      rcases hb with ⟨h1, _, _⟩ | ⟨q, arr, ty, f', h1, h2, h3, h4, h5, h6⟩
      · rw [h1] at hp; cases hp
      · rw [hp] at h1; cases h1
        have hf := CR_noOwn _ _ _ _ ho h6
        subst hf
        exact ⟨rfl, p.b, p.o, arr, by rw [h2], .inr (by rw [h5]; exact List.mem_cons_self), h4.blk, CR_mono (fun _ h => .inl h) _ _ _ _ _ _ (fun _ _ => rfl) (fun id hm => by rw [ments_noIds id _ hi] at hm; cases hm) h6, hi⟩
    · simp only [frz, if_neg e]
      exact CV_mono (fun _ h => .inl h) (.ref k a b) φ φ x fp (fun _ _ => rfl) (fun _ _ => rfl) h
  | .sl k a n, x, fp, h => by
    by_cases e : k = i
    · subst e
      simp only [frz, if_true]
      by_cases hle : a + n ≤ blk.es.length
      · rw [if_pos hle]
        have hlen : ((blk.es.drop a).take n).length = n := by rw [List.length_take, List.length_drop]; omega
        simp only [CV] at h ⊢
        obtain ⟨rfl, ⟨h1, rfl, rfl, rfl⟩ | ⟨p, o, cap, hp, rfl, hnc, hcm, hcap⟩⟩ := h
        · exact ⟨rfl, .inl ⟨by simp, none, 0, rfl, Nat.zero_le _⟩⟩
        · refine ⟨rfl, ?_⟩
          by_cases hn : n = 0
          · subst hn
            exact .inl ⟨by simp, _, cap, rfl, hcm⟩
          · rcases hb with ⟨h1, _, _⟩ | ⟨q, arr, ty, f', h1, h2, h3, h4, h5, h6⟩
            · rw [h1] at hp; cases hp
            · rw [hp] at h1; cases h1
              have hf := CR_noOwn _ _ _ _ ho h6
              subst hf
              obtain ⟨ho', _⟩ := hcap.resolve_left (by omega)
              have hm := CR_mono (w := w) (w' := w) (D := D) (D' := fun b => D b ∨ b ∈ f) (fun _ h => .inl h) blk.s blk.es φ (fun _ => none) _ _ (fun _ _ => rfl) (fun id hm => by rw [ments_noIds id _ hi] at hm; cases hm) h6
              have h3' := CR_take n (CR_drop a hm)
              rw [List.drop_drop] at h3'
              refine .inr ⟨p.b, o, cap, arr, by rw [hlen], by rw [hlen]; exact hnc, hcm, .inr (by rw [h5]; exact List.mem_cons_self), h4.blk, ?_, ?_⟩
              · rw [ho', h2]; exact h3'
              · exact noIdss_take (noIdss_drop hi)
      · rw [if_neg hle]
        simp only [CV] at h ⊢
        exact h.1
    · simp only [frz, if_neg e]
      exact CV_mono (fun _ h => .inl h) (.sl k a n) φ φ x fp (fun _ _ => rfl) (fun _ _ => rfl) h
  | .agg cs, x, fp, h => by
    simp only [frz, CV] at h ⊢
    obtain ⟨xs, rfl, h⟩ := h
    exact ⟨xs, rfl, CVs_frz hb hi ho cs _ _ h⟩
  | .tup cs, x, fp, h => by
    simp only [frz, CV] at h ⊢
    obtain ⟨xs, rfl, h⟩ := h
    exact ⟨xs, rfl, CVs_frz hb hi ho cs _ _ h⟩
  | .clo g cs, x, fp, h => by
    simp only [frz, CV] at h ⊢
    obtain ⟨xs, rfl, h⟩ := h
    exact ⟨xs, rfl, CVs_frz hb hi ho cs _ _ h⟩
theorem CVs_frz (hb : BlkOk w D φ i blk f) (hi : noIdss blk.es = true) (ho : noOwns blk.es = true) : ∀ (cs : List V) (xs : List Value) (fp : List Nat), CVs w D cs φ xs fp → CVs w (fun b => D b ∨ b ∈ f) (frzs i blk cs) φ xs fp
  | [], xs, fp, h => by simpa [CVs] using h
  | c :: cs, xs, fp, h => by
    simp only [frzs, CVs] at h ⊢
    obtain ⟨x, xs', f1, f2, rfl, rfl, h1, h2⟩ := h
    exact ⟨x, xs', f1, f2, rfl, rfl, CV_frz hb hi ho c _ _ h1, CVs_frz hb hi ho cs _ _ h2⟩
end
omit [GInv] in
theorem CR_frz (hb : BlkOk w D φ i blk f) (hi : noIdss blk.es = true) (ho : noOwns blk.es = true) {s : Nat} : ∀ (cs : List V) (xs : List Value) (fp : List Nat), CR w D s cs φ xs fp → CR w (fun b => D b ∨ b ∈ f) s (frzs i blk cs) φ xs fp
  | [], xs, fp, h => by simpa [CR] using h
  | c :: cs, xs, fp, h => by
    simp only [frzs, CR] at h ⊢
    obtain ⟨x, rest, f1, f2, rfl, hs, rfl, h1, h2⟩ := h
    exact ⟨x, rest, f1, f2, rfl, hs, rfl, CV_frz hb hi ho c _ _ h1, CR_frz hb hi ho cs _ _ h2⟩

def frzB (i : Nat) (blk : Blk) (b : Blk) : Blk := ⟨b.s, frzs i blk b.es⟩
attribute [simp] frzB

theorem RelD.frz {X : Ctx} {s s' : St} {a : Act} {F : Nat → List Nat} {G : List Nat} (h : RelD X s a w D φ F G) (hbl : s.hp i = some blk) (hi : noIdss blk.es = true) (ho : noOwns blk.es = true) (hsl : ∀ t, s'.sl t = Abs.frz i blk (s.sl t))
    (hhp : ∀ k, s'.hp k = if k = i then none else (s.hp k).map (frzB i blk)) : RelD X s' a w (fun b => D b ∨ b ∈ F i) φ (fun k => if k = i then [] else F k) G := by
  have hb := h.blks i blk hbl
  have sub : ∀ k b, b ∈ (if k = i then [] else F k) → k ≠ i ∧ b ∈ F k := fun k b hb => by
    split at hb
    · cases hb
    · rename_i e; exact ⟨e, hb⟩
  refine { h with Dup := fun b hb => .inl (h.Dup b hb), Ddn := fun b hb => ?_, Dlt := fun b hb => ?_, slots := fun t => ?_, blks := fun id b hb' => ?_, nob := fun id hid => ?_, nodup := fun id => ?_, sep := fun k k' hkk b hb1 hb2 => ?_, notD := fun id b hb1 => ?_, gsep := fun k b hb1 => ?_, gnotD := fun b hb1 => ?_, gi := GInv.mono h.gi (fun _ h => .inl h) fun _ _ => rfl }
  · rcases hb with hb | hb
    · exact h.Ddn b hb
    · exact .inr (h.notD i b hb).2.2
  · rcases hb with hb | hb
    · exact h.Dlt b hb
    · exact (h.notD i b hb).2.1
  · rw [hsl]; exact CV_frz hb hi ho _ _ _ (h.slots t)
  · rw [hhp] at hb'
    by_cases e : id = i
    · rw [if_pos e] at hb'; cases hb'
    · rw [if_neg e] at hb' ⊢
      simp only [Option.map_eq_some_iff] at hb'
      obtain ⟨b0, hb0, rfl⟩ := hb'
      rcases h.blks id b0 hb0 with ⟨h1, h2, h3⟩ | ⟨p, arr, ty, f', h1, h2, h3, h4, h5, h6⟩
      · exact .inl ⟨h1, by simp [h2], h3⟩
      · exact .inr ⟨p, arr, ty, f', h1, h2, h3, h4, h5, CR_frz hb hi ho _ _ _ h6⟩
  · rw [hhp] at hid
    by_cases e : id = i
    · rw [if_pos e]
    · rw [if_neg e] at hid ⊢
      exact h.nob id (by simpa using hid)
  · split
    · exact List.nodup_nil
    · exact h.nodup id
  · obtain ⟨_, g1⟩ := sub k b hb1
    obtain ⟨_, g2⟩ := sub k' b hb2
    exact h.sep k k' hkk b g1 g2
  · obtain ⟨g0, g1⟩ := sub id b hb1
    have := h.notD id b g1
    exact ⟨fun hd => hd.elim this.1 (h.sep id i g0 b g1), this.2⟩
  · obtain ⟨_, g1⟩ := sub k b hb1
    exact h.gsep k b g1
  · have := h.gnotD b hb1
    exact ⟨fun hd => hd.elim this.1 (fun hf => h.gsep i b hf hb1), this.2⟩
end

def AS.frz (i : Nat) (blk : Blk) (s : AS) : AS := { s with sl := s.sl.map fun p => (p.1, Abs.frz i blk p.2), hp := (rmb i s.hp).map fun p => (p.1, frzB i blk p.2) }
attribute [simp] AS.frz

omit [GInv] in
theorem lk_frz (i : Nat) (blk : Blk) : ∀ (l : List (Nat × V)) (t : Nat), lk (l.map fun p => (p.1, frz i blk p.2)) t = frz i blk (lk l t)
  | [], t => by simp [lk]
  | (k, v) :: l, t => by
    simp only [List.map_cons, lk]
    split
    · rfl
    · exact lk_frz i blk l t
omit [GInv] in
theorem lkb_frz (i : Nat) (blk : Blk) : ∀ (l : List (Nat × Blk)) (k : Nat), lkb (l.map fun p => (p.1, frzB i blk p.2)) k = (lkb l k).map (frzB i blk)
  | [], k => by simp [lkb]
  | (m, b) :: l, k => by
    simp only [List.map_cons, lkb]
    split
    · rfl
    · exact lkb_frz i blk l k
/-- An own block of plain elements turns into memory that nobody writes. -/
theorem Wk.frz {s : AS} (i : Nat) (blk : Blk) (hb : lkb s.hp i = some blk) (hi : noIdss blk.es = true) (ho : noOwns blk.es = true) : Wk s (s.frz i blk) := by
  refine ⟨rfl, fun X a w hpin ⟨D, φ, F, h⟩ => ?_⟩
  refine ⟨_, _, _, h.frz (i := i) (blk := blk) hb hi ho (fun t => lk_frz i blk s.sl t) (fun k => ?_)⟩
  show lkb ((rmb i s.hp).map fun p => (p.1, frzB i blk p.2)) k = _
  rw [lkb_frz, lkb_rmb]
  unfold upd
  split
  · rfl
  · rfl

omit [GInv] in
mutual
theorem frz_id {i : Nat} {blk : Blk} : ∀ (v : V), ment i v = false → Abs.frz i blk v = v
  | .undef, _ | .v _, _ | .rp _ _ _ _, _ | .ro _ _, _ | .own _ _, _ => rfl
  | .ref k a b, h => by
    have : k ≠ i := by simpa [ment] using h
    simp [this]
  | .sl k a n, h => by
    have : k ≠ i := by simpa [ment] using h
    simp [this]
  | .agg cs, h => by simp [frzs_id cs (by simpa [ment] using h)]
  | .tup cs, h => by simp [frzs_id cs (by simpa [ment] using h)]
  | .clo f cs, h => by simp [frzs_id cs (by simpa [ment] using h)]
theorem frzs_id {i : Nat} {blk : Blk} : ∀ (cs : List V), ments i cs = false → frzs i blk cs = cs
  | [], _ => rfl
  | c :: cs, h => by
    simp only [ments, Bool.or_eq_false_iff] at h
    simp [frz_id c h.1, frzs_id cs h.2]
end
omit [GInv] in
@[simp] theorem frzs_ints (i : Nat) (blk : Blk) (l : List Int) : frzs i blk (l.map I) = l.map I := by induction l <;> simp_all
omit [GInv] in
@[simp] theorem frzs_app (i : Nat) (blk : Blk) : ∀ a b : List V, frzs i blk (a ++ b) = frzs i blk a ++ frzs i blk b
  | [], b => by simp
  | x :: a, b => by simp [frzs_app i blk a b]
omit [GInv] in
theorem frzs_map {α : Type} {i : Nat} {blk : Blk} {f : α → V} : ∀ {l : List α}, (∀ x, Abs.frz i blk (f x) = f x) → frzs i blk (l.map f) = l.map f
  | [], _ => rfl
  | x :: l, h => by simp [h x, frzs_map (l := l) h]

/-! ### What lies inside a block turns into memory that nobody writes; a block is cut -/
section
variable {w : World} {D : Nat → Prop} {φ : Nat → Option Pl} {i : Nat} {blk : Blk}

theorem RelD.roes {X : Ctx} {s s' : St} {a : Act} {F : Nat → List Nat} {G : List Nat} (k : Nat) (h : RelD X s a w D φ F G) (hbl : s.hp i = some blk) (hi : noIdss blk.es = true) (hsl : s'.sl = s.sl)
    (hhp : s'.hp = upd s.hp i (some ⟨blk.s, blk.es.map (borrow (fun _ => none) k)⟩)) : ∃ D' F', RelD X s' a w D' φ F' G := by
  rcases h.blks i blk hbl with ⟨h1, h2, h3⟩ | ⟨p, arr, ty, f', h1, h2, h3, h4, h5, h6⟩
  · have e : s' = s := by
      cases s; cases s'
      simp only at hsl hhp hbl
      subst hsl
      congr 1
      rw [hhp]
      funext j
      by_cases ej : j = i
      · subst ej
        rw [upd_same, hbl, h2]
        cases blk; simp only at h2; subst h2; rfl
      · rw [upd_ne _ _ ej]
    rw [e]; exact ⟨D, F, h⟩
  have hnd := h.nodup i
  rw [h5] at hnd
  obtain ⟨hpf, hf'⟩ := List.nodup_cons.1 hnd
  have hin : ∀ b, b ∈ f' → b ∈ F i := fun b hb => by rw [h5]; exact List.mem_cons_of_mem _ hb
  refine ⟨fun b => D b ∨ b ∈ f', fun j => if j = i then [p.b] else F j, ?_⟩
  have sub : ∀ j b, b ∈ (if j = i then [p.b] else F j) → b ∈ F j ∧ b ∉ f' := fun j b hb => by
    split at hb
    · rename_i e
      subst e
      simp at hb; subst hb
      exact ⟨by rw [h5]; exact List.mem_cons_self, hpf⟩
    · rename_i e
      exact ⟨hb, fun hm => h.sep j i e b hb (hin b hm)⟩
  have mono : ∀ (v : V) (x : Value) (fp : List Nat), CV w D v φ x fp → CV w (fun b => D b ∨ b ∈ f') v φ x fp := fun v x fp hv => CV_mono (fun _ h => .inl h) v φ φ x fp (fun _ _ => rfl) (fun _ _ => rfl) hv
  refine { h with Dup := fun b hb => .inl (h.Dup b hb), Ddn := fun b hb => ?_, Dlt := fun b hb => ?_, slots := fun t => by rw [hsl]; exact mono _ _ _ (h.slots t), blks := fun id b hb' => ?_, nob := fun id hid => ?_, nodup := fun id => ?_, sep := fun j j' hjj b hb1 hb2 => ?_, notD := fun id b hb1 => ?_, gsep := fun j b hb1 => ?_, gnotD := fun b hb1 => ?_, gi := GInv.mono h.gi (fun _ h => .inl h) fun _ _ => rfl }
  · rcases hb with hb | hb
    · exact h.Ddn b hb
    · exact .inr (h.notD i b (hin b hb)).2.2
  · rcases hb with hb | hb
    · exact h.Dlt b hb
    · exact (h.notD i b (hin b hb)).2.1
  · rw [hhp] at hb'
    by_cases e : id = i
    · subst e
      rw [upd_same] at hb'
      simp only [Option.some.injEq] at hb'
      subst hb'
      rw [if_pos rfl]
      refine .inr ⟨p, arr, ty, [], h1, h2, h3, h4, rfl, ?_⟩
      have hm := CR_map (w := w) (D := D) (φ := φ) (D' := fun b => D b ∨ b ∈ f') (ψ := fun _ => none) (f := borrow (fun _ => none) k) (s := blk.s) (fun v x fp hfp hv => borrow_ok (F := fun _ => []) (hp := fun _ => none) (fun _ h => .inl h) (by simp) (by simp) k φ (.inl rfl) v x fp hfp hv) blk.es _ f' (fun b hb => .inr hb) h6
      exact CR_mono (fun _ h => h) _ _ _ _ _ _ (fun _ _ => rfl) (fun id' hm' => by rw [ments_noIds id' _ (noIdss_map (borrow_noIds _ k) _)] at hm'; cases hm') hm
    · rw [upd_ne _ _ e] at hb'
      rw [if_neg e]
      rcases h.blks id b hb' with h0 | ⟨p', arr', ty', f2, g1, g2, g3, g4, g5, g6⟩
      · exact .inl h0
      · exact .inr ⟨p', arr', ty', f2, g1, g2, g3, g4, g5, CR_mono (fun _ h => .inl h) _ _ _ _ _ _ (fun _ _ => rfl) (fun _ _ => rfl) g6⟩
  · rw [hhp] at hid
    by_cases e : id = i
    · subst e; rw [upd_same] at hid; cases hid
    · rw [upd_ne _ _ e] at hid
      rw [if_neg e]
      exact h.nob id hid
  · split
    · exact List.nodup_cons.2 ⟨by simp, List.nodup_nil⟩
    · exact h.nodup id
  · exact h.sep j j' hjj b (sub j b hb1).1 (sub j' b hb2).1
  · obtain ⟨g1, g2⟩ := sub id b hb1
    have := h.notD id b g1
    exact ⟨fun hd => hd.elim this.1 g2, this.2⟩
  · exact h.gsep j b (sub j b hb1).1
  · have := h.gnotD b hb1
    exact ⟨fun hd => hd.elim this.1 (fun hm => h.gsep i b (hin b hm) hb1), this.2⟩
theorem RelD.cut {X : Ctx} {s s' : St} {a : Act} {F : Nat → List Nat} {G : List Nat} (n : Nat) (h : RelD X s a w D φ F G) (hbl : s.hp i = some blk) (ho : noOwns blk.es = true) (hsl : s'.sl = s.sl)
    (hhp : s'.hp = upd s.hp i (some ⟨blk.s, blk.es.take n⟩)) : RelD X s' a w D φ F G := by
  refine { h with slots := fun t => by rw [hsl]; exact h.slots t, blks := fun id b hb' => ?_, nob := fun id hid => ?_ }
  · rw [hhp] at hb'
    by_cases e : id = i
    · subst e
      rw [upd_same] at hb'
      simp only [Option.some.injEq] at hb'
      subst hb'
      rcases h.blks id blk hbl with ⟨h1, h2, h3⟩ | ⟨p, arr, ty, f', h1, h2, h3, h4, h5, h6⟩
      · exact .inl ⟨h1, by simp [h2], h3⟩
      · have hf := CR_noOwn _ _ _ _ ho h6
        subst hf
        exact .inr ⟨p, arr, ty, [], h1, h2, h3, h4, h5, CR_take n h6⟩
    · rw [upd_ne _ _ e] at hb'
      exact h.blks id b hb'
  · rw [hhp] at hid
    by_cases e : id = i
    · subst e; rw [upd_same] at hid; cases hid
    · rw [upd_ne _ _ e] at hid
      exact h.nob id hid
end
/-- What lies inside a block turns into memory that nobody writes. -/
theorem Wk.roes {s : AS} (i k : Nat) {blk : Blk} (hb : lkb s.hp i = some blk) (hi : noIdss blk.es = true) : Wk s { s with hp := (i, ⟨blk.s, blk.es.map (borrow (fun _ => none) k)⟩) :: s.hp } := by
  refine ⟨rfl, fun X a w hpin ⟨D, φ, F, h⟩ => ?_⟩
  obtain ⟨D', F', h'⟩ := h.roes (s' := (AS.den { s with hp := (i, ⟨blk.s, blk.es.map (borrow (fun _ => none) k)⟩) :: s.hp })) k hb hi rfl (lkb_cons _ _ _)
  exact ⟨D', φ, F', h'⟩
/-- A block of plain elements is cut. -/
theorem Wk.cut {s : AS} (i n : Nat) {blk : Blk} (hb : lkb s.hp i = some blk) (ho : noOwns blk.es = true) : Wk s { s with hp := (i, ⟨blk.s, blk.es.take n⟩) :: s.hp } := by
  refine ⟨rfl, fun X a w hpin ⟨D, φ, F, h⟩ => ?_⟩
  exact ⟨D, φ, F, h.cut (s' := (AS.den { s with hp := (i, ⟨blk.s, blk.es.take n⟩) :: s.hp })) n hb ho rfl (lkb_cons _ _ _)⟩
end Go.Abs

set_option linter.unusedVariables false
set_option linter.unusedSimpArgs false
namespace Go.Abs
variable [GInv]
section
variable {w : World} {D : Nat → Prop} {φ : Nat → Option Pl} {F : Nat → List Nat}

omit [GInv] in
mutual
theorem give_noOwn {hp : Nat → Option Blk} : ∀ (v : V) (p : Prop) (v' : V) (ids : List Nat), give hp v = some (p, v', ids) → noOwn v = true
  | .undef, p, v', ids, hg | .ref _ _ _, p, v', ids, hg | .own _ _, p, v', ids, hg | .clo _ _, p, v', ids, hg => by simp [give] at hg
  | .v _, p, v', ids, hg | .ro _ _, p, v', ids, hg | .rp _ _ _ _, p, v', ids, hg | .sl _ _ _, p, v', ids, hg => by simp [noOwn]
  | .agg cs, p, v', ids, hg => by
    simp only [give] at hg
    split at hg <;> simp only [Option.some.injEq, Prod.mk.injEq, reduceCtorEq] at hg
    rename_i q vs ids' e
    simp only [noOwn]; exact gives_noOwn cs _ _ _ e
  | .tup cs, p, v', ids, hg => by
    simp only [give] at hg
    split at hg <;> simp only [Option.some.injEq, Prod.mk.injEq, reduceCtorEq] at hg
    rename_i q vs ids' e
    simp only [noOwn]; exact gives_noOwn cs _ _ _ e
theorem gives_noOwn {hp : Nat → Option Blk} : ∀ (cs : List V) (p : Prop) (vs : List V) (ids : List Nat), gives hp cs = some (p, vs, ids) → noOwns cs = true
  | [], p, vs, ids, hg => rfl
  | c :: cs, p, vs, ids, hg => by
    simp only [gives] at hg
    split at hg <;> simp only [Option.some.injEq, Prod.mk.injEq, reduceCtorEq] at hg
    rename_i p1 v ids1 q vs' ids' e1 e2
    simp only [noOwns, Bool.and_eq_true]
    exact ⟨give_noOwn c _ _ _ e1, gives_noOwn cs _ _ _ e2⟩
end

omit [GInv] in
mutual
theorem give_noIds {hp : Nat → Option Blk} : ∀ (v : V) (p : Prop) (v' : V) (ids : List Nat), give hp v = some (p, v', ids) → noIds v' = true
  | .undef, p, v', ids, hg | .ref _ _ _, p, v', ids, hg | .own _ _, p, v', ids, hg | .clo _ _, p, v', ids, hg => by simp [give] at hg
  | .v _, p, v', ids, hg | .ro _ _, p, v', ids, hg | .rp _ _ _ _, p, v', ids, hg => by
    simp only [give, Option.some.injEq, Prod.mk.injEq] at hg; obtain ⟨_, rfl, _⟩ := hg; rfl
  | .sl id i n, p, v', ids, hg => by
    simp only [give] at hg
    split at hg
    · split at hg
      · simp only [Option.some.injEq, Prod.mk.injEq] at hg; obtain ⟨_, rfl, _⟩ := hg; rfl
      · cases hg
    · cases hg
  | .agg cs, p, v', ids, hg => by
    simp only [give] at hg
    split at hg <;> simp only [Option.some.injEq, Prod.mk.injEq, reduceCtorEq] at hg
    rename_i q vs ids' e
    obtain ⟨_, rfl, _⟩ := hg
    simp only [noIds]; exact gives_noIds cs _ _ _ e
  | .tup cs, p, v', ids, hg => by
    simp only [give] at hg
    split at hg <;> simp only [Option.some.injEq, Prod.mk.injEq, reduceCtorEq] at hg
    rename_i q vs ids' e
    obtain ⟨_, rfl, _⟩ := hg
    simp only [noIds]; exact gives_noIds cs _ _ _ e
theorem gives_noIds {hp : Nat → Option Blk} : ∀ (cs : List V) (p : Prop) (vs : List V) (ids : List Nat), gives hp cs = some (p, vs, ids) → noIdss vs = true
  | [], p, vs, ids, hg => by
    simp only [gives, Option.some.injEq, Prod.mk.injEq] at hg; obtain ⟨_, rfl, _⟩ := hg; rfl
  | c :: cs, p, vs, ids, hg => by
    simp only [gives] at hg
    split at hg <;> simp only [Option.some.injEq, Prod.mk.injEq, reduceCtorEq] at hg
    rename_i p1 v ids1 q vs' ids' e1 e2
    obtain ⟨_, rfl, _⟩ := hg
    simp only [noIdss, Bool.and_eq_true]
    exact ⟨give_noIds c _ _ _ e1, gives_noIds cs _ _ _ e2⟩
end

omit [GInv] in
/-- Element i of a row, and the row with another abstract value of the same concrete element. -/
theorem CR_at {s : Nat} : ∀ {es : List V} {xs : List Value} {f : List Nat} {i : Nat} {e : V}, CR w D s es φ xs f → es[i]? = some e →
    ∃ x f1 fi f2, f = f1 ++ fi ++ f2 ∧ CV w D e φ x fi ∧ ∀ e' fe φ', (∀ id, ments id (es.set i .undef) = true → φ' id = φ id) → CV w D e' φ' x fe → CR w D s (es.set i e') φ' xs (f1 ++ fe ++ f2)
  | [], xs, f, i, e, h, he => by simp at he
  | c :: cs, xs, f, i, e, h, he => by
    simp only [CR] at h; obtain ⟨x, rest, g1, g2, rfl, ⟨hs, ho⟩, rfl, h1, h⟩ := h
    cases i with
    | zero =>
      simp at he; subst he
      refine ⟨x, [], g1, g2, by simp, h1, fun e' fe φ' hφ he' => ?_⟩
      simp only [List.set_cons_zero, CR]
      exact ⟨x, rest, fe, g2, rfl, ⟨hs, ho⟩, by simp, he', CR_mono (fun _ hb => hb) _ _ _ _ _ _ (fun _ _ => rfl) (fun id hm => hφ id (by simp [ments, hm])) h⟩
    | succ i =>
      obtain ⟨y, f1, fi, f2, rfl, k2, k3⟩ := CR_at h (by simpa using he)
      refine ⟨y, g1 ++ f1, fi, f2, by simp, k2, fun e' fe φ' hφ he' => ?_⟩
      simp only [List.set_cons_succ, CR]
      exact ⟨x, rest, g1, f1 ++ fe ++ f2, rfl, ⟨hs, ho⟩, by simp, CV_mono (fun _ hb => hb) _ _ _ _ _ (fun _ _ => rfl) (fun id hm => hφ id (by simp [ments, hm])) h1, k3 e' fe φ' (fun id hm => hφ id (by simp [ments, hm])) he'⟩

omit [GInv] in
mutual
theorem take_ids (d : Nat) : ∀ (v : V) (k : Nat) (q : Nat × Blk), q ∈ (take d k v).2.1 → ∃ j, (k ≤ j ∧ j < (take d k v).2.2) ∧ q.1 = d + 1000 * j
  | .own s es, k, q, h => by
    simp only [take, List.mem_singleton] at h
    exact ⟨k, ⟨Nat.le_refl _, by simp [take]⟩, by rw [h]⟩
  | .agg cs, k, q, h => by
    simp only [take] at h ⊢; exact takes_ids d cs k q h
  | .tup cs, k, q, h => by
    simp only [take] at h ⊢; exact takes_ids d cs k q h
  | .undef, k, q, h | .v _, k, q, h | .ref _ _ _, k, q, h | .sl _ _ _, k, q, h | .rp _ _ _ _, k, q, h | .ro _ _, k, q, h | .clo _ _, k, q, h => by simp [take] at h
theorem takes_ids (d : Nat) : ∀ (cs : List V) (k : Nat) (q : Nat × Blk), q ∈ (takes d k cs).2.1 → ∃ j, (k ≤ j ∧ j < (takes d k cs).2.2) ∧ q.1 = d + 1000 * j
  | [], k, q, h => by simp [takes] at h
  | c :: cs, k, q, h => by
    simp only [takes, List.mem_append] at h ⊢
    have hle1 := take_le d c k
    have hle2 := takes_le d cs (take d k c).2.2
    rcases h with h | h
    · obtain ⟨j, hj, e⟩ := take_ids d c k q h
      exact ⟨j, ⟨hj.1, by omega⟩, e⟩
    · obtain ⟨j, hj, e⟩ := takes_ids d cs _ q h
      exact ⟨j, ⟨by omega, hj.2⟩, e⟩
end

variable {X : Ctx} {s : St} {a : Act}

theorem RelD.fold (h : RelD X s a w D φ F []) {host i : Nat} {bh : Blk} (hb : s.hp host = some bh) {v : V} (hv : bh.es[i]? = some v) {p : Prop} {v' : V} {ids : List Nat} (hg : give s.hp v = some (p, v', ids)) (hp : p)
    (hnd : ids.Nodup) (hh : host ∉ ids) :
    ∃ F', RelD X { s with hp := fun k => if k ∈ ids then none else if k = host then some ⟨bh.s, bh.es.set i v'⟩ else s.hp k } a w D φ F' [] := by
  rcases h.blks host bh hb with ⟨_, e, _⟩ | ⟨p0, arr, ty, f', q1, q2, q3, q4, q5, q6⟩
  · rw [e] at hv; simp at hv
  obtain ⟨x, f1, fi, f2, rfl, hx, hset⟩ := CR_at q6 hv
  have hfi : fi = [] := CV_noOwn _ _ _ _ (give_noOwn v p v' ids hg) hx
  subst hfi
  have hcv := give_ok (F := F) h.blks v x p v' ids hg hp hx
  have hcv' : CV w D v' φ x (ids.flatMap F) := CV_mono (fun _ hb => hb) _ _ _ _ _ (fun _ _ => rfl) (fun id hm => by rw [ment_noIds id v' (give_noIds v p v' ids hg)] at hm; cases hm) hcv
  have hcr := hset v' _ φ (fun _ _ => rfl) hcv'
  let F' : Nat → List Nat := fun k => if k ∈ ids then [] else if k = host then p0.b :: (f1 ++ ids.flatMap F ++ f2) else F k
  have hF : ∀ k b, b ∈ F' k → k ∉ ids ∧ ∃ j, b ∈ F j ∧ (j = k ∨ (k = host ∧ j ∈ ids)) := by
    intro k b hbk
    simp only [F'] at hbk
    split at hbk
    · simp at hbk
    · rename_i hk
      refine ⟨hk, ?_⟩
      split at hbk
      · rename_i e; subst e
        rcases List.mem_cons.1 hbk with e | hm
        · exact ⟨k, by rw [q5, e]; exact List.mem_cons_self, .inl rfl⟩
        · rcases List.mem_append.1 hm with hm | hm
          · rcases List.mem_append.1 hm with hm | hm
            · exact ⟨k, by rw [q5]; simp [hm], .inl rfl⟩
            · obtain ⟨j, hj, hbj⟩ := List.mem_flatMap.1 hm
              exact ⟨j, hbj, .inr ⟨rfl, hj⟩⟩
          · exact ⟨k, by rw [q5]; simp [hm], .inl rfl⟩
      · exact ⟨k, hbk, .inl rfl⟩
  refine ⟨F', { h with blks := fun k blk hbk => ?_, nob := fun k hn => ?_, nodup := fun k => ?_, sep := fun k j hkj b hbk hbj => ?_, notD := fun k b hbk => ?_, gsep := fun k b hbk hm => absurd hm List.not_mem_nil }⟩
  · simp only [F'] at hbk ⊢
    split at hbk
    · cases hbk
    · rename_i hk
      rw [if_neg hk]
      split at hbk
      · rename_i e; subst e
        cases hbk
        rw [if_pos rfl]
        exact .inr ⟨p0, arr, ty, _, q1, q2, q3, q4, rfl, hcr⟩
      · rename_i e; rw [if_neg e]; exact h.blks k blk hbk
  · simp only [F'] at hn ⊢
    split at hn
    · rename_i hk; rw [if_pos hk]
    · rename_i hk
      rw [if_neg hk]
      split at hn
      · cases hn
      · rename_i e; rw [if_neg e]; exact h.nob k hn
  · simp only [F']
    split
    · exact List.nodup_nil
    · split
      · have hperm : (p0.b :: (f1 ++ ids.flatMap F ++ f2)).Perm (F host ++ ids.flatMap F) := by
          rw [q5]
          simp only [List.append_nil, List.cons_append]
          refine List.Perm.cons _ ?_
          rw [List.append_assoc, List.append_assoc]
          exact List.Perm.append_left f1 List.perm_append_comm
        refine hperm.nodup_iff.2 (List.nodup_append.2 ⟨h.nodup host, flatMap_nodup h ids hnd, fun b hb1 c hc e => ?_⟩)
        subst e
        obtain ⟨j, hj, hbj⟩ := List.mem_flatMap.1 hc
        exact h.sep host j (fun e => hh (e ▸ hj)) b hb1 hbj
      · exact h.nodup k
  · obtain ⟨hk, k', hk1, hk2⟩ := hF k b hbk
    obtain ⟨hj, j', hj1, hj2⟩ := hF j b hbj
    have hne : k' ≠ j' := by
      intro e; subst e
      rcases hk2 with rfl | ⟨rfl, hk2⟩
      · rcases hj2 with rfl | ⟨rfl, hj2⟩
        · exact hkj rfl
        · exact hk hj2
      · rcases hj2 with rfl | ⟨rfl, hj2⟩
        · exact hj hk2
        · exact hkj rfl
    exact h.sep k' j' hne b hk1 hj1
  · obtain ⟨_, k', hk1, _⟩ := hF k b hbk
    exact h.notD k' b hk1

theorem RelD.unfold (h : RelD X s a w D φ F []) {host i d : Nat} {bh : Blk} (hb : s.hp host = some bh) {v : V} (hv : bh.es[i]? = some v) (hni : noIds v = true) (hro : resOk v = true)
    (hf : ∀ k, k < (take d 0 v).2.2 → Fresh s (d + 1000 * k) ∧ d + 1000 * k ∉ X.pin) :
    ∃ φ' F', RelD X { s with hp := upd (updl (upd s.hp host (some ⟨bh.s, bh.es.set i .undef⟩)) (take d 0 v).2.1) host (some ⟨bh.s, bh.es.set i (take d 0 v).1⟩) } a w D φ' F' [] := by
  rcases h.blks host bh hb with ⟨_, e, _⟩ | ⟨p0, arr, ty, f', q1, q2, q3, q4, q5, q6⟩
  · rw [e] at hv; simp at hv
  obtain ⟨x, f1, fi, f2, rfl, hx, hset⟩ := CR_at q6 hv
  have hx' : CV w D v (fun _ => none) x fi := CV_mono (fun _ hb => hb) _ _ _ _ _ (fun _ _ => rfl) (fun id hm => by rw [ment_noIds id v hni] at hm; cases hm) hx
  have hnodup := h.nodup host
  rw [q5] at hnodup
  have hperm : (p0.b :: (f1 ++ fi ++ f2)).Perm ((p0.b :: (f1 ++ f2)) ++ fi) := by
    simp only [List.cons_append]
    refine List.Perm.cons _ ?_
    rw [List.append_assoc, List.append_assoc]
    exact List.Perm.append_left f1 List.perm_append_comm
  have hnd2 := hperm.nodup_iff.1 hnodup
  have hin : ∀ b, b ∈ fi → b ∈ F host := fun b hb => by rw [q5]; simp [hb]
  have hin2 : ∀ b, b ∈ p0.b :: (f1 ++ f2) → b ∈ F host := fun b hb => by
    rw [q5]
    simp only [List.mem_cons, List.mem_append] at hb ⊢
    rcases hb with hb | hb | hb <;> simp [hb]
  -- the element goes on its way
  have h1 : RelD X { s with hp := upd s.hp host (some ⟨bh.s, bh.es.set i .undef⟩) } a w D φ (upd F host (p0.b :: (f1 ++ f2))) (fi ++ []) := by
    refine { h with blks := fun k blk hbk => ?_, nob := fun k hn => ?_, nodup := fun k => ?_, sep := fun k j hkj b hbk hbj => ?_, notD := fun k b hbk => ?_, gnodup := ?_, gsep := fun k b hbk hm => ?_, gnotD := fun b hm => ?_ }
    · by_cases e : k = host
      · subst e
        simp at hbk; subst hbk
        rw [upd_same]
        exact .inr ⟨p0, arr, ty, f1 ++ f2, q1, q2, q3, q4, rfl, by simpa using hset .undef [] φ (fun _ _ => rfl) (by simp [CV])⟩
      · rw [upd_ne _ _ e]; simp only [upd, e, if_false] at hbk; exact h.blks k blk hbk
    · by_cases e : k = host
      · subst e; simp at hn
      · rw [upd_ne _ _ e]; simp only [upd, e, if_false] at hn; exact h.nob k hn
    · by_cases e : k = host
      · subst e; rw [upd_same]; exact (List.nodup_append.1 hnd2).1
      · rw [upd_ne _ _ e]; exact h.nodup k
    · have g1 : b ∈ F k := by
        by_cases e : k = host
        · subst e; rw [upd_same] at hbk; exact hin2 b hbk
        · rw [upd_ne _ _ e] at hbk; exact hbk
      have g2 : b ∈ F j := by
        by_cases e : j = host
        · subst e; rw [upd_same] at hbj; exact hin2 b hbj
        · rw [upd_ne _ _ e] at hbj; exact hbj
      exact h.sep k j hkj b g1 g2
    · by_cases e : k = host
      · subst e; rw [upd_same] at hbk; exact h.notD k b (hin2 b hbk)
      · rw [upd_ne _ _ e] at hbk; exact h.notD k b hbk
    · simpa using (List.nodup_append.1 hnd2).2.1
    · simp only [List.append_nil] at hm
      by_cases e : k = host
      · subst e; rw [upd_same] at hbk
        exact (List.nodup_append.1 hnd2).2.2 b hbk b hm rfl
      · rw [upd_ne _ _ e] at hbk
        exact h.sep k host e b hbk (hin b hm)
    · simp only [List.append_nil] at hm
      exact h.notD host b (hin b hm)
  have hset_ments : ∀ k, ments k bh.es = false → ments k (bh.es.set i .undef) = false := fun k hk => ments_set (by simp [ment]) hk
  have hne : ∀ k, Fresh s k → k ≠ host := fun k hk e => by rw [← e, hk.no] at hb; cases hb
  obtain ⟨φ', F', t1, t2, t3⟩ := take_ok (d := d) v 0 _ φ _ x fi [] hro h1 hx' (fun k _ hk => by
    obtain ⟨g1, g2⟩ := hf k hk
    refine ⟨⟨g1.sl, fun id blk hbk => ?_, ?_⟩, g2⟩
    · by_cases e : id = host
      · subst e; simp at hbk; subst hbk; exact hset_ments _ (g1.hp id bh hb)
      · simp only [upd, e, if_false] at hbk; exact g1.hp id blk hbk
    · simp only [upd, hne _ g1, if_false]; exact g1.no)
  have h2 := t1.rel
  have hhost : updl (upd s.hp host (some ⟨bh.s, bh.es.set i .undef⟩)) (take d 0 v).2.1 host = some ⟨bh.s, bh.es.set i .undef⟩ := by
    have hall : ∀ q ∈ (take d 0 v).2.1, q.1 ≠ host := by
      intro q hq
      obtain ⟨k, hk, e⟩ := take_ids d v 0 q hq
      rw [e]
      exact hne _ (hf k hk.2).1
    generalize (take d 0 v).2.1 = l at hall
    have : ∀ (l : List (Nat × Blk)) (f : Nat → Option Blk), (∀ q ∈ l, q.1 ≠ host) → updl f l host = f host := by
      intro l
      induction l with
      | nil => intro f _; rfl
      | cons q l ih =>
        intro f hl
        obtain ⟨j, b⟩ := q
        simp only [updl]
        rw [ih _ (fun q hq => hl q (List.mem_cons_of_mem _ hq)), upd_ne _ _ (Ne.symm (hl (j, b) List.mem_cons_self))]
    rw [this l _ hall, upd_same]
  have hφ : φ' host = φ host := t1.same host fun k _ hk e => hne _ (hf k hk).1 e.symm
  have hsetid : ∀ id, ments id (bh.es.set i .undef) = true → φ' id = φ id := fun id hm => t1.same id fun k _ hk e => by
    subst e
    rw [hset_ments _ ((hf k hk).1.hp host bh hb)] at hm; cases hm
  rcases h2.blks host _ hhost with ⟨_, e, _⟩ | ⟨p1, arr1, ty1, f3, r1, r2, r3, r4, r5, r6⟩
  · have : (bh.es.set i V.undef).length = 0 := by rw [show bh.es.set i V.undef = [] from e]; rfl
    rw [List.length_set] at this
    rw [List.eq_nil_of_length_eq_zero this] at hv; simp at hv
  · rw [hφ, q1] at r1; cases r1
    have q40 := q4
    have r40 := r4
    obtain ⟨_, _, q4'⟩ := q40
    obtain ⟨_, _, r4'⟩ := r40
    rw [r4'] at q4'; cases q4'
    have hlt : i < bh.es.length := (List.getElem?_eq_some_iff.1 hv).1
    have hFh : F' host = p0.b :: (f1 ++ f2) := by rw [t1.sameF host fun k _ hk e => hne _ (hf k hk).1 e.symm, upd_same]
    refine ⟨φ', F', { h2 with blks := fun k blk hbk => ?_, nob := fun k hn => ?_ }⟩
    · by_cases e : k = host
      · subst e
        simp at hbk; subst hbk
        exact .inr ⟨p0, arr, ty, f1 ++ f2, by rw [hφ]; exact q1, q2, q3, q4, hFh, by simpa using hset (take d 0 v).1 [] φ' hsetid t2⟩
      · simp only [upd, e, if_false] at hbk; exact h2.blks k blk hbk
    · by_cases e : k = host
      · subst e; simp at hn
      · simp only [upd, e, if_false] at hn; exact h2.nob k hn
end

/-! ### The same for states as lists -/

theorem Wk.fold {s : AS} (host i : Nat) {bh : Blk} {v : V} {p : Prop} {v' : V} {ids : List Nat} (hb : lkb s.hp host = some bh) (hv : bh.es[i]? = some v) (hg : give (lkb s.hp) v = some (p, v', ids)) (hp : p) (hnd : ids.Nodup) (hh : host ∉ ids) :
    Wk s { s with hp := (host, ⟨bh.s, bh.es.set i v'⟩) :: rmbs ids (rmb host s.hp) } := by
  refine ⟨rfl, fun X a w _ ⟨D, φ, F, h⟩ => ?_⟩
  obtain ⟨F', h'⟩ := RelD.fold h (s := s.den) hb hv hg hp hnd hh
  refine ⟨D, φ, F', ?_⟩
  have e : ({ s with hp := (host, ⟨bh.s, bh.es.set i v'⟩) :: rmbs ids (rmb host s.hp) } : AS).den = { s.den with hp := fun k => if k ∈ ids then none else if k = host then some ⟨bh.s, bh.es.set i v'⟩ else s.den.hp k } := by
    simp only [AS.den]
    congr 1
    funext k
    simp only [lkb, lkb_rmbs, lkb_rmb, upd]
    by_cases e : k = host
    · subst e; simp [hh]
    · simp [e]
  rw [e]; exact h'

/-- Element i of block host alone leads to block id. -/
theorem Wk.fold1 {s : AS} (host i id : Nat) {bh b : Blk} {n : Nat} (hb : lkb s.hp host = some bh) (hi : lkb s.hp id = some b) (hv : bh.es[i]? = some (.sl id 0 n)) (hn : n = b.es.length) (hni : noIdss b.es = true) (hh : host ≠ id) :
    Wk s { s with hp := (host, ⟨bh.s, bh.es.set i (.own b.s b.es)⟩) :: rmbs [id] (rmb host s.hp) } :=
  Wk.fold host i (v' := .own b.s b.es) (ids := [id]) (p := 0 = 0 ∧ n = b.es.length) hb hv (by simp [give, hi, hni]) ⟨rfl, hn⟩ (by simp) (by simpa using hh)

theorem Wk.unfold1 {s : AS} (host i d : Nat) {bh : Blk} {sz : Nat} {es : List V} (hb : lkb s.hp host = some bh) (hv : bh.es[i]? = some (.own sz es)) (hf : s.fresh d = true) :
    Wk s { s with hp := (host, ⟨bh.s, bh.es.set i (.sl d 0 es.length)⟩) :: (d, ⟨sz, es⟩) :: rmb host s.hp } := by
  refine ⟨rfl, fun X a w hpin ⟨D, φ, F, h⟩ => ?_⟩
  obtain ⟨f1, f2⟩ := AS.fresh_ok hf
  obtain ⟨φ', F', h'⟩ := RelD.unfold (d := d) h (s := s.den) hb hv rfl rfl (fun k hk => by
    simp only [take, Nat.zero_add, Nat.lt_one_iff] at hk; subst hk
    exact ⟨f1, by rw [hpin]; exact f2⟩)
  refine ⟨D, φ', F', ?_⟩
  have e : ({ s with hp := (host, ⟨bh.s, bh.es.set i (.sl d 0 es.length)⟩) :: (d, ⟨sz, es⟩) :: rmb host s.hp } : AS).den =
      { s.den with hp := upd (updl (upd s.den.hp host (some ⟨bh.s, bh.es.set i .undef⟩)) (take d 0 (.own sz es)).2.1) host (some ⟨bh.s, bh.es.set i (take d 0 (.own sz es)).1⟩) } := by
    simp only [AS.den, take, updl, Nat.mul_zero, Nat.add_zero]
    congr 1
    funext k
    simp only [lkb, lkb_rmb, upd]
    by_cases e : k = host
    · simp [e]
    · simp [e]
  rw [e]; exact h'

/-! ### Elements of which less is told -/
omit [GInv] in
theorem CR_le {w : World} {D : Nat → Prop} {φ : Nat → Option Pl} {s : Nat} : ∀ (as bs : List V) (xs : List Value) (f : List Nat), leVs as bs → CR w D s as φ xs f → CR w D s bs φ xs f
  | [], [], xs, f, _, h => h
  | a :: as, b :: bs, xs, f, h, hx => by
    simp only [leVs] at h
    simp only [CR] at hx ⊢
    obtain ⟨x, rest, f1, f2, h1, h2, h3, h4, h5⟩ := hx
    exact ⟨x, rest, f1, f2, h1, h2, h3, leV_ok a b x f1 h.1 h4, CR_le as bs rest f2 h.2 h5⟩
  | [], b :: bs, xs, f, h, _ => by simp [leVs] at h
  | a :: as, [], xs, f, h, _ => by simp [leVs] at h

theorem Wk.le {s : AS} (host : Nat) {bh : Blk} (es' : List V) (hb : lkb s.hp host = some bh) (hle : leVs bh.es es') :
    Wk s { s with hp := (host, ⟨bh.s, es'⟩) :: rmb host s.hp } := by
  refine ⟨rfl, fun X a w _ ⟨D, φ, F, h⟩ => ⟨D, φ, F, ?_⟩⟩
  have e : ∀ k, lkb ((host, ⟨bh.s, es'⟩) :: rmb host s.hp) k = if k = host then some ⟨bh.s, es'⟩ else lkb s.hp k := fun k => by
    simp only [lkb, lkb_rmb, upd]
    by_cases e : k = host
    · subst e; simp
    · simp [e]
  refine { h with blks := fun k blk hk => ?_, nob := fun k hk => ?_ }
  · have hk' : lkb ((host, ⟨bh.s, es'⟩) :: rmb host s.hp) k = some blk := hk
    rw [e] at hk'
    split at hk'
    · rename_i ek; subst ek
      cases hk'
      rcases h.blks k bh hb with ⟨g1, g2, g3⟩ | ⟨p0, arr, ty, f', q1, q2, q3, q4, q5, q6⟩
      · refine .inl ⟨g1, ?_, g3⟩
        rw [g2] at hle
        cases es' with
        | nil => rfl
        | cons x l => simp [leVs] at hle
      · exact .inr ⟨p0, arr, ty, f', q1, q2, q3, q4, q5, CR_le _ _ _ _ hle q6⟩
    · exact h.blks k blk hk'
  · have hk' : lkb ((host, ⟨bh.s, es'⟩) :: rmb host s.hp) k = none := hk
    rw [e] at hk'
    split at hk'
    · cases hk'
    · exact h.nob k hk'
omit [GInv] in
theorem leVs_nils (n sz : Nat) : leVs (List.replicate n (.v (.slice none 0 0))) (List.replicate n (.own sz [])) := by
  induction n with
  | zero => simp [leVs]
  | succ n ih => simp only [List.replicate_succ, leVs]; exact ⟨by simp [leV], ih⟩
end Go.Abs

set_option linter.unusedVariables false
set_option linter.unusedSimpArgs false
namespace Go.Abs
variable [GInv]

mutual
def lenP : V → Prop
  | .ro _ es => es.length ≤ 9223372036854775807 ∧ lenPs es
  | .rp _ es _ _ => lenPs es
  | .agg cs => lenPs cs
  | .v (.string b) => b.size ≤ 9223372036854775807
  | _ => True
def lenPs : List V → Prop
  | [] => True
  | c :: cs => lenP c ∧ lenPs cs
end

section
variable {w : World} {D : Nat → Prop}
omit [GInv] in
mutual
theorem CV_lens : ∀ (v : V) (φ : Nat → Option Pl) (x : Value) (fp : List Nat), CV w D v φ x fp → lenP v
  | .ro s es, φ, x, fp, h => by
    simp only [CV] at h
    obtain ⟨_, ⟨rfl, _⟩ | ⟨b, o, cap, arr, _, h1, h2, _, _, h3, _⟩⟩ := h
    · simp [lenP, lenPs]
    · simp only [lenP]
      exact ⟨by unfold maxLen at h2; omega, CR_lens s es _ _ _ h3⟩
  | .rp s es i j, φ, x, fp, h => by
    simp only [CV] at h
    obtain ⟨_, b, o, arr, _, _, _, h3, _⟩ := h
    simp only [lenP]
    exact CR_lens s es _ _ _ h3
  | .agg cs, φ, x, fp, h => by
    simp only [CV] at h
    obtain ⟨xs, _, h⟩ := h
    simp only [lenP]
    exact CVs_lens cs _ _ _ h
  | .v y, φ, x, fp, h => by
    simp only [CV] at h
    cases y <;> simp only [lenP]
    have := h.2.1
    simpa [one] using this
  | .undef, φ, x, fp, h | .ref _ _ _, φ, x, fp, h | .sl _ _ _, φ, x, fp, h | .own _ _, φ, x, fp, h | .tup _, φ, x, fp, h | .clo _ _, φ, x, fp, h => by simp [lenP]
theorem CVs_lens : ∀ (cs : List V) (φ : Nat → Option Pl) (xs : List Value) (fp : List Nat), CVs w D cs φ xs fp → lenPs cs
  | [], φ, xs, fp, h => trivial
  | c :: cs, φ, xs, fp, h => by
    simp only [CVs] at h
    obtain ⟨x, xs', f1, f2, _, _, h1, h2⟩ := h
    exact ⟨CV_lens c _ _ _ h1, CVs_lens cs _ _ _ h2⟩
theorem CR_lens (s : Nat) : ∀ (cs : List V) (φ : Nat → Option Pl) (xs : List Value) (fp : List Nat), CR w D s cs φ xs fp → lenPs cs
  | [], φ, xs, fp, h => trivial
  | c :: cs, φ, xs, fp, h => by
    simp only [CR] at h
    obtain ⟨x, rest, f1, f2, _, _, _, h1, h2⟩ := h
    exact ⟨CV_lens c _ _ _ h1, CR_lens s cs _ _ _ h2⟩
end
end

omit [GInv] in
theorem lenPs_mem : ∀ {cs : List V} {c : V}, lenPs cs → c ∈ cs → lenP c
  | [], c, _, hc => by simp at hc
  | d :: cs, c, h, hc => by
    rcases List.mem_cons.1 hc with rfl | hc
    · exact h.1
    · exact lenPs_mem h.2 hc
omit [GInv] in
theorem lenPs_map {α : Type} {f : α → V} {l : List α} (h : lenPs (l.map f)) {x : α} (hx : x ∈ l) : lenP (f x) := lenPs_mem h (List.mem_map_of_mem hx)
attribute [simp] lenP lenPs
omit [GInv] in
@[simp] theorem lenPs_ints (l : List Int) : lenPs (l.map I) := by induction l <;> simp_all

omit [GInv] in
theorem FnC.callable {P : Program} {f : Nat} {c : C} {rs : List RV} {n : Nat} (h : FnC P f c rs n) : Abs.callable P f = true := by
  obtain ⟨fn, code, ks, h1, h2, h3, _⟩ := h
  simp [Abs.callable, h1, h2, h3]

theorem PCall.lens {P : Program} {f : Nat} {args : List V} {res : V} (hc : callable P f = true) (h : lenPs args → PCall P f args res) : PCall P f args res :=
  ⟨hc, fun w D xs hD hg hxs => (h (CVs_lens _ _ _ _ hxs)).2 w D xs hD hg hxs⟩

/-- A function's contract; the lengths of the rows that it is handed have a bound. -/
theorem PCall.ofL {P : Program} {f : Nat} {c : C} {rs : List RV} {n : Nat} {args : List V} {res : V} (hf : FnC P f c rs n) (hlen : args.length ≤ n) (h : lenPs args → wpC P c (Ret rs res) (AS.init args)) : PCall P f args res :=
  PCall.lens hf.callable fun hl => PCall.of hf hlen (h hl)
theorem PCall.len {P : Program} {f : Nat} {c : C} {rs : List RV} {n : Nat} {args : List V} {res : V} (hf : FnC P f c rs n) (h : lenPs args → PCall P f args res) : PCall P f args res :=
  PCall.lens hf.callable h
end Go.Abs

set_option linter.unusedVariables false
set_option linter.unusedSimpArgs false
namespace Go.Abs
open Go.RowKit
variable [GInv]

omit [GInv] in
theorem Grow.same (w : World) (D : Nat → Prop) (hD : ∀ b, D b → b < w.heap.size) : Grow w D [] w D :=
  ⟨rfl, rfl, rfl, Nat.le_refl _, fun _ _ _ => rfl, fun _ h => h, fun _ h => .inl h, hD⟩

omit [GInv] in
theorem CVs_vals {w : World} {D : Nat → Prop} : ∀ {vs xs : List Value}, CVs w D (vs.map .v) (fun _ => none) xs [] → xs = vs
  | [], xs, h => by simp only [List.map_nil, CVs] at h; exact h.1
  | v :: vs, xs, h => by
    simp only [List.map_cons, CVs] at h
    obtain ⟨x, xs', f1, f2, rfl, hf, h1, h2⟩ := h
    have hf := List.append_eq_nil_iff.1 hf.symm
    obtain ⟨rfl, rfl⟩ := hf
    simp only [CV] at h1
    rw [h1.1, CVs_vals h2]

/-- A library function of plain values, which leaves the world as it is. -/
theorem PCall.same {P : Program} {f : Nat} {vs : List Value} {res : V} {y : Value} (hc : callable P f = true) (hr : ∀ w D, CV w D res (fun _ => none) y [])
    (h : ∀ (w : World) (D : Nat → Prop), GInv.holds w D → Calls P f vs.toArray w fun e w' => e = .returned y ∧ w' = w) : PCall P f (vs.map .v) res := by
  refine ⟨hc, fun w D xs hD hg hxs => ?_⟩
  obtain rfl := CVs_vals hxs
  refine (h w D hg).mono ?_
  rintro e w' ⟨rfl, rfl⟩
  exact ⟨y, D, [], rfl, Grow.same _ _ hD, hr _ _, List.nodup_nil, by simp⟩

/-- A row without elements, nil or not. -/
theorem PCall.roNil {P : Program} {f s : Nat} {rest : List V} {res : V} (h : ∀ (a : Option Addr) (cap : Nat), PCall P f (.v (.slice a 0 cap) :: rest) res) : PCall P f (.ro s [] :: rest) res := by
  refine ⟨(h none 0).1, fun w D xs hD hg hxs => ?_⟩
  simp only [CVs] at hxs
  obtain ⟨x, xs', f1, f2, rfl, hf, hx, hr⟩ := hxs
  obtain ⟨rfl, rfl⟩ := List.append_eq_nil_iff.1 hf.symm
  simp only [CV] at hx
  have go : ∀ a cap, x = .slice a 0 cap → Calls P f (x :: xs').toArray w fun e w' => ∃ y D' fp, e = .returned y ∧ Grow w D [] w' D' ∧ CV w' D' res (fun _ => none) y fp ∧ fp.Nodup ∧ ∀ b, b ∈ fp → w.heap.size ≤ b ∧ b < w'.heap.size ∧ ¬ D' b := fun a cap e => by
    refine (h a cap).2 w D (x :: xs') hD hg ?_
    simp only [CVs]
    exact ⟨x, xs', [], [], rfl, rfl, by subst e; exact CV_mkv rfl, hr⟩
  obtain ⟨_, ⟨_, a, cap, e, _⟩ | ⟨b, o, cap, arr, e, _⟩⟩ := hx
  · exact go a cap e
  · exact go _ cap e

/-- The same, where draws are counted. -/
theorem PCall.drawn {P : Program} {f : Nat} {vs : List Value} {res : V} {y : Value} (hc : callable P f = true) (hr : ∀ w D, CV w D res (fun _ => none) y [])
    (h : ∀ (w : World) (D : Nat → Prop), GInv.holds w D → Calls P f vs.toArray w fun e w' => e = .returned y ∧ w'.os = w.os ∧ w'.tape = w.tape ∧ w'.output = w.output ∧ w'.heap = w.heap) : PCall P f (vs.map .v) res := by
  refine ⟨hc, fun w D xs hD hg hxs => ?_⟩
  obtain rfl := CVs_vals hxs
  refine (h w D hg).mono ?_
  rintro e w' ⟨rfl, h1, h2, h3, h4⟩
  exact ⟨y, D, [], rfl, ⟨h1, h2, h3, by rw [h4]; exact Nat.le_refl _, fun _ _ _ => by rw [h4], fun _ h => h, fun _ h => .inl h, by rw [h4]; exact hD⟩, hr _ _, List.nodup_nil, by simp⟩

/-- The same, where new blocks come in that nothing leads to. -/
theorem PCall.grown {P : Program} {f : Nat} {vs : List Value} {res : V} {y : Value} (hc : callable P f = true) (hr : ∀ w D, CV w D res (fun _ => none) y [])
    (h : ∀ (w : World) (D : Nat → Prop), GInv.holds w D → Calls P f vs.toArray w fun e w' => e = .returned y ∧ ∃ k os, w' = Sort.grow (w.drewN k) os) : PCall P f (vs.map .v) res := by
  refine ⟨hc, fun w D xs hD hg hxs => ?_⟩
  obtain rfl := CVs_vals hxs
  refine (h w D hg).mono ?_
  rintro e w' ⟨rfl, k, os, rfl⟩
  have hb : ∀ b, b < w.heap.size → (Sort.grow (w.drewN k) os).heap[b]? = w.heap[b]? := fun b hb => by
    show (w.heap ++ os)[b]? = _
    rw [Array.getElem?_append_left hb]
  refine ⟨y, D, [], rfl, ⟨rfl, rfl, rfl, ?_, fun b hb' _ => hb b hb', fun _ h => h, fun _ h => .inl h, fun b hb' => ?_⟩, hr _ _, List.nodup_nil, by simp⟩
  · show w.heap.size ≤ (w.heap ++ os).size
    simp
  · show b < (w.heap ++ os).size
    have := hD b hb'
    simp; omega

omit [GInv] in
theorem Grow.of_below {w w' : World} {D : Nat → Prop} (hD : ∀ b, D b → b < w.heap.size) (h : Below w.heap.size w w') : Grow w D [] w' D :=
  ⟨h.os, h.tape, h.output, h.size, fun b hb _ => h.block b hb, fun _ h => h, fun _ h => .inl h, fun b hb => Nat.lt_of_lt_of_le (hD b hb) h.size⟩
/-- A library function of plain values, behind which all old memory is as it was. -/
theorem PCall.below {P : Program} {f : Nat} {vs : List Value} {res : V} {y : Value} (hc : callable P f = true) (hr : ∀ w D, CV w D res (fun _ => none) y [])
    (h : ∀ (w : World) (D : Nat → Prop), GInv.holds w D → Calls P f vs.toArray w fun e w' => e = .returned y ∧ Below w.heap.size w w') : PCall P f (vs.map .v) res := by
  refine ⟨hc, fun w D xs hD hg hxs => ?_⟩
  obtain rfl := CVs_vals hxs
  refine (h w D hg).mono ?_
  rintro e w' ⟨rfl, hb⟩
  exact ⟨y, D, [], rfl, Grow.of_below hD hb, hr _ _, List.nodup_nil, by simp⟩

omit [GInv] in
theorem CR_texts {w : World} {D : Nat → Prop} {φ : Nat → Option Pl} : ∀ (l : List (List UInt8)) (xs : List Value) (f : List Nat), CR w D 1 (l.map S) φ xs f → ∀ (j : Nat) (x : List UInt8), l[j]? = some x → xs[j]? = some (.string (bs x))
  | [], xs, f, _, j, x, hj => by simp at hj
  | a :: l, xs, f, h, j, x, hj => by
    simp only [List.map_cons, CR] at h
    obtain ⟨v, rest, f1, f2, rfl, _, _, h1, h2⟩ := h
    have hv : v = .string (bs a) := by simp only [CV] at h1; exact h1.1
    subst hv
    have hc : (Value.string (bs a)).cells.toList = [Value.string (bs a)] := rfl
    rw [hc]
    cases j with
    | zero => simp at hj; subst hj; simp
    | succ j => simpa using CR_texts l rest f2 h2 j x (by simpa using hj)

/-- A library function of a row of texts and plain values, behind which all old memory is as it was. -/
theorem PCall.belowRow {P : Program} {f : Nat} {l : List (List UInt8)} {vs : List Value} {res : V} {y : Value} (hc : callable P f = true) (hr : ∀ w D, CV w D res (fun _ => none) y [])
    (h0 : l = [] → ∀ (w : World) (D : Nat → Prop) (a : Option Addr) (c : Nat), GInv.holds w D → Calls P f (.slice a 0 c :: vs).toArray w fun e w' => e = .returned y ∧ Below w.heap.size w w')
    (h : ∀ (w : World) (D : Nat → Prop) (b o c : Nat), GInv.holds w D → (∀ (j : Nat) x, l[j]? = some x → w.cell? ⟨b, o + j, none⟩ = some (.string (bs x))) → b < w.heap.size → l.length ≤ c →
      Calls P f (.slice (some ⟨b, o, none⟩) l.length c :: vs).toArray w fun e w' => e = .returned y ∧ Below w.heap.size w w') : PCall P f (.ro 1 (l.map S) :: vs.map .v) res := by
  refine ⟨hc, fun w D xs hD hg hxs => ?_⟩
  simp only [CVs] at hxs
  obtain ⟨x, xs', f1, f2, rfl, hf, hx, hv⟩ := hxs
  obtain ⟨rfl, rfl⟩ := List.append_eq_nil_iff.1 hf.symm
  obtain rfl := CVs_vals hv
  have fin : ∀ (e : Ending) (w' : World), (e = .returned y ∧ Below w.heap.size w w') → ∃ y D' fp, e = .returned y ∧ Grow w D [] w' D' ∧ CV w' D' res (fun _ => none) y fp ∧ fp.Nodup ∧ ∀ b, b ∈ fp → w.heap.size ≤ b ∧ b < w'.heap.size ∧ ¬ D' b := by
    rintro e w' ⟨rfl, hb⟩
    exact ⟨y, D, [], rfl, Grow.of_below hD hb, hr _ _, List.nodup_nil, by simp⟩
  simp only [CV] at hx
  obtain ⟨_, ⟨h1, a, c, rfl, _⟩ | ⟨b, o, c, arr, rfl, h2, _, h4, h5, h6, _⟩⟩ := hx
  · exact (h0 (by simpa using h1) w D a c hg).mono fin
  · rw [List.length_map] at h2 ⊢
    refine (h w D b o c hg (fun j x hj => ?_) (hD b h4) h2).mono fin
    have := CR_texts l _ _ h6 j x hj
    rw [List.getElem?_drop] at this
    rw [cell?_of_blk h5]
    simpa using this
end Go.Abs
