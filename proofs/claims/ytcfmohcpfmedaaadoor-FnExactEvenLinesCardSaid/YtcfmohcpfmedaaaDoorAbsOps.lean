/- The abstract layer, part 3: the compact operations (types resolved), how they come out of the model's, and what they do to abstract values. -/
import Derived.Test.YtcfmohcpfmedaaaDoorAbsState
set_option linter.unusedVariables false
set_option linter.unusedSimpArgs false
namespace Go.Abs

inductive X where
  | t (n : Nat)
  | k (v : V)
  deriving Inhabited

/-- What a cell holds that '==' may compare. -/
inductive EK where
  | int
  | bool
  | str
  deriving DecidableEq, Inhabited

/-- How '==' compares. -/
inductive EqK where
  | none
  | bool
  | nil
  | struct (ks : List EK)
  deriving DecidableEq, Inhabited

inductive CK where
  | int (k : IntKind)
  | intStr
  | strStr
  | bytesStr
  | strBytes
  deriving DecidableEq, Inhabited

inductive O where
  | mv (x : X)
  | pick (c a b : X)
  | box (n : Nat) (x : X)
  | build (z : V) (ps : List (Nat × Nat × X))
  | bslice (s : Nat) (z : V) (n : Nat) (ps : List (Nat × X))
  | ld (agg : Bool) (n : Nat) (x : X)
  | st (n : Nat) (a x : X)
  | bin (op : BinOp) (k : EqK) (x y : X)
  | un (op : UnOp) (x : X)
  | conv (c : CK) (x : X)
  | clo (f : Nat) (cs : List X)
  | mks (s : Nat) (z : V) (bytes : Nat) (l c : X)
  | slc (s : Option Nat) (x : X) (lo hi : Option X)
  | faddr (off : Nat) (x : X)
  | fld (agg : Bool) (off n : Nat) (x : X)
  | iaddr (s : Nat) (x i : X)
  | idx (x i : X)
  | ext (x : X) (i : Nat)
  | len (str : Bool) (x : X)
  | app (s bytes : Nat) (x y : X)
  | mm (max : Bool) (xs : List X)
  | call (f : Nat) (xs : List X)
  | callv (x : X) (xs : List X)
  deriving Inhabited

structure CO where
  g : Option (Nat × Bool)
  d : Option Nat
  o : O
  deriving Inhabited

/-- A constant as an abstract value. -/
def ofV : Value → Option V
  | .agg cs => if cs.all one then some (.agg (cs.toList.map .v)) else none
  | .tuple cs => if cs.size = 0 then some (.tup []) else none
  | x => if one x then some (.v x) else none

def cX : Operand → Option X
  | .tmp t => some (.t t)
  | .const v => (ofV v).map .k
  | .func f => some (.k (.clo f []))
  | .global _ => none

def cXs : List Operand → Option (List X)
  | [] => some []
  | x :: xs => match cX x, cXs xs with
    | some y, some ys => some (y :: ys)
    | _, _ => none

def aggOf : TypeDesc → Bool
  | .struct _ => true
  | .array _ _ => true
  | _ => false

/-- Is it a struct or an array? how many cells? -/
def tyOf (P : Program) (t : TypeId) : Option (Bool × Nat) :=
  match P.underlying t, P.info? t with
  | some d, some i => some (aggOf d, i.size)
  | _, _ => none

def sliceElem (P : Program) (t : TypeId) : Option TypeInfo :=
  match P.underlying t with
  | some (.slice e) => P.info? e
  | _ => none

/-- The cells of a struct of integers, strings, bools and such structs, in their order. -/
def eqFs (P : Program) (kinds : TypeId → Option (List EK)) : List Field → Nat → Option (List EK)
  | [], _ => some []
  | f :: fs, off => if f.name ≠ "_" ∧ f.offset = off then
      match kinds f.type with
      | some ks => if (P.info? f.type).map (·.size) = some ks.length then (eqFs P kinds fs (off + ks.length)).map (ks ++ ·) else none
      | none => none
    else none
def eqKinds (P : Program) : Nat → TypeId → Option (List EK)
  | 0, _ => none
  | m + 1, t => match P.underlying t with
    | some (.int _) => some [.int]
    | some .bool => some [.bool]
    | some .string => some [.str]
    | some (.struct fs) => if P.stoodInHeld t = false then eqFs P (eqKinds P m) fs.toList 0 else none
    | _ => none

def eqK (P : Program) (op : BinOp) (t : TypeId) : Option EqK :=
  if op = .eql ∨ op = .neq then
    match P.underlying t with
    | some .bool => some .bool
    | some (.int _) => some .none
    | some .string => some .none
    | some (.slice _) => some .nil
    | some (.struct _) => match eqKinds P 8 t with
      | some ks => if P.eqGuardType P.depth t = false then some (.struct ks) else none
      | none => none
    | _ => none
  else some .none

def cck (P : Program) (src dst : TypeId) : Option CK :=
  match P.underlying src, P.underlying dst with
  | some (.int _), some (.int k) => some (.int k)
  | some (.int _), some .string => some .intStr
  | some .string, some .string => some .strStr
  | some (.slice e), some .string => match P.underlying e with
    | some (.int .u8) => some .bytesStr
    | _ => none
  | some .string, some (.slice e) => match P.underlying e with
    | some (.int .u8) => some .strBytes
    | _ => none
  | _, _ => none

def cXo : Option Operand → Option (Option X)
  | none => some none
  | some x => (cX x).map some

def cPs (places : List (Nat × Nat)) : List (Nat × Operand) → Option (List (Nat × Nat × X))
  | [] => some []
  | (i, x) :: ps => match places[i]?, cX x, cPs places ps with
    | some (off, n), some y, some ys => some ((off, n, y) :: ys)
    | _, _, _ => none

def placesOf (P : Program) (fs : Array Field) : Option (List (Nat × Nat)) := fs.toList.mapM (fun f => (P.info? f.type).map fun i => (f.offset, i.size))

def cPt : List (Nat × Operand) → Option (List (Nat × X))
  | [] => some []
  | (i, x) :: ps => match cX x, cPt ps with
    | some y, some ys => some ((i, y) :: ys)
    | _, _ => none

def zeroOf (i : TypeInfo) : Option V := i.zero.bind ofV

/-- The compact form of an operation. -/
def cOp (P : Program) : Op → Option O
  | .move x => (cX x).map .mv
  | .assign x => (cX x).map .mv
  | .pick c a b => match cX c, cX a, cX b with
    | some c, some a, some b => some (.pick c a b)
    | _, _, _ => none
  | .alloc t => match P.info? t with
    | some i => match zeroOf i with
      | some z => some (.box i.size (.k z))
      | none => none
    | none => none
  | .box t x => match P.info? t, cX x with
    | some i, some x => some (.box i.size x)
    | _, _ => none
  | .build t ps => match P.underlying t, P.info? t with
    | some (.struct fs), some i => match zeroOf i, placesOf P fs with
      | some z, some pl => (cPs pl ps.toList).map (.build z)
      | _, _ => none
    | _, _ => none
  | .buildSlice t n ps => match sliceElem P t with
    | some i => match zeroOf i, cPt ps.toList with
      | some z, some ps => some (.bslice i.size z n ps)
      | _, _ => none
    | none => none
  | .load t x => match tyOf P t, cX x with
    | some (b, n), some x => some (.ld b n x)
    | _, _ => none
  | .store t a x => match P.info? t, cX a, cX x with
    | some i, some a, some x => some (.st i.size a x)
    | _, _, _ => none
  | .binOp op t x y _ => match eqK P op t, cX x, cX y with
    | some k, some x, some y => some (.bin op k x y)
    | _, _, _ => none
  | .unOp op _ x => (cX x).map (.un op)
  | .convert s d x => match cck P s d, cX x with
    | some c, some x => some (.conv c x)
    | _, _ => none
  | .makeFunc (.func f) first cs => if first.size = 0 then (cXs cs.toList).map (.clo f) else none
  | .makeSlice t l c => match sliceElem P t, cX l, cX c with
    | some i, some l, some c => match zeroOf i with
      | some z => some (.mks i.size z i.bytes l c)
      | none => none
    | _, _, _ => none
  | .slice t x lo hi none => match P.underlying t, cX x, cXo lo, cXo hi with
    | some .string, some x, some lo, some hi => some (.slc none x lo hi)
    | some (.slice e), some x, some lo, some hi => match P.info? e with
      | some i => some (.slc (some i.size) x lo hi)
      | none => none
    | _, _, _, _ => none
  | .nilCheck x => (cX x).map (.faddr 0)
  | .fieldAddr t x f => match P.underlying t, cX x with
    | some (.struct fs), some x => match fs[f]? with
      | some f => match P.info? f.type with
        | some i => if i.size ≠ 0 then some (.faddr f.offset x) else none
        | none => none
      | none => none
    | _, _ => none
  | .field t x f => match P.underlying t, cX x with
    | some (.struct fs), some x => match fs[f]? with
      | some f => match tyOf P f.type with
        | some (b, n) => some (.fld b f.offset n x)
        | none => none
      | none => none
    | _, _ => none
  | .indexAddr t x i => match sliceElem P t, cX x, cX i with
    | some e, some x, some i => some (.iaddr e.size x i)
    | _, _, _ => none
  | .index t x i => match P.underlying t, cX x, cX i with
    | some .string, some x, some i => some (.idx x i)
    | _, _, _ => none
  | .extract x i => (cX x).map (.ext · i)
  | .call c => match c.callee with
    | .builtin .len => match c.args.toList, c.argTypes.toList with
      | [x], [t] => match P.underlying t, cX x with
        | some .string, some x => some (.len true x)
        | some (.slice _), some x => some (.len false x)
        | _, _ => none
      | _, _ => none
    | .builtin .append => match c.args.toList, c.argTypes.toList with
      | [x, y], [t, u] => match sliceElem P t, cX x, cX y with
        | some i, some x, some y => if u = t ∧ i.size ≠ 0 ∧ (i.zero.map (·.cells.size)) = some i.size then some (.app i.size i.bytes x y) else none
        | _, _, _ => none
      | _, _ => none
    | .builtin .min => (cXs c.args.toList).map (.mm false)
    | .builtin .max => (cXs c.args.toList).map (.mm true)
    | .value (.func f) => (cXs c.args.toList).map (.call f)
    | .value (.tmp t) => (cXs c.args.toList).map (.callv (.t t))
    | _ => none
  | _ => none

/-- A change of the state: the value for the slot; a block with the slot's number for its id; a block that loses its id; a block that is written. -/
structure Dl where
  v : V
  new : Option Blk := none
  del : Option Nat := none
  wr : Option (Nat × Blk) := none

def hpW (h : Nat → Option Blk) : Option (Nat × Blk) → Nat → Option Blk
  | some (i, b) => upd h i (some b)
  | none => h
def hpD (h : Nat → Option Blk) : Option Nat → Nat → Option Blk
  | some i => upd h i none
  | none => h
def hpN (h : Nat → Option Blk) : Option Blk → Option Nat → Nat → Option Blk
  | some b, some d => upd h d (some b)
  | _, _ => h
def Dl.hp (δ : Dl) (d : Option Nat) (h : Nat → Option Blk) : Nat → Option Blk := hpN (hpD (hpW h δ.wr) δ.del) δ.new d

def Dl.app (δ : Dl) (d : Option Nat) (s : St) : St :=
  { sl := match d with | some d => upd s.sl d δ.v | none => s.sl, hp := δ.hp d s.hp }

def pure1 (v : V) : Option (Prop × Dl) := some (True, { v := v })
def pureIf (p : Prop) (v : V) : Option (Prop × Dl) := some (p, { v := v })

def and? : Option Bool → Option Bool → Option Bool
  | some a, some b => some (a && b)
  | _, _ => none
def veq1 : EK → V → V → Option Bool
  | .int, .v (.int k a), .v (.int k' b) => if k = k' then some (a == b) else none
  | .bool, .v (.bool a), .v (.bool b) => some (a == b)
  | .str, .v (.string a), .v (.string b) => some (a.toList == b.toList)
  | _, _, _ => none
/-- Are the cells the same? -/
def veq : List EK → List V → List V → Option Bool
  | [], [], [] => some true
  | k :: ks, u :: us, v :: vs => and? (veq1 k u v) (veq ks us vs)
  | _, _, _ => none
def eqB (op : BinOp) (p : Prop) : Option Bool → Option (Prop × Dl)
  | some r => match op with
    | .eql => pureIf p (.v (.bool r))
    | .neq => pureIf p (.v (.bool (!r)))
    | _ => none
  | none => none
def EqK.veq : EqK → List V → List V → Option Bool
  | .struct ks, us, vs => Abs.veq ks us vs
  | _, _, _ => Option.none
def EqK.nil? : EqK → Bool → Option Bool
  | .nil, b => some b
  | _, _ => Option.none

/-- '+', '<' and their kin on scalars. -/
def vbin (op : BinOp) (k : EqK) : V → V → Option (Prop × Dl)
  | .v (.int i a), .v (.int j b) =>
    match op with
    | .shl => pureIf (0 ≤ b) (.v (.int i (i.wrap (a * 2 ^ (min b.toNat i.bits)))))
    | .shr => pureIf (0 ≤ b) (.v (.int i (a.fdiv (2 ^ (min b.toNat i.bits)))))
    | _ => if i = j then
      match op with
      | .add => pure1 (.v (.int i (i.wrap (a + b))))
      | .sub => pure1 (.v (.int i (i.wrap (a - b))))
      | .mul => pure1 (.v (.int i (i.wrap (a * b))))
      | .quo => pureIf (b ≠ 0) (.v (.int i (i.wrap (a.tdiv b))))
      | .rem => pureIf (b ≠ 0) (.v (.int i (a.tmod b)))
      | .and => pure1 (.v (.int i (i.wrap ((BitVec.ofInt i.bits a &&& BitVec.ofInt i.bits b).toNat))))
      | .or => pure1 (.v (.int i (i.wrap ((BitVec.ofInt i.bits a ||| BitVec.ofInt i.bits b).toNat))))
      | .xor => pure1 (.v (.int i (i.wrap ((BitVec.ofInt i.bits a ^^^ BitVec.ofInt i.bits b).toNat))))
      | .eql => pure1 (.v (.bool (a == b)))
      | .neq => pure1 (.v (.bool (a != b)))
      | .lss => pure1 (.v (.bool (decide (a < b))))
      | .leq => pure1 (.v (.bool (decide (a ≤ b))))
      | .gtr => pure1 (.v (.bool (decide (a > b))))
      | .geq => pure1 (.v (.bool (decide (a ≥ b))))
      | _ => none
      else none
  | .v (.bool a), .v (.bool b) =>
    if k = .bool then
      match op with
      | .eql => pure1 (.v (.bool (a == b)))
      | .neq => pure1 (.v (.bool (!(a == b))))
      | _ => none
    else none
  | .v (.string a), .v (.string b) =>
    match op with
    | .add => pureIf (a.size + b.size ≤ 9223372036854775807) (.v (.string (a ++ b)))
    | .eql => pure1 (.v (.bool (a.toList == b.toList)))
    | .neq => pure1 (.v (.bool (!(a.toList == b.toList))))
    | .lss => pure1 (.v (.bool (Op.bytesLess a.toList b.toList)))
    | .leq => pure1 (.v (.bool (Op.bytesLess a.toList b.toList || a.toList == b.toList)))
    | .gtr => pure1 (.v (.bool (!(Op.bytesLess a.toList b.toList || a.toList == b.toList))))
    | .geq => pure1 (.v (.bool (!(Op.bytesLess a.toList b.toList))))
    | _ => none
  | .agg us, .agg vs => eqB op True (k.veq us vs)
  | .v (.slice a _ _), .v (.slice none _ _) => eqB op True (k.nil? a.isNone)
  | .ro _ es, .v (.slice none _ _) => eqB op (es.isEmpty = false) (k.nil? false)
  | .sl _ _ n, .v (.slice none _ _) => eqB op (n ≠ 0) (k.nil? false)
  | _, _ => none

def vun (op : UnOp) : V → Option (Prop × Dl)
  | .v (.int i a) => match op with
    | .neg => pure1 (.v (.int i (i.wrap (0 - a))))
    | _ => none
  | .v (.bool a) => match op with
    | .not => pure1 (.v (.bool (!a)))
    | _ => none
  | _ => none

def isAggV : V → Bool
  | .agg _ => true
  | _ => false

/-- The part of an element of s cells: n cells from j on, as a struct, or the cell j. -/
def ldOf (agg : Bool) (n s j : Nat) (e : V) : Option V :=
  if agg = true ∧ j = 0 ∧ n = s then
    if isAggV e then some e else none
  else match cells? e with
    | none => none
    | some cs =>
      if agg then if j + n ≤ cs.length then some (.agg ((cs.drop j).take n)) else none
      else if n = 1 then cs[j]? else none

def vld (agg : Bool) (n : Nat) (look : Nat → Option Blk) : V → Option (Prop × Dl)
  | .ref id i j => match look id with
    | some b => match b.es[i]? with
      | some e => if noOwn e then match ldOf agg n b.s j e with
        | some v => pure1 v
        | none => none else none
      | none => none
    | none => none
  | .rp s es i j => match es[i]? with
    | some e => match ldOf agg n s j e with
      | some v => pure1 v
      | none => none
    | none => none
  | _ => none

/-- An element after n of its s cells, from j on, have been written. -/
def stOf (n s j : Nat) (e v : V) : Option V :=
  if n = s ∧ j = 0 ∧ isAggV e = isAggV v then some v
  else match cells? e, cells? v with
    | some cs, some vs => if isAggV e ∧ vs.length = n ∧ j + n ≤ cs.length then some (.agg (cs.take j ++ vs ++ cs.drop (j + n))) else none
    | _, _ => none

/-- The value of one cell. -/
def scal1 : V → Bool
  | .agg _ => false
  | .undef => false
  | .tup _ => false
  | _ => true
def flat1 : List V → Bool
  | [] => true
  | c :: cs => scal1 c && flat1 cs
def flatV (v : V) : Bool := match cells? v with
  | some vs => flat1 vs
  | none => false

def sizeV (v : V) : Option Nat := (cells? v).map (·.length)

def vst (n : Nat) (look : Nat → Option Blk) (v : V) : V → Option (Prop × Dl)
  | .ref id i j => match look id with
    | some b => match b.es[i]? with
      | some e => if noOwn e ∧ noOwn v ∧ sizeV v = some n ∧ flatV v ∧ n ≠ 0 then match stOf n b.s j e v with
        | some e' => some (True, { v := .undef, wr := some (id, ⟨b.s, b.es.set i e'⟩) })
        | none => none else none
      | none => none
    | none => none
  | _ => none

def viaddr (s : Nat) (look : Nat → Option Blk) : V → V → Option (Prop × Dl)
  | .sl id i n, .v (.int _ k) => match look id with
    | some b => if b.s = s then pureIf (0 ≤ k ∧ k < n) (.ref id (i + k.toNat) 0) else none
    | none => none
  | .ro s' es, .v (.int _ k) => if s' = s then pureIf (0 ≤ k ∧ k < es.length) (.rp s es k.toNat 0) else none
  | _, _ => none

def vidx : V → V → Option (Prop × Dl)
  | .v (.string b), .v (.int _ k) => pureIf (0 ≤ k ∧ k < b.size) (.v (.int .u8 (b[k.toNat]?.getD 0).toNat))
  | _, _ => none

def vlenS : V → Option (Prop × Dl)
  | .v (.string b) => pure1 (.v (.int .i64 b.size))
  | _ => none

def vlenL : V → Option (Prop × Dl)
  | .v (.slice _ n _) => pure1 (.v (.int .i64 n))
  | .sl _ _ n => pure1 (.v (.int .i64 n))
  | .ro _ es => pure1 (.v (.int .i64 es.length))
  | _ => none

/-- The elements of a source, for append. -/
def srcOf (s : Nat) (look : Nat → Option Blk) : V → Option (List V)
  | .sl id i n => match look id with
    | some b => if b.s = s ∧ noOwns b.es ∧ i + n ≤ b.es.length then some ((b.es.drop i).take n) else none
    | none => none
  | .ro s' es => if s' = s then some es else none
  | .v (.slice _ 0 _) => some []
  | _ => none

def lenBound : Nat := 4294967296

def vapp (s bytes : Nat) (look : Nat → Option Blk) (d : Nat) (y : V) : V → Option (Prop × Dl)
  | .v (.slice none 0 0) => match srcOf s look y with
    | some ds => if noOwns ds ∧ bytes ≤ 32768 then some (ds.length ≤ lenBound, { v := .sl d 0 ds.length, new := some ⟨s, ds⟩ }) else none
    | none => none
  | .sl id i n => match look id with
    | some b => match srcOf s look y with
      | some ds => if b.s = s ∧ noOwns ds ∧ i = 0 ∧ bytes ≤ 32768 then
          some (n ≤ b.es.length ∧ (noOwns b.es = true ∨ n = b.es.length) ∧ n + ds.length ≤ lenBound, { v := .sl d 0 (n + ds.length), del := some id, new := some ⟨s, b.es.take n ++ ds⟩ })
        else none
      | none => none
    | none => none
  | _ => none

def vslcS (b : ByteArray) (lo hi : Option V) : Option (Prop × Dl) :=
  match lo, hi with
  | none, none => pure1 (.v (.string (b.extract 0 b.size)))
  | some (.v (.int _ l)), none => pureIf (0 ≤ l ∧ l ≤ b.size) (.v (.string (b.extract l.toNat b.size)))
  | none, some (.v (.int _ h)) => pureIf (0 ≤ h ∧ h ≤ b.size) (.v (.string (b.extract 0 h.toNat)))
  | some (.v (.int _ l)), some (.v (.int _ h)) => pureIf (0 ≤ l ∧ l ≤ h ∧ h ≤ b.size) (.v (.string (b.extract l.toNat h.toNat)))
  | _, _ => none

def lohi (n : Nat) (lo hi : Option V) : Option (Prop × Nat × Nat) :=
  match lo, hi with
  | none, none => some (True, 0, n)
  | some (.v (.int _ l)), none => some (0 ≤ l ∧ l ≤ n, l.toNat, n)
  | none, some (.v (.int _ h)) => some (0 ≤ h ∧ h ≤ n, 0, h.toNat)
  | some (.v (.int _ l)), some (.v (.int _ h)) => some (0 ≤ l ∧ l ≤ h ∧ h ≤ n, l.toNat, h.toNat)
  | _, _ => none

def vslcX (x : V) (lo hi : Option V) : Option (Prop × Dl) :=
  match x with
  | .v (.string b) => vslcS b lo hi
  | _ => none

def vslcL (s : Nat) (look : Nat → Option Blk) (x : V) (lo hi : Option V) : Option (Prop × Dl) :=
  match x with
  | .ro s' es => match lohi es.length lo hi with
    | some (p, l, h) => if s' = s then pureIf p (.ro s ((es.drop l).take (h - l))) else none
    | none => none
  | .sl id i n => match look id, lohi n lo hi with
    | some b, some (p, l, h) => if b.s = s then pureIf p (.sl id (i + l) (h - l)) else none
    | _, _ => none
  | _ => none

def vfld (agg : Bool) (off n : Nat) : V → Option (Prop × Dl)
  | .agg cs => if agg then if off + n ≤ cs.length then pure1 (.agg ((cs.drop off).take n)) else none
    else if n = 1 then match cs[off]? with | some v => pure1 v | none => none else none
  | _ => none

def vmks (s bytes : Nat) (z : V) (d : Nat) : V → V → Option (Prop × Dl)
  | .v (.int .i64 l), .v (.int .i64 c) =>
    if l = c ∧ sizeV z = some s ∧ bytes ≤ 32768 ∧ noOwn z ∧ s ≠ 0 then some (0 ≤ l ∧ l ≤ lenBound, { v := .sl d 0 l.toNat, new := some ⟨s, List.replicate l.toNat z⟩ }) else none
  | _, _ => none

def setPs (ev : X → V) : List V → List (Nat × Nat × X) → Option (List V)
  | cs, [] => some cs
  | cs, (off, n, x) :: ps => match cells? (ev x) with
    | some vs => if vs.length = n ∧ off + n ≤ cs.length ∧ noOwns vs then setPs ev (cs.take off ++ vs ++ cs.drop (off + n)) ps else none
    | none => none

def vbuild (ev : X → V) (z : V) (ps : List (Nat × Nat × X)) : Option (Prop × Dl) :=
  match z with
  | .agg cs => match setPs ev cs ps with
    | some cs => pure1 (.agg cs)
    | none => none
  | _ => none

def setPt (ev : X → V) (s : Nat) : List V → List (Nat × X) → Option (List V)
  | es, [] => some es
  | es, (i, x) :: ps => if i < es.length ∧ sizeV (ev x) = some s ∧ noOwn (ev x) ∧ flatV (ev x) then setPt ev s (es.set i (ev x)) ps else none

def vbslice (ev : X → V) (s : Nat) (z : V) (n d : Nat) (ps : List (Nat × X)) : Option (Prop × Dl) :=
  if sizeV z = some s ∧ s ≠ 0 ∧ n * s ≤ 16777216 ∧ noOwn z then
    match setPt ev s (List.replicate n z) ps with
    | some es => some (True, { v := .sl d 0 n, new := some ⟨s, es⟩ })
    | none => none
  else none

def vmmGo (max : Bool) (k : IntKind) : Int → List V → Option Int
  | a, [] => some a
  | a, .v (.int _ b) :: rest => vmmGo max k (if max then (if b > a then b else a) else (if b < a then b else a)) rest
  | _, _ => none

def vmm (max : Bool) : List V → Option (Prop × Dl)
  | .v (.int k a) :: rest => match vmmGo max k a rest with
    | some r => pure1 (.v (.int k r))
    | none => none
  | _ => none

/-- The bytes of a row. -/
def bytesOf : List V → Option (List UInt8)
  | [] => some []
  | .v (.int .u8 n) :: l => (bytesOf l).map (UInt8.ofNat n.toNat :: ·)
  | _ => none

def vconv (c : CK) (look : Nat → Option Blk) : V → Option (Prop × Dl)
  | .v (.int _ a) => match c with
    | .int k => pure1 (.v (.int k (k.wrap a)))
    | .intStr => pureIf ((Utf8.encode a).size ≤ 9223372036854775807) (.v (.string (Utf8.encode a)))
    | _ => none
  | .v (.string b) => match c with
    | .strStr => pure1 (.v (.string b))
    | _ => none
  | x => match c with
    | .bytesStr => match srcOf 1 look x with
      | some ds => match bytesOf ds with
        | some l => pureIf (l.length ≤ 9223372036854775807) (.v (.string (bs l)))
        | none => none
      | none => none
    | _ => none

/-- What an operation that calls nothing does. -/
def eff (ev : X → V) (look : Nat → Option Blk) (d : Nat) : O → Option (Prop × Dl)
  | .mv x => pure1 (ev x)
  | .pick c a b => match ev c with
    | .v (.bool t) => pure1 (bif t then ev a else ev b)
    | _ => none
  | .box n x => if sizeV (ev x) = some n ∧ noOwn (ev x) ∧ flatV (ev x) then some (True, { v := .ref d 0 0, new := some ⟨n, [ev x]⟩ }) else none
  | .build z ps => vbuild ev z ps
  | .bslice s z n ps => vbslice ev s z n d ps
  | .ld agg n x => vld agg n look (ev x)
  | .st n a x => vst n look (ev x) (ev a)
  | .bin op k x y => vbin op k (ev x) (ev y)
  | .un op x => vun op (ev x)
  | .conv c x => vconv c look (ev x)
  | .clo f cs => pure1 (.clo f (cs.map ev))
  | .mks s z bytes l c => vmks s bytes z d (ev l) (ev c)
  | .slc none x lo hi => vslcX (ev x) (lo.map ev) (hi.map ev)
  | .slc (some s) x lo hi => vslcL s look (ev x) (lo.map ev) (hi.map ev)
  | .faddr off x => match ev x with
    | .ref id i j => pure1 (.ref id i (j + off))
    | .rp s es i j => pure1 (.rp s es i (j + off))
    | _ => none
  | .fld agg off n x => vfld agg off n (ev x)
  | .iaddr s x i => viaddr s look (ev x) (ev i)
  | .idx x i => vidx (ev x) (ev i)
  | .ext x i => match ev x with
    | .tup vs => match vs[i]? with
      | some v => pure1 v
      | none => none
    | _ => none
  | .len b x => if b then vlenS (ev x) else vlenL (ev x)
  | .app s bytes x y => vapp s bytes look d (ev y) (ev x)
  | .mm max xs => vmm max (xs.map ev)
  | .call _ _ => none
  | .callv _ _ => none
end Go.Abs
