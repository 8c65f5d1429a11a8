/- The abstract interpreter: what a piece of the model's code does to values whose settled memory is plain lists, and to a small heap of the function's own objects. Definitions alone. -/
import Derived.Calls
import Derived.Below
import Derived.Deep.MidRow
import Derived.Deep.AppendSrc
import Derived.Laws.Rows
import Derived.Laws.Strings
import Derived.Laws.Tables
import Derived.Deep.Upon
import Derived.Laws.MakeOwn
import Derived.Laws.BytesString
namespace Go.Proofs.Ytmhamnnfcmkcfaa

/-- A value that leads to settled memory alone (memory that nobody writes again): a slice is the list of its elements, each the list of its cells. -/
inductive SV where
  | bool (b : Bool)
  | int (k : IntKind) (n : Int)
  | str (s : List UInt8)
  | nilp
  | nilIface
  | slice (xs : List (List SV))
  deriving Inhabited

/-- A value. undef: nothing is known. dead: what an operation leaves that was not carried out. nil: a slice without cells and room. ptr: the address of a cell of an object of the heap. ref: the address of settled cells. own: a slice over an object of the heap. -/
inductive AV where
  | undef
  | dead
  | sv (s : SV)
  | nil
  | ptr (id off : Nat)
  | ref (cs : List SV)
  | own (id off len : Nat)
  | func (f : Nat) (first caps : List AV)
  | map (id : Nat)
  | agg (cs : List AV)
  | tuple (vs : List AV)
  deriving Inhabited

/-- An object: cells (of a slice: esz cells an element), may it be written? A map. Nothing any more. -/
inductive Ent where
  | cells (esz : Nat) (cs : List AV) (wr : Bool)
  | map (es : List (SV × AV))
  | gone
  deriving Inhabited

abbrev Heap := List Ent

/-- What a struct's or an array's cells are, where it may be compared. -/
inductive EK where
  | bool
  | int (k : IntKind)
  | str
  deriving Inhabited, DecidableEq

inductive K where
  | bool
  | int (k : IntKind)
  | str
  | slice (elem esz bytes : Nat) (byte : Bool)
  | arr (n esz : Nat) (agg : Bool) (eq : Option (List EK))
  | struct (eq : Option (List EK))
  | ptr
  | map (key : EK) (elem : Nat)
  | other
  deriving Inhabited

/-- What is asked of types: cells (is it an aggregate?), kind, a field's place, the zero value's cells. -/
structure Tab where
  size : Nat → Option (Nat × Bool)
  kind : Nat → Option K
  field : Nat → Nat → Option (Nat × Nat × Bool)
  zero : Nat → Option (List AV)

abbrev Tm := Nat → AV

structure St where
  tm : Tm
  h : Heap

def upd (tm : Nat → AV) (d : Nat) (v : AV) : Nat → AV := fun t => if t = d then v else tm t

def updO (tm : Nat → AV) (d : Option Nat) (v : AV) : Nat → AV :=
  match d with
  | some d => upd tm d v
  | none => tm

def ofVal : Value → AV
  | .bool b => .sv (.bool b)
  | .int k n => .sv (.int k n)
  | .string s => .sv (.str s.data.toList)
  | .pointer none => .sv .nilp
  | .slice none 0 0 => .nil
  | .nilIface => .sv .nilIface
  | _ => .undef

def ev (tm : Tm) : Operand → AV
  | .tmp t => tm t
  | .const v => ofVal v
  | .func f => .func f [] []
  | .global _ => .undef

def asB : AV → Option Bool
  | .sv (.bool b) => some b
  | _ => none

/-- A value that fills one cell. -/
def cell1 : AV → Bool
  | .undef | .dead | .agg _ | .tuple _ => false
  | _ => true

/-- A value's cells, if it may be stored. -/
def cellsOf : AV → Option (List AV)
  | .agg cs => if cs.all cell1 then some cs else none
  | v => if cell1 v then some [v] else none

def takeN {α : Type} (cs : List α) (off n : Nat) : Option (List α) :=
  let r := (cs.drop off).take n
  if r.length = n then some r else none

def pack (agg : Bool) (cs : List AV) : AV := if agg then .agg cs else cs.headD .undef

/-! ### Operations that only compute -/

def ld (n : Nat) (agg : Bool) (a : AV) (h : Heap) : Option AV :=
  match a with
  | .ptr id off =>
    match h[id]? with
    | some (.cells _ cs _) => (takeN cs off n).bind fun r => some (pack agg r)
    | _ => none
  | .ref cs => (takeN cs 0 n).bind fun r => some (pack agg (r.map .sv))
  | _ => none

def fa (off : Nat) : AV → Option AV
  | .ptr id o => some (.ptr id (o + off))
  | .ref cs => some (.ref (cs.drop off))
  | _ => none

def fl (off n : Nat) (agg : Bool) : AV → Option AV
  | .agg cs => (takeN cs off n).bind fun r => some (pack agg r)
  | _ => none

def ia (k : K) (x i : AV) : Option AV :=
  match k, x, i with
  | .slice _ esz _ _, .sv (.slice xs), .sv (.int _ n) =>
    if 0 ≤ n ∧ n < xs.length then (xs[n.toNat]?).bind fun c => if c.length = esz then some (.ref c) else none else none
  | .slice _ esz _ _, .own id off len, .sv (.int _ n) =>
    if 0 ≤ n ∧ n < len then some (.ptr id (off + n.toNat * esz)) else none
  | .arr m esz _ _, .ptr id off, .sv (.int _ n) =>
    if 0 ≤ n ∧ n < m then some (.ptr id (off + n.toNat * esz)) else none
  | .arr m esz _ _, .ref cs, .sv (.int _ n) =>
    if 0 ≤ n ∧ n < m then some (.ref (cs.drop (n.toNat * esz))) else none
  | _, _, _ => none

def ix (k : K) (x i : AV) : Option AV :=
  match k, x, i with
  | .str, .sv (.str s), .sv (.int _ n) =>
    if 0 ≤ n then (s[n.toNat]?).bind fun b => some (.sv (.int .u8 b.toNat)) else none
  | .arr m esz agg _, .agg cs, .sv (.int _ n) =>
    if 0 ≤ n ∧ n < m then (takeN cs (n.toNat * esz) esz).bind fun r => some (pack agg r) else none
  | _, _, _ => none

def nc : AV → Option AV
  | .ptr id off => some (.ptr id off)
  | .ref cs => some (.ref cs)
  | .func f first caps => some (.func f first caps)
  | _ => none

def ln (k : K) (x : AV) : Option AV :=
  match k, x with
  | .str, .sv (.str s) => some (.sv (.int .i64 s.length))
  | .slice .., .sv (.slice xs) => some (.sv (.int .i64 xs.length))
  | .slice .., .nil => some (.sv (.int .i64 0))
  | .slice .., .own _ _ len => some (.sv (.int .i64 len))
  | _, _ => none

def binI (op : BinOp) (k : IntKind) (a : Int) (k' : IntKind) (b : Int) : Option AV :=
  match op with
  | .shl => if b < 0 then none else some (.sv (.int k (k.wrap (a * 2 ^ (min b.toNat k.bits)))))
  | .shr => if b < 0 then none else some (.sv (.int k (a.fdiv (2 ^ (min b.toNat k.bits)))))
  | .add => if k = k' then some (.sv (.int k (k.wrap (a + b)))) else none
  | .sub => if k = k' then some (.sv (.int k (k.wrap (a - b)))) else none
  | .mul => if k = k' then some (.sv (.int k (k.wrap (a * b)))) else none
  | .quo => if k = k' then (if b = 0 then none else some (.sv (.int k (k.wrap (a.tdiv b))))) else none
  | .rem => if k = k' then (if b = 0 then none else some (.sv (.int k (a.tmod b)))) else none
  | .and => if k = k' then some (.sv (.int k (k.wrap (BitVec.ofInt k.bits a &&& BitVec.ofInt k.bits b).toNat))) else none
  | .or => if k = k' then some (.sv (.int k (k.wrap (BitVec.ofInt k.bits a ||| BitVec.ofInt k.bits b).toNat))) else none
  | .xor => if k = k' then some (.sv (.int k (k.wrap (BitVec.ofInt k.bits a ^^^ BitVec.ofInt k.bits b).toNat))) else none
  | .eql => if k = k' then some (.sv (.bool (a == b))) else none
  | .neq => if k = k' then some (.sv (.bool (a != b))) else none
  | .lss => if k = k' then some (.sv (.bool (decide (a < b)))) else none
  | .leq => if k = k' then some (.sv (.bool (decide (a ≤ b)))) else none
  | .gtr => if k = k' then some (.sv (.bool (decide (a > b)))) else none
  | .geq => if k = k' then some (.sv (.bool (decide (a ≥ b)))) else none
  | _ => none

def binS (op : BinOp) (a b : List UInt8) : Option AV :=
  match op with
  | .add => if a.length + b.length ≤ 1000000000000 then some (.sv (.str (a ++ b))) else none
  | .eql => some (.sv (.bool (a == b)))
  | .neq => some (.sv (.bool (!(a == b))))
  | _ => none

/-- Are these cells of these kinds, and the same? -/
def eqCells : List EK → List AV → List AV → Option Bool
  | [], [], [] => some true
  | .bool :: ks, .sv (.bool a) :: xs, .sv (.bool b) :: ys => (eqCells ks xs ys).bind fun r => some (a == b && r)
  | .int k :: ks, .sv (.int k1 a) :: xs, .sv (.int k2 b) :: ys =>
    if k1 = k ∧ k2 = k then (eqCells ks xs ys).bind fun r => some (a == b && r) else none
  | .str :: ks, .sv (.str a) :: xs, .sv (.str b) :: ys => (eqCells ks xs ys).bind fun r => some (a == b && r)
  | _, _, _ => none

def eqAgg (op : BinOp) (e : Option (List EK)) (xs ys : List AV) : Option AV :=
  match op, e with
  | .eql, some ks => (eqCells ks xs ys).bind fun r => some (.sv (.bool r))
  | .neq, some ks => (eqCells ks xs ys).bind fun r => some (.sv (.bool (!r)))
  | _, _ => none

def bin (op : BinOp) (k : K) (x y : AV) : Option AV :=
  match x, y with
  | .sv (.int k1 a), .sv (.int k2 b) => binI op k1 a k2 b
  | .sv (.str a), .sv (.str b) => binS op a b
  | .sv (.bool a), .sv (.bool b) =>
    match op, k with
    | .eql, .bool => some (.sv (.bool (a == b)))
    | .neq, .bool => some (.sv (.bool (!(a == b))))
    | _, _ => none
  | .agg xs, .agg ys =>
    match k with
    | .struct e => eqAgg op e xs ys
    | .arr _ _ _ e => eqAgg op e xs ys
    | _ => none
  | _, _ => none

def un (op : UnOp) (x : AV) : Option AV :=
  match op, x with
  | .neg, .sv (.int k n) => some (.sv (.int k (k.wrap (0 - n))))
  | .not, .sv (.bool b) => some (.sv (.bool (!b)))
  | _, _ => none

/-- Whole numbers' kinds; a small rune as a string. -/
def cv (k : K) (x : AV) : Option AV :=
  match k, x with
  | .int k, .sv (.int _ n) => some (.sv (.int k (k.wrap n)))
  | .str, .sv (.int _ n) => if 0 ≤ n ∧ n < 128 then some (.sv (.str [UInt8.ofNat n.toNat])) else none
  | _, _ => none

def ex (i : Nat) : AV → Option AV
  | .tuple vs => vs[i]?
  | _ => none

def splice (cs : List AV) (off : Nat) (vs : List AV) : List AV := cs.take off ++ vs ++ cs.drop (off + vs.length)

/-- Parts put at their places, each of as many cells as it must have. -/
def fillA (place : Nat → Option (Nat × Nat)) (cells : List AV) : List (Nat × AV) → Option (List AV)
  | [] => some cells
  | (i, v) :: rest =>
    match place i, cellsOf v with
    | some (off, n), some vs => if vs.length = n ∧ off + n ≤ cells.length then fillA place (splice cells off vs) rest else none
    | _, _ => none

def bound (y : Nat) (d : Nat) : Option AV → Option Nat
  | none => some d
  | some (.sv (.int _ n)) => if 0 ≤ n ∧ n ≤ y then some n.toNat else none
  | _ => none

/-- Cuts. Of a slice over an object of the heap: from its begin, or such as are not empty. -/
def sl (k : K) (x : AV) (lo hi : Option AV) (hp : Heap) : Option AV :=
  match k, x with
  | .str, .sv (.str s) => (bound s.length s.length hi).bind fun h => (bound h 0 lo).bind fun l => some (.sv (.str ((s.take h).drop l)))
  | .slice _ esz _ _, .sv (.slice xs) =>
    if xs.all (fun c => c.length == esz) then
      (bound xs.length xs.length hi).bind fun h => (bound h 0 lo).bind fun l => some (.sv (.slice ((xs.take h).drop l)))
    else none
  | .slice .., .nil => (bound 0 0 hi).bind fun h => (bound h 0 lo).bind fun _ => some .nil
  | .slice _ esz _ _, .own id off len =>
    (bound len len hi).bind fun h => (bound h 0 lo).bind fun l =>
      if l = 0 then some (.own id off h) else if l < h then
        (match hp[id]? with
        | some (.cells e _ _) => if e = esz then some (.own id (off + l * esz) (h - l)) else none
        | _ => none)
      else some (.sv (.slice []))
  | _, _ => none

def evParts (tm : Tm) (ps : Array (Nat × Operand)) : List (Nat × AV) := ps.toList.map fun p => (p.1, ev tm p.2)

/-- A struct's or an array's value out of some of its parts. -/
def bdA (T : Tab) (t : Nat) (parts : List (Nat × AV)) : Option AV :=
  match T.zero t, T.kind t with
  | some z, some (.struct _) => (fillA (fun i => (T.field t i).bind fun f => some (f.1, f.2.1)) z parts).bind fun cs => some (.agg cs)
  | some z, some (.arr m esz _ _) => (fillA (fun i => if i < m then some (i * esz, esz) else none) z parts).bind fun cs => some (.agg cs)
  | _, _ => none

def evPure (T : Tab) (tm : Tm) (h : Heap) : Op → Option AV
  | .move x => some (ev tm x)
  | .assign x => some (ev tm x)
  | .pick c a b => (asB (ev tm c)).bind fun t => some (if t then ev tm a else ev tm b)
  | .build t parts => bdA T t (evParts tm parts)
  | .load t a => (T.size t).bind fun z => ld z.1 z.2 (ev tm a) h
  | .nilCheck x => nc (ev tm x)
  | .binOp op t x y _ => (T.kind t).bind fun k => bin op k (ev tm x) (ev tm y)
  | .unOp op _ x => un op (ev tm x)
  | .convert a t x => (T.size a).bind fun _ => (T.kind t).bind fun k => cv k (ev tm x)
  | .makeFunc (.func f) first caps => some (.func f (first.toList.map (ev tm)) (caps.toList.map (ev tm)))
  | .slice t x lo hi none => (T.kind t).bind fun k => sl k (ev tm x) (lo.map (ev tm)) (hi.map (ev tm)) h
  | .fieldAddr t x i => (T.field t i).bind fun f => fa f.1 (ev tm x)
  | .field t x i => (T.field t i).bind fun f => fl f.1 f.2.1 f.2.2 (ev tm x)
  | .indexAddr t x i => (T.kind t).bind fun k => ia k (ev tm x) (ev tm i)
  | .index t x i => (T.kind t).bind fun k => ix k (ev tm x) (ev tm i)
  | .extract x i => ex i (ev tm x)
  | .call { callee := .builtin .len, args := xs, argTypes := ts } =>
    match xs.toList, ts.toList with
    | [x], [t] => (T.kind t).bind fun k => ln k (ev tm x)
    | _, _ => none
  | _ => none

/-! ### Operations that act -/

abbrev CallF := Nat → List AV → Heap → Option (AV × Heap)

def alloc (z : List AV) (h : Heap) : Option (AV × Heap) := if z.all cell1 then some (.ptr h.length 0, h ++ [.cells 0 z true]) else none

def boxA (n : Nat) (x : AV) (h : Heap) : Option (AV × Heap) :=
  (cellsOf x).bind fun cs => if cs.length = n then alloc cs h else none

def storeA (n : Nat) (a x : AV) (h : Heap) : Option (AV × Heap) :=
  match a with
  | .ptr id off =>
    match h[id]?, cellsOf x with
    | some (.cells esz cs true), some vs =>
      if vs.length = n ∧ off + n ≤ cs.length then some (.undef, h.set id (.cells esz (splice cs off vs) true)) else none
    | _, _ => none
  | _ => none

def bsA (k : K) (z : Option (List AV)) (len : Nat) (parts : List (Nat × AV)) (h : Heap) : Option (AV × Heap) :=
  match k, z with
  | .slice _ esz _ _, some z =>
    if len * esz ≤ 1000 ∧ z.length = esz ∧ z.all cell1 then
      (fillA (fun i => some (i * esz, esz)) (List.replicate len z).flatten parts).bind fun cs =>
        some (.own h.length 0 len, h ++ [.cells esz cs true])
    else none
  | _, _ => none

def msA (k : K) (z : Option (List AV)) (len cap : AV) (h : Heap) : Option (AV × Heap) :=
  match k, z, len, cap with
  | .slice _ esz bytes _, some z, .sv (.int .i64 n), .sv (.int .i64 c) =>
    if 0 ≤ n ∧ n ≤ c ∧ c ≤ 1000000000000 ∧ bytes ≤ 200 ∧ 0 < esz ∧ z.length = esz ∧ z.all cell1 then
      some (.own h.length 0 n.toNat, h ++ [.cells esz (List.replicate n.toNat z).flatten true])
    else none
  | _, _, _, _ => none

/-- What is behind a slice: how many elements, their cells. -/
def rowsOf (esz : Nat) (x : AV) (h : Heap) : Option (Nat × List AV) :=
  match x with
  | .nil => some (0, [])
  | .sv (.slice xs) => if xs.all (fun c => c.length == esz) then some (xs.length, xs.flatten.map .sv) else none
  | .own id off len =>
    match h[id]? with
    | some (.cells e cs _) => if e = esz then (takeN cs off (len * esz)).bind fun r => some (len, r) else none
    | _ => none
  | .sv (.str s) => if esz = 1 then some (s.length, s.map fun b => .sv (.int .u8 b.toNat)) else none
  | _ => none

/-- A slice's kind, or a string's. -/
def rowKind : K → Bool
  | .slice .. | .str => true
  | _ => false

def apA (k : K) (x y : AV) (h : Heap) : Option (AV × Heap) :=
  match k with
  | .slice _ esz bytes _ =>
    (rowsOf esz y h).bind fun r =>
      if r.1 = 0 then (match x with | .nil | .own .. | .sv (.slice _) => some (x, h) | _ => none) else
      match x with
      | .nil => if r.1 ≤ 1000000000000 ∧ bytes ≤ 120 ∧ 0 < esz then some (.own h.length 0 r.1, h ++ [.cells esz r.2 true]) else none
      | .own id off len =>
        match h[id]? with
        | some (.cells e cs true) =>
          if e = esz ∧ len + r.1 ≤ 1000000000000 ∧ bytes ≤ 120 ∧ 0 < esz then
            (takeN cs off (len * esz)).bind fun old => some (.own h.length 0 (len + r.1), h.set id .gone ++ [.cells esz (old ++ r.2) true])
          else none
        | _ => none
      | _ => none
  | _ => none

def cpA (k : K) (x y : AV) (h : Heap) : Option (AV × Heap) :=
  match k, x with
  | .slice _ esz _ _, .own id off len =>
    (rowsOf esz y h).bind fun r =>
      match h[id]? with
      | some (.cells e cs true) =>
        if e = esz ∧ off + r.1 * esz ≤ cs.length ∧ r.1 ≤ len then
          some (.sv (.int .i64 r.1), h.set id (.cells e (splice cs off r.2) true))
        else none
      | _ => none
  | _, _ => none

def bytesOfA : List AV → Option (List UInt8)
  | [] => some []
  | .sv (.int .u8 n) :: cs => if 0 ≤ n ∧ n < 256 then (bytesOfA cs).bind fun r => some (UInt8.ofNat n.toNat :: r) else none
  | _ => none

/-- A slice of bytes as a string. -/
def bsStr (x : AV) (h : Heap) : Option (AV × Heap) :=
  match x with
  | .sv (.str _) => none
  | x => (rowsOf 1 x h).bind fun r => (bytesOfA r.2).bind fun b => some (.sv (.str b), h)

def mapNew (h : Heap) : Option (AV × Heap) := some (.map h.length, h ++ [.map []])

def keyEq : EK → SV → SV → Option Bool
  | .int k, .int k1 a, .int k2 b => if k1 = k ∧ k2 = k then some (a == b) else none
  | .str, .str a, .str b => some (a == b)
  | _, _, _ => none

def mapFind (e : EK) (key : SV) : List (SV × AV) → Option (Option AV)
  | [] => some none
  | (k, v) :: es => (keyEq e key k).bind fun t => if t then some (some v) else mapFind e key es

def mapPutIn (e : EK) (key : SV) (v : AV) : List (SV × AV) → Option (List (SV × AV))
  | [] => (keyEq e key key).bind fun _ => some [(key, v)]
  | (k, u) :: es => (keyEq e key k).bind fun t => if t then some ((key, v) :: es) else (mapPutIn e key v es).bind fun r => some ((k, u) :: r)

def mapPut (k : K) (m key v : AV) (h : Heap) : Option (AV × Heap) :=
  match k, m, key with
  | .map e _, .map id, .sv key =>
    match h[id]? with
    | some (.map es) => if cell1 v then (mapPutIn e key v es).bind fun r => some (.undef, h.set id (.map r)) else none
    | _ => none
  | _, _, _ => none

def mapGet (k : K) (z : Option (List AV)) (m key : AV) (ok : Bool) (h : Heap) : Option (AV × Heap) :=
  match k, m, key with
  | .map e _, .map id, .sv key =>
    match h[id]? with
    | some (.map es) => (keyEq e key key).bind fun _ => (mapFind e key es).bind fun r =>
      match r, z with
      | some v, _ => some (if ok then .tuple [v, .sv (.bool true)] else v, h)
      | none, some [d] => some (if ok then .tuple [d, .sv (.bool false)] else d, h)
      | _, _ => none
    | _ => none
  | _, _, _ => none

def callV : AV → Option (Nat × List AV × List AV)
  | .func f first caps => some (f, first, caps)
  | _ => none

/-- The zero value's cells of what is in a slice, or a map. -/
def zElem (T : Tab) : K → Option (List AV)
  | .slice e _ _ _ => T.zero e
  | .map _ e => T.zero e
  | _ => none

def evAct (T : Tab) (C : CallF) (tm : Tm) (h : Heap) : Op → Option (AV × Heap)
  | .alloc t => (T.zero t).bind fun z => alloc z h
  | .box t x => (T.size t).bind fun z => boxA z.1 (ev tm x) h
  | .store t a x => (T.size t).bind fun z => storeA z.1 (ev tm a) (ev tm x) h
  | .buildSlice t len parts => (T.kind t).bind fun k =>
      bsA k (zElem T k) len (evParts tm parts) h
  | .makeSlice t len cap => (T.kind t).bind fun k =>
      msA k (zElem T k) (ev tm len) (ev tm cap) h
  | .makeMap _ none => mapNew h
  | .insert t m k v => (T.kind t).bind fun d => mapPut d (ev tm m) (ev tm k) (ev tm v) h
  | .mapUpdate t m k v => (T.kind t).bind fun d => mapPut d (ev tm m) (ev tm k) (ev tm v) h
  | .lookup t m k ok => (T.kind t).bind fun d => mapGet d (zElem T d) (ev tm m) (ev tm k) ok h
  | .convert a t x => (T.kind a).bind fun k => (T.kind t).bind fun d => match k, d with | .slice _ _ _ true, .str => bsStr (ev tm x) h | _, _ => none
  | .call { callee := .value f, args := xs, argTypes := _ } =>
    (callV (ev tm f)).bind fun c => C c.1 (c.2.1 ++ xs.toList.map (ev tm) ++ c.2.2) h
  | .call { callee := .builtin .append, args := xs, argTypes := ts } =>
    match xs.toList, ts.toList with
    | [x, y], [t, u] => (T.kind t).bind fun k => (T.kind u).bind fun k2 => if rowKind k2 then apA k (ev tm x) (ev tm y) h else none
    | _, _ => none
  | .call { callee := .builtin .copy, args := xs, argTypes := ts } =>
    match xs.toList, ts.toList with
    | [x, y], [t, u] => (T.kind t).bind fun k => (T.kind u).bind fun k2 => if rowKind k2 then cpA k (ev tm x) (ev tm y) h else none
    | _, _ => none
  | _ => none

/-- Does an operation act (by its form alone)? -/
def isAct (T : Tab) : Op → Bool
  | .alloc _ | .box .. | .store .. | .buildSlice .. | .makeSlice .. | .makeMap .. | .insert .. | .mapUpdate .. | .lookup .. => true
  | .convert a _ _ => match T.kind a with | some (.slice ..) => true | _ => false
  | .call { callee := .builtin .len, .. } => false
  | .call _ => true
  | _ => false

/-! ### Code -/

/-- An operation's guard: the value that it hangs on, and which one is wanted. -/
def guardOf (tm : Tm) (all : List Oper) (o : Oper) : Option (AV × Bool) :=
  match o.guard with
  | none => none
  | some (j, want) => some (match all[j]? with | some g => (match g.dst with | some d => tm d | none => .undef) | none => .undef, want)

/-- Is an operation wanted, by what it hangs on? -/
def gW (a : AV) (want : Bool) : Option Bool :=
  match a with
  | .dead => some false
  | a => (asB a).bind fun b => some (b == want)

def gO {α : Type} (g : Option (AV × Bool)) (x : Option α) (y : α) : Option α :=
  match g with
  | none => x
  | some (a, want) => (gW a want).bind fun t => if t then x else some y

/-- What needs no look at anything else. -/
def valOf (tm : Tm) (o : Oper) : Option AV :=
  match o.guard with
  | some _ => none
  | none =>
    match o.op with
    | .move x => some (ev tm x)
    | .assign x => some (ev tm x)
    | .makeFunc (.func f) first caps => some (.func f (first.toList.map (ev tm)) (caps.toList.map (ev tm)))
    | _ => none

/-- How the interpreter goes on behind an answer: one that is left open keeps equations with it plain. -/
structure BindS where
  b : {α β : Type} → Option α → (α → Option β) → Option β

def optB : BindS := ⟨Option.bind⟩

def evOps {R : Type} (B : BindS) (T : Tab) (C : CallF) (all : List Oper) (K : Tm → Heap → Option R) : List Oper → Tm → Heap → Option R
  | [], tm, h => K tm h
  | o :: rest, tm, h =>
    match valOf tm o with
    | some v => evOps B T C all K rest (updO tm o.dst v) h
    | none =>
    if isAct T o.op then B.b (gO (guardOf tm all o) (evAct T C tm h o.op) (.dead, h)) fun r => evOps B T C all K rest (updO tm o.dst r.1) r.2
    else B.b (gO (guardOf tm all o) (evPure T tm h o.op) .dead) fun v => evOps B T C all K rest (updO tm o.dst v) h

inductive Out where
  | normal
  | exit (id : Nat)
  | ret

abbrev LoopF := (St → Option (Out × St)) → St → Option (Out × St)

/-- A region that is told apart (by its number). -/
abbrev DrawF := Nat → Option (CallF → St → Option St)

/-- In a region that draws its order: what may turn the heap or hangs on it but is no load. -/
def isM (T : Tab) (sh : Nat → Bool) : Op → Bool
  | .call { callee := .value (.func f), .. } => sh f
  | op => isAct T op

def isQ (sh : Nat → Bool) : Op → Bool
  | .call { callee := .value (.func f), .. } => !sh f
  | _ => false

/-- A call on no heap. -/
def evQ (C : CallF) (tm : Tm) : Op → Option (AV × Heap)
  | .call { callee := .value (.func f), args := xs, argTypes := _ } => C f (xs.toList.map (ev tm)) []
  | _ => none

/-- A load that was told: till which heap it may be carried out, its guard, cells, address, and value. -/
structure Pend where
  last : Nat
  g : Option (AV × Bool)
  n : Nat
  agg : Bool
  a : AV
  v : AV

open Classical in
noncomputable def gChk {R : Type} : List Pend → Heap → Option R → Option R
  | [], _, x => x
  | p :: ps, h, x => if gO p.g (ld p.n p.agg p.a h) .dead = some p.v then gChk ps h x else none

open Classical in
noncomputable def gPast {R : Type} (g : Option (AV × Bool)) (n : Nat) (agg : Bool) (a v : AV) : List Heap → Option R → Option R
  | [], x => x
  | h :: hs, x => if gO g (ld n agg a h) .dead = some v then gPast g n agg a v hs x else none

/-- Which operations may turn the heap, in the text's order. -/
def msOf (T : Tab) (sh : Nat → Bool) (all : List Oper) : List Nat := (all.zipIdx.filter fun p => isM T sh p.1.op).map (·.2)

/-- How many of them a load comes behind, whatever the order; how many may come ahead of it. -/
def mBefore (anc : Array Nat) (ms : List Nat) (i : Nat) : Nat := (ms.filter fun m => (anc.getD i 0).testBit m).length
def mUpto (anc : Array Nat) : List Nat → Nat → Nat
  | [], _ => 0
  | m :: ms, i => if (anc.getD m 0).testBit i then 0 else mUpto anc ms i + 1

def isCut : Op → Bool
  | .slice .. => true
  | _ => false

/-- A cut that has a place of its own among what may turn the heap sees the heap; another one sees none. -/
def cutH (anc : Array Nat) (ms : List Nat) (i : Nat) (op : Op) (h : Heap) : Heap :=
  if isCut op then (if ms.all (fun m => (anc.getD i 0).testBit m || (anc.getD m 0).testBit i) then h else []) else h

noncomputable def evDr {R : Type} (B : BindS) (T : Tab) (sh : Nat → Bool) (C : CallF) (anc : Array Nat) (ms : List Nat) (all : List Oper) (K : Tm → Heap → Option R) :
    List Oper → Nat → List Heap → List Pend → Tm → Heap → Option R
  | [], _, _, _, tm, h => K tm h
  | o :: rest, i, hs, pd, tm, h =>
    match valOf tm o with
    | some v => evDr B T sh C anc ms all K rest (i + 1) hs pd (updO tm o.dst v) h
    | none =>
    if isM T sh o.op then
      B.b (gO (guardOf tm all o) (evAct T C tm h o.op) (.dead, h)) fun r =>
        gChk (pd.filter fun p => decide (hs.length + 1 ≤ p.last)) r.2 (evDr B T sh C anc ms all K rest (i + 1) (hs ++ [h]) pd (updO tm o.dst r.1) r.2)
    else if isQ sh o.op then
      B.b (gO (guardOf tm all o) (evQ C tm o.op) (.dead, [])) fun r => evDr B T sh C anc ms all K rest (i + 1) hs pd (updO tm o.dst r.1) h
    else
      match o.op with
      | .load t a =>
        match T.size t with
        | none => none
        | some z =>
          B.b (gO (guardOf tm all o) (ld z.1 z.2 (ev tm a) h) .dead) fun v =>
            gPast (guardOf tm all o) z.1 z.2 (ev tm a) v (hs.drop (mBefore anc ms i))
              (evDr B T sh C anc ms all K rest (i + 1) hs (⟨mUpto anc ms i, guardOf tm all o, z.1, z.2, ev tm a, v⟩ :: pd) (updO tm o.dst v) h)
      | op => B.b (gO (guardOf tm all o) (evPure T tm (cutH anc ms i op h) op) .dead) fun v => evDr B T sh C anc ms all K rest (i + 1) hs pd (updO tm o.dst v) h

noncomputable def evDraw {R : Type} (B : BindS) (T : Tab) (sh : Nat → Bool) (C : CallF) (ops : Array Oper) (K : Tm → Heap → Option R) (tm : Tm) (h : Heap) : Option R :=
  evDr B T sh C (Region.before ops) (msOf T sh ops.toList) ops.toList K ops.toList 0 [] [] tm h

def noD : DrawF := fun _ => none

def outBlock {R : Type} (id : Nat) (K : Out → Tm → Heap → Option R) : Out → Tm → Heap → Option R
  | .exit i, tm, h => if i = id then K .normal tm h else K (.exit i) tm h
  | o, tm, h => K o tm h

def outSeq {R : Type} (next : Tm → Heap → Option R) (K : Out → Tm → Heap → Option R) : Out → Tm → Heap → Option R
  | .normal, tm, h => next tm h
  | o, tm, h => K o tm h

def outK : Out → Tm → Heap → Option (Out × St) := fun o tm h => some (o, ⟨tm, h⟩)

noncomputable def evCode (B : BindS) (T : Tab) (sh : Nat → Bool) (C : CallF) (L : LoopF) (D : DrawF) : {R : Type} → Code → Tm → Heap → (Out → Tm → Heap → Option R) → Option R
  | _, .skip, tm, h, K => K .normal tm h
  | _, .label _, tm, h, K => K .normal tm h
  | _, .region id ops draw, tm, h, K =>
    if draw then (match D id with | some g => B.b (g C ⟨tm, h⟩) fun s => K .normal s.tm s.h | none => evDraw B T sh C ops (K .normal) tm h)
    else evOps B T C ops.toList (K .normal) ops.toList tm h
  | _, .seq a b, tm, h, K => evCode B T sh C L D a tm h (outSeq (fun tm h => evCode B T sh C L D b tm h K) K)
  | _, .cond c a b, tm, h, K => B.b (asB (ev tm c)) fun t => if t then evCode B T sh C L D a tm h K else evCode B T sh C L D b tm h K
  | _, .block id a, tm, h, K => evCode B T sh C L D a tm h (outBlock id K)
  | _, .scope a, tm, h, K => evCode B T sh C L D a tm h K
  | _, .exit id, tm, h, K => K (.exit id) tm h
  | _, .ret, tm, h, K => K .ret tm h
  | _, .loop a, tm, h, K => B.b (L (fun s => evCode B T sh C L D a s.tm s.h outK) ⟨tm, h⟩) fun r => K r.1 r.2.tm r.2.h
  | _, _, _, _, _ => none

def resK {R : Type} (B : BindS) (T : Tab) (tm : Tm) (h : Heap) : List ResultVar → (List AV → Option R) → Option R
  | [], k => k []
  | .tmp t :: rs, k => resK B T tm h rs fun vs => k (tm t :: vs)
  | .cell a t :: rs, k =>
    match T.size t with
    | none => none
    | some z => B.b (ld z.1 z.2 (tm a) h) fun v => resK B T tm h rs fun vs => k (v :: vs)

def tup : List AV → AV
  | [v] => v
  | vs => .tuple vs

def endK (B : BindS) (T : Tab) (rs : List ResultVar) : Out → Tm → Heap → Option (AV × Heap)
  | .exit _, _, _ => none
  | _, tm, h => resK B T tm h rs fun vs => some (tup vs, h)

def init (args : List AV) : Tm := fun t => args.getD t .undef

noncomputable def evFunc (B : BindS) (T : Tab) (sh : Nat → Bool) (C : CallF) (L : LoopF) (D : DrawF) (fn : Func) (args : List AV) (h : Heap) : Option (AV × Heap) :=
  match fn.body with
  | none => none
  | some c => evCode B T sh C L D c (init args) h (endK B T fn.results.toList)

/-! ### Settling -/

def chunk {α : Type} (esz : Nat) : Nat → List α → List (List α)
  | 0, _ => []
  | n + 1, l => l.take esz :: chunk esz n (l.drop esz)

def frzCells (F : AV → Option (SV × List Nat)) : List AV → Option (List SV × List Nat)
  | [] => some ([], [])
  | c :: cs => (F c).bind fun a => (frzCells F cs).bind fun b => some (a.1 :: b.1, a.2 ++ b.2)

/-- A cell's value, settled; the objects that are settled with it. -/
def frzC : Nat → Heap → AV → Option (SV × List Nat)
  | _, _, .sv s => some (s, [])
  | _, _, .nil => some (.slice [], [])
  | n + 1, h, .own id off len =>
    match h[id]? with
    | some (.cells esz cs _) => if 0 < esz then (takeN cs off (len * esz)).bind fun r => (frzCells (frzC n h) r).bind fun q => some (.slice (chunk esz len q.1), id :: q.2) else none
    | _ => none
  | _, _, _ => none

def frzV (n : Nat) (h : Heap) : AV → Option (AV × List Nat)
  | .agg cs => (frzCells (frzC n h) cs).bind fun r => some (.agg (r.1.map .sv), r.2)
  | .ref cs => some (.ref cs, [])
  | .func f [] [] => some (.func f [] [], [])
  | v => (frzC n h v).bind fun r => some (.sv r.1, r.2)

def frzVs (n : Nat) (h : Heap) : List AV → Option (List AV × List Nat)
  | [] => some ([], [])
  | v :: vs => (frzV n h v).bind fun a => (frzVs n h vs).bind fun b => some (a.1 :: b.1, a.2 ++ b.2)

def frzR (n : Nat) (h : Heap) : AV → Option AV
  | .tuple vs => (frzVs n h vs).bind fun r => some (.tuple r.1)
  | v => (frzV n h v).bind fun r => some r.1

def Ent.settled : Ent → Ent
  | .cells esz cs _ => .cells esz cs false
  | e => e

def settle (h : Heap) (ids : List Nat) : Heap := ids.foldl (fun h i => h.modify i Ent.settled) h

/-- How functions are called: prim: told by a plain function; shared: on the caller's own heap; all others: on a heap of their own. -/
structure Modes where
  prim : Nat → Option (List AV → Option AV)
  shared : Nat → Bool

def frzDepth : Nat := 6

def callBy (M : Modes) (E : CallF) : CallF := fun f args h =>
  if M.shared f then E f args h else
  (frzVs frzDepth h args).bind fun a =>
    match M.prim f with
    | some g => (g a.1).bind fun v => some (v, settle h a.2)
    | none => (E f a.1 []).bind fun r => (frzR frzDepth r.2 r.1).bind fun v => some (v, settle h a.2)

def loopN : Nat → LoopF
  | 0, _, _ => none
  | n + 1, f, s =>
    match f s with
    | some (.normal, s') => loopN n f s'
    | r => r

/-- Where the program's functions are, and the parts of the interpreter that are told from outside. -/
structure Env where
  T : Tab
  M : Modes
  D : Nat → DrawF
  fn : Nat → Option Func

noncomputable def callN (E : Env) : Nat → CallF
  | 0 => fun _ _ _ => none
  | n + 1 => callBy E.M fun f args h => (E.fn f).bind fun fn => evFunc optB E.T E.M.shared (callN E n) (loopN n) (E.D f) fn args h

end Go.Proofs.Ytmhamnnfcmkcfaa

/- The first one that something is true of. -/
namespace Go.Proofs.Ytmhamnnfcmkcfaa

def idxP {α : Type} (xs : List α) (p : α → Bool) : Int := match xs.findIdx? p with | some i => i | none => -1

theorem idxP_some {α : Type} {xs : List α} {p : α → Bool} {i : Nat} (hi : i < xs.length) (h : p xs[i] = true) (hpre : ∀ x ∈ xs.take i, p x = false) : idxP xs p = i := by
  have : xs.findIdx? p = some i := by
    rw [List.findIdx?_eq_some_iff_getElem]
    refine ⟨hi, h, fun j hj => ?_⟩
    have := hpre xs[j] (by rw [List.mem_take_iff_getElem]; exact ⟨j, by omega, rfl⟩)
    simp [this]
  simp [idxP, this]

theorem idxP_none {α : Type} {xs : List α} {p : α → Bool} (h : ∀ x ∈ xs, p x = false) : idxP xs p = -1 := by
  have : xs.findIdx? p = none := by rw [List.findIdx?_eq_none_iff]; exact h
  simp [idxP, this]

theorem idxP_neg {α : Type} {xs : List α} {p : α → Bool} : idxP xs p < 0 ↔ ∀ x ∈ xs, p x = false := by
  unfold idxP
  cases h : xs.findIdx? p with
  | none => simp; rw [List.findIdx?_eq_none_iff] at h; exact h
  | some i =>
    rw [List.findIdx?_eq_some_iff_getElem] at h
    obtain ⟨hi, h1, -⟩ := h
    simp
    constructor
    · intro h2; omega
    · intro h2; have := h2 xs[i] (List.getElem_mem hi); rw [this] at h1; cases h1

theorem idxP_any {α : Type} {xs : List α} {p : α → Bool} : decide (0 ≤ idxP xs p) = xs.any p := by
  rw [Bool.eq_iff_iff, decide_eq_true_eq, List.any_eq_true]
  constructor
  · intro h
    refine Classical.byContradiction fun hn => ?_
    have : idxP xs p < 0 := idxP_neg.2 fun x hx => by
      cases e : p x with
      | false => rfl
      | true => exact absurd ⟨x, hx, e⟩ hn
    omega
  · rintro ⟨x, hx, h⟩
    refine Int.not_lt.1 fun hn => ?_
    have := idxP_neg.1 hn x hx
    rw [this] at h
    cases h

theorem idxP_map {α β : Type} (f : α → β) (xs : List α) (p : β → Bool) : idxP (xs.map f) p = idxP xs fun x => p (f x) := by
  unfold idxP
  rw [List.findIdx?_map]
  rfl

end Go.Proofs.Ytmhamnnfcmkcfaa

/- How abstract values and the abstract heap stand for the model's values and its memory. -/
namespace Go.Proofs.Ytmhamnnfcmkcfaa
open Go.RowKit

/-- Where an object lies: from cell o of block b on, ext cells, esz an element. -/
structure Loc where
  b : Nat
  o : Nat
  ext : Nat
  esz : Nat

abbrev Settled := Nat → Nat → Option Value

/-- What is known of memory: the settled cells; where the objects lie. -/
structure Gh where
  S : Settled
  loc : Nat → Option Loc

def SLe (S S' : Settled) : Prop := ∀ b o v, S b o = some v → S' b o = some v
theorem SLe.refl (S : Settled) : SLe S S := fun _ _ _ h => h
theorem SLe.trans {S S' S'' : Settled} (h : SLe S S') (k : SLe S' S'') : SLe S S'' := fun b o v e => k b o v (h b o v e)

inductive RepS (S : Settled) : SV → Value → Prop where
  | bool (b : Bool) : RepS S (.bool b) (.bool b)
  | int (k : IntKind) (n : Int) : RepS S (.int k n) (.int k n)
  | str (s : List UInt8) : RepS S (.str s) (.string ⟨s.toArray⟩)
  | nilp : RepS S .nilp (.pointer none)
  | nilIface : RepS S .nilIface .nilIface
  | slice0 (a : Option Addr) (cap : Nat) : RepS S (.slice []) (.slice a 0 cap)
  | slice (xs : List (List SV)) (b o cap esz : Nat) (vs : Nat → Nat → Value) (hcap : xs.length ≤ cap)
      (hsz : ∀ c, c ∈ xs → c.length = esz)
      (hS : ∀ i j, i < xs.length → j < esz → S b (o + i * esz + j) = some (vs i j))
      (hr : ∀ (i j : Nat) (c : List SV) (s : SV), xs[i]? = some c → c[j]? = some s → RepS S s (vs i j)) :
      RepS S (.slice xs) (.slice (some ⟨b, o, none⟩) xs.length cap)

theorem RepS.mono {S S' : Settled} (hS : SLe S S') {s : SV} {v : Value} (h : RepS S s v) : RepS S' s v := by
  induction h with
  | bool b => exact .bool b
  | int k n => exact .int k n
  | str s => exact .str s
  | nilp => exact .nilp
  | nilIface => exact .nilIface
  | slice0 a cap => exact .slice0 a cap
  | slice xs b o cap esz vs hcap hsz h1 _ ih => exact .slice xs b o cap esz vs hcap hsz (fun i j hi hj => hS _ _ _ (h1 i j hi hj)) ih

inductive Rep (G : Gh) : AV → Value → Prop where
  | undef (v : Value) : Rep G .undef v
  | dead : Rep G .dead Go.undef
  | sv {s : SV} {v : Value} (h : RepS G.S s v) : Rep G (.sv s) v
  | nil (a : Option Addr) : Rep G .nil (.slice a 0 0)
  | ptr (id off : Nat) (L : Loc) (h : G.loc id = some L) : Rep G (.ptr id off) (.pointer (some ⟨L.b, L.o + off, none⟩))
  | ref (cs : List SV) (b o : Nat) (vs : Nat → Value) (hS : ∀ j, j < cs.length → G.S b (o + j) = some (vs j))
      (hr : ∀ (j : Nat) (s : SV), cs[j]? = some s → RepS G.S s (vs j)) : Rep G (.ref cs) (.pointer (some ⟨b, o, none⟩))
  | own (id off len cap : Nat) (L : Loc) (h : G.loc id = some L) (hcap : len ≤ cap) (hext : off + cap * L.esz ≤ L.ext) :
      Rep G (.own id off len) (.slice (some ⟨L.b, L.o + off, none⟩) len cap)
  | func (f : Nat) (first caps : List AV) (vf vc : List Value) (h1 : first.length = vf.length) (h2 : caps.length = vc.length)
      (hf : ∀ (j : Nat) (c : AV) (v : Value), first[j]? = some c → vf[j]? = some v → Rep G c v)
      (hc : ∀ (j : Nat) (c : AV) (v : Value), caps[j]? = some c → vc[j]? = some v → Rep G c v) :
      Rep G (.func f first caps) (.func (.func f) vf.toArray vc.toArray)
  | map (id : Nat) (L : Loc) (h : G.loc id = some L) : Rep G (.map id) (.map (some L.b))
  | agg (cs : List AV) (vs : List Value) (h1 : cs.length = vs.length)
      (hc : ∀ (j : Nat) (c : AV) (v : Value), cs[j]? = some c → vs[j]? = some v → Rep G c v) : Rep G (.agg cs) (.agg vs.toArray)
  | tuple (cs : List AV) (vs : List Value) (h1 : cs.length = vs.length)
      (hc : ∀ (j : Nat) (c : AV) (v : Value), cs[j]? = some c → vs[j]? = some v → Rep G c v) : Rep G (.tuple cs) (.tuple vs.toArray)

def RepL (G : Gh) (cs : List AV) (vs : List Value) : Prop := cs.length = vs.length ∧ ∀ (j : Nat) (c : AV) (v : Value), cs[j]? = some c → vs[j]? = some v → Rep G c v

structure GLe (G G' : Gh) : Prop where
  S : SLe G.S G'.S
  loc : ∀ id L, G.loc id = some L → G'.loc id = some L

theorem GLe.refl (G : Gh) : GLe G G := ⟨SLe.refl _, fun _ _ h => h⟩
theorem GLe.trans {G G' G'' : Gh} (h : GLe G G') (k : GLe G' G'') : GLe G G'' := ⟨h.S.trans k.S, fun id L e => k.loc id L (h.loc id L e)⟩

theorem Rep.mono {G G' : Gh} (hG : GLe G G') {a : AV} {v : Value} (h : Rep G a v) : Rep G' a v := by
  induction h with
  | undef v => exact .undef v
  | dead => exact .dead
  | sv h => exact .sv (h.mono hG.S)
  | nil a => exact .nil a
  | ptr id off L h => exact .ptr id off L (hG.loc _ _ h)
  | ref cs b o vs hS hr => exact .ref cs b o vs (fun j hj => hG.S _ _ _ (hS j hj)) (fun j s hs => (hr j s hs).mono hG.S)
  | own id off len cap L h hcap hext => exact .own id off len cap L (hG.loc _ _ h) hcap hext
  | func f first caps vf vc h1 h2 _ _ i1 i2 => exact .func f first caps vf vc h1 h2 i1 i2
  | map id L h => exact .map id L (hG.loc _ _ h)
  | agg cs vs h1 _ ih => exact .agg cs vs h1 ih
  | tuple cs vs h1 _ ih => exact .tuple cs vs h1 ih

theorem RepL.mono {G G' : Gh} (hG : GLe G G') {cs : List AV} {vs : List Value} (h : RepL G cs vs) : RepL G' cs vs := ⟨h.1, fun j c v h1 h2 => (h.2 j c v h1 h2).mono hG⟩

theorem RepL.nil (G : Gh) : RepL G [] [] := ⟨rfl, fun j c v h => by simp at h⟩

theorem RepL.cons {G : Gh} {c : AV} {v : Value} {cs : List AV} {vs : List Value} (h : Rep G c v) (hs : RepL G cs vs) : RepL G (c :: cs) (v :: vs) := by
  refine ⟨by simp [hs.1], fun j => ?_⟩
  cases j with
  | zero => intro c' v' h1 h2; simp at h1 h2; subst h1; subst h2; exact h
  | succ j => intro c' v' h1 h2; exact hs.2 j c' v' (by simpa using h1) (by simpa using h2)

theorem RepL.uncons {G : Gh} {c : AV} {cs : List AV} {vs : List Value} (h : RepL G (c :: cs) vs) : ∃ v vs', vs = v :: vs' ∧ Rep G c v ∧ RepL G cs vs' := by
  cases vs with
  | nil => have := h.1; simp at this
  | cons v vs' =>
    refine ⟨v, vs', rfl, h.2 0 c v (by simp) (by simp), by simpa using h.1, fun j c' v' h1 h2 => h.2 (j + 1) c' v' (by simpa using h1) (by simpa using h2)⟩

theorem RepL.append {G : Gh} {cs ds : List AV} {vs us : List Value} (h : RepL G cs vs) (k : RepL G ds us) : RepL G (cs ++ ds) (vs ++ us) := by
  induction cs generalizing vs with
  | nil => have := h.1; cases vs with
    | nil => simpa using k
    | cons v vs => simp at this
  | cons c cs ih => obtain ⟨v, vs', rfl, h1, h2⟩ := h.uncons; exact (ih h2).cons h1

theorem RepL.take {G : Gh} {cs : List AV} {vs : List Value} (h : RepL G cs vs) (n : Nat) : RepL G (cs.take n) (vs.take n) := by
  refine ⟨by simp [h.1], fun j c v h1 h2 => ?_⟩
  rw [List.getElem?_take] at h1 h2
  split at h1
  · rename_i hj; rw [if_pos hj] at h2; exact h.2 j c v h1 h2
  · cases h1

theorem RepL.drop {G : Gh} {cs : List AV} {vs : List Value} (h : RepL G cs vs) (n : Nat) : RepL G (cs.drop n) (vs.drop n) := by
  refine ⟨by simp [h.1], fun j c v h1 h2 => ?_⟩
  rw [List.getElem?_drop] at h1 h2
  exact h.2 _ c v h1 h2

/-- The objects of the heap lie in memory: those that may be written each in cells of its own from block B on, none of them settled. -/
structure Inv (B : Nat) (G : Gh) (H : Heap) (w : World) : Prop where
  base : B ≤ w.heap.size
  blk : ∀ id L, G.loc id = some L → L.b < w.heap.size
  fresh : ∀ id, H.length ≤ id → G.loc id = none
  set : ∀ b o v, G.S b o = some v → w.cell? ⟨b, o, none⟩ = some v
  cells : ∀ id esz cs wr, H[id]? = some (.cells esz cs wr) → ∃ L, G.loc id = some L ∧ L.esz = esz ∧ cs.length ≤ L.ext ∧
    (∀ (j : Nat) (c : AV), cs[j]? = some c → cell1 c = true ∧ ∃ v, w.cell? ⟨L.b, L.o + j, none⟩ = some v ∧ Rep G c v ∧ (wr = false → G.S L.b (L.o + j) = some v)) ∧
    (wr = true → B ≤ L.b ∧ ∀ j, j < L.ext → (w.cell? ⟨L.b, L.o + j, none⟩).isSome = true ∧ w.frozen? ⟨L.b, L.o + j, none⟩ = false ∧ G.S L.b (L.o + j) = none)
  disj : ∀ id id' esz esz' cs cs' L L', H[id]? = some (.cells esz cs true) → H[id']? = some (.cells esz' cs' true) → id ≠ id' → G.loc id = some L → G.loc id' = some L' →
    L.b ≠ L'.b ∨ L.o + L.ext ≤ L'.o ∨ L'.o + L'.ext ≤ L.o
  maps : ∀ id es, H[id]? = some (.map es) → ∃ L ces clock, G.loc id = some L ∧ B ≤ L.b ∧ w.heap[L.b]? = some (.map ces clock) ∧ es.length = ces.size ∧
    ∀ (j : Nat) (s : SV) (v : AV) (e : MapEntry), es[j]? = some (s, v) → ces[j]? = some e → RepS G.S s e.key ∧ cell1 v = true ∧ Rep G v e.val
  mdisj : ∀ id id' es es' L L', H[id]? = some (.map es) → H[id']? = some (.map es') → id ≠ id' → G.loc id = some L → G.loc id' = some L' → L.b ≠ L'.b

end Go.Proofs.Ytmhamnnfcmkcfaa

/- The operations that only compute: what the abstract one answers stands for what the model's does, and the world stays. -/
namespace Go.Proofs.Ytmhamnnfcmkcfaa
open Go.RowKit

theorem Rep.cell {G : Gh} {c : AV} {v : Value} (h : Rep G c v) (h1 : cell1 c = true) : v.oneCell' = true ∧ v.cells = #[v] := by
  cases h <;> first | (simp [cell1] at h1; done) | exact ⟨rfl, rfl⟩ | (rename_i hs; cases hs <;> exact ⟨rfl, rfl⟩)

theorem Rep.cells {G : Gh} {c : AV} {v : Value} {cs : List AV} (h : Rep G c v) (h1 : cellsOf c = some cs) : RepL G cs v.cells.toList ∧ (∀ x ∈ cs, cell1 x = true) ∧ ∀ x ∈ v.cells.toList, x.oneCell' = true := by
  have key : ∀ (cs : List AV) (vs : List Value), RepL G cs vs → (∀ x ∈ cs, cell1 x = true) → ∀ x ∈ vs, x.oneCell' = true := by
    intro cs vs hL hc x hx
    obtain ⟨j, hj⟩ := List.mem_iff_getElem?.1 hx
    have hlt : j < cs.length := by have := (List.getElem?_eq_some_iff.1 hj).1; rw [hL.1]; exact this
    have hcj : cs[j]? = some cs[j] := List.getElem?_eq_getElem hlt
    exact ((hL.2 j _ _ hcj hj).cell (hc _ (List.getElem_mem hlt))).1
  unfold cellsOf at h1
  split at h1
  · split at h1
    · rename_i hall
      cases h1
      cases h with
      | agg _ vs e hc =>
        have hL : RepL G cs vs := ⟨e, hc⟩
        have hall' : ∀ x ∈ cs, cell1 x = true := List.all_eq_true.1 hall
        refine ⟨by simpa [Value.cells] using hL, hall', by simpa [Value.cells] using key cs vs hL hall'⟩
    · cases h1
  · split at h1
    · rename_i hc
      cases h1
      obtain ⟨h2, h3⟩ := h.cell hc
      rw [h3]
      exact ⟨(RepL.nil G).cons h, by simpa using hc, by simpa using h2⟩
    · cases h1

theorem ofVal_rep (G : Gh) (v : Value) : Rep G (ofVal v) v := by
  unfold ofVal
  split
  · exact .sv (.bool _)
  · exact .sv (.int _ _)
  · rename_i s
    have : Rep G (.sv (.str s.data.toList)) (.string ⟨s.data.toList.toArray⟩) := .sv (.str _)
    simpa using this
  · exact .sv .nilp
  · exact .nil none
  · exact .sv .nilIface
  · exact .undef _

/-- The frame's values stand for the abstract ones. -/
def RepT (G : Gh) (tm : Tm) (tmps : Array Value) : Prop := ∀ t, Rep G (tm t) (tmps.getD t undef)

theorem RepT.mono {G G' : Gh} (hG : GLe G G') {tm : Tm} {tmps : Array Value} (h : RepT G tm tmps) : RepT G' tm tmps := fun t => (h t).mono hG

theorem ev_rep {G : Gh} {tm : Tm} {a : Act} (h : RepT G tm a.tmps) (x : Operand) : Rep G (ev tm x) (a.eval x) := by
  cases x with
  | tmp t => exact h t
  | const v => exact ofVal_rep G v
  | global g => exact .undef _
  | func f => exact .func f [] [] [] [] rfl rfl (fun _ _ _ h => by simp at h) (fun _ _ _ h => by simp at h)

theorem RepT.put {G : Gh} {tm : Tm} {a : Act} (h : RepT G tm a.tmps) (d : Option Nat) {v : AV} {cv : Value} (hv : Rep G v cv) (hd : ∀ t, d = some t → t < a.tmps.size) :
    RepT G (updO tm d v) (a.put d cv).tmps := by
  cases d with
  | none => exact h
  | some d =>
    have hlt := hd d rfl
    intro t
    simp only [updO, upd, Act.put]
    by_cases e : t = d
    · subst e
      rw [if_pos rfl]
      simp [hlt]
      exact hv
    · rw [if_neg e]
      have := h t
      simp only [Array.getD_eq_getD_getElem?] at this ⊢
      rw [Array.getElem?_setIfInBounds_ne (by omega)]
      exact this

end Go.Proofs.Ytmhamnnfcmkcfaa

/- What the type table must tell truly; loads, fields, indices, cuts, arithmetic. -/
namespace Go.Proofs.Ytmhamnnfcmkcfaa
open Go.RowKit

def eqVals : List EK → List Value → List Value → Option Bool
  | [], [], [] => some true
  | .bool :: ks, .bool a :: xs, .bool b :: ys => (eqVals ks xs ys).bind fun r => some (a == b && r)
  | .int k :: ks, .int k1 a :: xs, .int k2 b :: ys => if k1 = k ∧ k2 = k then (eqVals ks xs ys).bind fun r => some (a == b && r) else none
  | .str :: ks, .string a :: xs, .string b :: ys => (eqVals ks xs ys).bind fun r => some (a == b && r)
  | _, _, _ => none

def EqOk (P : Program) (t : Nat) (e : Option (List EK)) : Prop :=
  ∀ ks, e = some ks → P.eqGuardType P.depth t = false ∧
    ∀ (w : World) (xs ys : List Value) (b : Bool), eqVals ks xs ys = some b → (Op.equal t (.agg xs.toArray) (.agg ys.toArray)).run P w = .ok b w

def SizeOk (P : Program) (t n : Nat) (agg : Bool) : Prop :=
  ∃ i d, P.info? t = some i ∧ i.size = n ∧ P.underlying t = some d ∧ d.isRow = agg ∧ (agg = false → n = 1)

def KindOk (P : Program) (t : Nat) : K → Prop
  | .bool => P.underlying t = some .bool
  | .int k => P.underlying t = some (.int k)
  | .str => P.underlying t = some .string
  | .slice elem esz bytes byte => P.underlying t = some (.slice elem) ∧ (∃ i, P.info? elem = some i ∧ i.size = esz ∧ i.bytes = bytes ∧ ∃ zv, i.zero = some zv ∧ zv.cells.size = esz) ∧ (byte = true → P.underlying elem = some (.int .u8))
  | .arr n esz agg eq => (∃ elem, P.underlying t = some (.array n elem) ∧ SizeOk P elem esz agg) ∧ EqOk P t eq
  | .struct eq => (∃ fs, P.underlying t = some (.struct fs)) ∧ EqOk P t eq
  | .ptr => ∃ e, P.underlying t = some (.pointer e)
  | .map key elem => ∃ kt, P.underlying t = some (.map kt elem) ∧ (match key with | .int k => P.underlying kt = some (.int k) | .str => P.underlying kt = some .string | .bool => P.underlying kt = some .bool) ∧ ∃ i zv, P.info? elem = some i ∧ i.zero = some zv ∧ zv.cells = #[zv]
  | .other => True

structure TabOk (P : Program) (T : Tab) : Prop where
  size : ∀ t n agg, T.size t = some (n, agg) → SizeOk P t n agg
  kind : ∀ t k, T.kind t = some k → KindOk P t k
  field : ∀ t i off n agg, T.field t i = some (off, n, agg) →
    ∃ fs f, P.underlying t = some (.struct fs) ∧ fs[i]? = some f ∧ f.offset = off ∧ 0 < n ∧ SizeOk P f.type n agg
  zero : ∀ t z, T.zero t = some z → ∃ i v, P.info? t = some i ∧ i.zero = some v ∧ i.size = z.length ∧ z.all cell1 = true ∧ (∀ G, RepL G z v.cells.toList) ∧
    (∀ G, v.cells = #[v] → ∀ d, z = [d] → Rep G d v)
  fields : ∀ t z fs, T.zero t = some z → P.underlying t = some (.struct fs) → ∀ f ∈ fs, ∃ i, P.info? f.type = some i

section
variable {P : Program} {B : Nat} {G : Gh} {h : Heap} {w : World}

theorem RepS.sv_inj {c : SV} {v : Value} (hr : RepS G.S c v) : Rep G (.sv c) v := .sv hr

theorem takeN_some {α : Type} {cs r : List α} {off n : Nat} (e : takeN cs off n = some r) : r = (cs.drop off).take n ∧ r.length = n ∧ off + n ≤ cs.length ∨ n = 0 ∧ r = [] := by
  unfold takeN at e
  simp only at e
  split at e
  · rename_i hl
    cases e
    by_cases hn : n = 0
    · exact .inr ⟨hn, by simp [hn]⟩
    · refine .inl ⟨rfl, hl, ?_⟩
      simp at hl
      omega
  · cases e

theorem takeN_get {α : Type} {cs r : List α} {off n : Nat} (e : takeN cs off n = some r) : r.length = n ∧ ∀ j x, r[j]? = some x → cs[off + j]? = some x := by
  rcases takeN_some e with ⟨h1, h2, _⟩ | ⟨h1, h2⟩
  · refine ⟨h2, fun j x hj => ?_⟩
    rw [h1, List.getElem?_take] at hj
    split at hj
    · rwa [List.getElem?_drop] at hj
    · cases hj
  · subst h1; subst h2; exact ⟨rfl, fun j x hj => by simp at hj⟩

theorem rangeMap_get {α : Type} {f : Nat → α} {n j : Nat} {v : α} (e : ((List.range n).map f)[j]? = some v) : j < n ∧ f j = v := by
  rw [List.getElem?_map] at e
  by_cases hj : j < n
  · rw [List.getElem?_range hj] at e; simp at e; exact ⟨hj, e⟩
  · rw [List.getElem?_eq_none (by simp; omega)] at e; simp at e

/-- Cells that are known, loaded as a value of a type. -/
theorem load_known {t n : Nat} {agg : Bool} (hz : SizeOk P t n agg) {b o : Nat} {cs : List AV} {vs : List Value} (hl : cs.length = n) (hL : RepL G cs vs) (hc : w.rangeAt b o vs) :
    ∃ cv, (Instr.loadAt t (.pointer (some ⟨b, o, none⟩))).run P w = .ok cv w ∧ Rep G (pack agg cs) cv := by
  obtain ⟨i, d, hi, hn, hu, hrow, h1⟩ := hz
  cases agg with
  | true =>
    refine ⟨_, run_loadAt_mid w b o t vs d hc hu hrow (by simp [hi, hn, ← hL.1, hl]), ?_⟩
    exact .agg cs vs hL.1 hL.2
  | false =>
    have hn1 := h1 rfl
    subst hn1
    match cs, hl, hL with
    | [c], _, hL =>
      obtain ⟨v, vs', rfl, hv, hvs⟩ := hL.uncons
      have : vs' = [] := by have := hvs.1; cases vs' <;> simp_all
      subst this
      refine ⟨v, ?_, by simpa [pack] using hv⟩
      have hcell : w.cell? ⟨b, o, none⟩ = some v := by simpa using hc 0 v (by simp)
      have hagg : (isAgg t).run P w = .ok false w := by
        unfold isAgg
        rw [Sem.run_bind, run_underlying hu w]
        cases d <;> simp_all
      simp [Instr.loadAt, Instr.sureAddr, loadVar, Sem.run_bind, hagg, hcell]

theorem ld_sound (hI : Inv B G h w) {t n : Nat} {agg : Bool} (hz : SizeOk P t n agg) {a v : AV} {ca : Value} (ha : Rep G a ca) (e : ld n agg a h = some v) :
    ∃ cv, (Instr.loadAt t ca).run P w = .ok cv w ∧ Rep G v cv := by
  unfold ld at e
  split at e
  · rename_i id off
    split at e
    · rename_i esz cs wr hid
      obtain ⟨r, hr, e⟩ := Option.bind_eq_some_iff.1 e
      cases e
      cases ha with
      | ptr _ _ L hL =>
        obtain ⟨L', hL', _, _, hc, _⟩ := hI.cells id esz cs wr hid
        obtain rfl : L = L' := Option.some.inj (hL.symm.trans hL')
        obtain ⟨hlen, hget⟩ := takeN_get hr
        have hall : ∀ j c, r[j]? = some c → ∃ v, w.cell? ⟨L.b, L.o + off + j, none⟩ = some v ∧ Rep G c v := fun j c hj => by
          obtain ⟨_, v, h1, h2, _⟩ := hc _ _ (hget j c hj)
          exact ⟨v, by rw [Nat.add_assoc]; exact h1, h2⟩
        have hex : ∃ vs : List Value, RepL G r vs ∧ w.rangeAt L.b (L.o + off) vs := by
          refine ⟨(List.range r.length).map fun j => (w.cell? ⟨L.b, L.o + off + j, none⟩).getD undef, ⟨by simp, fun j c v h1 h2 => ?_⟩, fun j v h2 => ?_⟩
          · obtain ⟨u, hu, hr⟩ := hall j c h1
            obtain ⟨_, h2⟩ := rangeMap_get h2
            rw [hu] at h2
            rwa [← h2]
          · obtain ⟨hlt, h2⟩ := rangeMap_get h2
            obtain ⟨u, hu, hr⟩ := hall j _ (List.getElem?_eq_getElem hlt)
            rw [hu] at h2 ⊢
            simpa using h2
        obtain ⟨vs, h1, h2⟩ := hex
        exact load_known hz hlen h1 h2
    · cases e
  · rename_i cs
    obtain ⟨r, hr, e⟩ := Option.bind_eq_some_iff.1 e
    cases e
    cases ha with
    | ref _ b o vs hS hrs =>
      obtain ⟨hlen, hget⟩ := takeN_get hr
      refine load_known hz (by simpa using hlen) (vs := (List.range r.length).map vs) ⟨by simp, fun j c v h1 h2 => ?_⟩ (fun j v h2 => ?_)
      · obtain ⟨_, rfl⟩ := rangeMap_get h2
        simp at h1
        obtain ⟨s, hs, rfl⟩ := h1
        exact .sv (hrs j s (by simpa using hget j s hs))
      · obtain ⟨hlt, rfl⟩ := rangeMap_get h2
        have := hget j _ (List.getElem?_eq_getElem hlt)
        simp at this
        obtain ⟨hlt2, _⟩ := List.getElem?_eq_some_iff.1 this
        exact hI.set _ _ _ (hS j hlt2)
  · cases e

end
end Go.Proofs.Ytmhamnnfcmkcfaa

/- Addresses of fields and elements, fields, indices, lengths, tuples. -/
namespace Go.Proofs.Ytmhamnnfcmkcfaa
open Go.RowKit

section
variable {P : Program} {B : Nat} {G : Gh} {h : Heap} {w : World}

theorem run_sizeOf {t : Nat} {i : TypeInfo} (hi : P.info? t = some i) (w : World) : (sizeOf t).run P w = .ok i.size w := by simp [sizeOf, typeInfo, hi]
theorem run_isAgg {t : Nat} {d : TypeDesc} (hu : P.underlying t = some d) (w : World) : (isAgg t).run P w = .ok d.isRow w := by
  unfold isAgg
  rw [Sem.run_bind, run_underlying hu w]
  cases d <;> simp_all

theorem fa_sound {t i off n : Nat} {agg : Bool} (hf : ∃ fs f, P.underlying t = some (.struct fs) ∧ fs[i]? = some f ∧ f.offset = off ∧ 0 < n ∧ SizeOk P f.type n agg)
    {x v : AV} {cx : Value} (hx : Rep G x cx) (e : fa off x = some v) : ∃ cv, (Instr.fieldAt t cx i).run P w = .ok cv w ∧ Rep G v cv := by
  obtain ⟨fs, f, hu, hfi, ho, hn, i', d, hi, hsz, _⟩ := hf
  have hrun : ∀ (b o : Nat), (Instr.fieldAt t (.pointer (some ⟨b, o, none⟩)) i).run P w = .ok (.pointer (some ⟨b, o + off, none⟩)) w := fun b o => by
    have hz : ¬ i'.size = 0 := by omega
    simp [Instr.fieldAt, run_underlying hu, hfi, Instr.sureAddr, fieldPlace, run_sizeOf hi, hz, Addr.add_mid, ho]
  unfold fa at e
  split at e
  · cases e
    cases hx with
    | ptr _ _ L hL => exact ⟨_, hrun _ _, by rw [Nat.add_assoc]; exact .ptr _ _ L hL⟩
  · cases e
    cases hx with
    | ref cs b o vs hS hr =>
      refine ⟨_, hrun _ _, .ref _ b (o + off) (fun j => vs (off + j)) (fun j hj => ?_) (fun j s hs => ?_)⟩
      · simp at hj
        have := hS (off + j) (by omega)
        rwa [← Nat.add_assoc] at this
      · rw [List.getElem?_drop] at hs
        exact hr _ s hs
  · cases e

/-- A part of an aggregate's cells, as a value of a type. -/
theorem part_sound {t n off : Nat} {agg : Bool} (hz : SizeOk P t n agg) {cs r : List AV} {vs : List Value} (hL : RepL G cs vs) (e : takeN cs off n = some r) :
    ∃ cv, (part t vs.toArray off).run P w = .ok cv w ∧ Rep G (pack agg r) cv := by
  obtain ⟨i, d, hi, hn, hu, hrow, h1⟩ := hz
  obtain ⟨hlen, hget⟩ := takeN_get e
  cases agg with
  | true =>
    refine ⟨.agg ((vs.drop off).take n).toArray, ?_, ?_⟩
    · simp [part, run_isAgg hu, hrow, run_sizeOf hi, hn]
    · have hr : r = (cs.drop off).take n := by
        rcases takeN_some e with ⟨h1, _, _⟩ | ⟨h1, h2⟩
        · exact h1
        · subst h1; subst h2; simp
      rw [hr]
      have := (hL.drop off).take n
      exact .agg _ _ this.1 this.2
  | false =>
    have hn1 := h1 rfl
    subst hn1
    match r, hlen, hget with
    | [c], _, hget =>
      have hc := hget 0 c (by simp)
      have hlt : off < vs.length := by rw [← hL.1]; exact (List.getElem?_eq_some_iff.1 (by simpa using hc)).1
      refine ⟨vs[off], ?_, ?_⟩
      · simp [part, run_isAgg hu, hrow, hlt]
      · exact hL.2 off c _ (by simpa using hc) (List.getElem?_eq_getElem hlt)
    | [], hl, _ => simp at hl
    | _ :: _ :: _, hl, _ => simp at hl

theorem fl_sound {t i off n : Nat} {agg : Bool} (hf : ∃ fs f, P.underlying t = some (.struct fs) ∧ fs[i]? = some f ∧ f.offset = off ∧ 0 < n ∧ SizeOk P f.type n agg)
    {x v : AV} {cx : Value} (hx : Rep G x cx) (e : fl off n agg x = some v) : ∃ cv, (Instr.field t cx i).run P w = .ok cv w ∧ Rep G v cv := by
  obtain ⟨fs, f, hu, hfi, ho, hn, hz⟩ := hf
  unfold fl at e
  split at e
  · obtain ⟨r, hr, e⟩ := Option.bind_eq_some_iff.1 e
    cases e
    cases hx with
    | agg cs vs e1 hc =>
      obtain ⟨cv, h1, h2⟩ := part_sound (w := w) hz (⟨e1, hc⟩ : RepL G _ vs) hr
      refine ⟨cv, ?_, h2⟩
      simp [Instr.field, run_underlying hu, hfi, asAgg, ho, h1]
  · cases e

theorem ia_sound {t : Nat} {k : K} (hk : KindOk P t k) {x i v : AV} {cx ci : Value} (hx : Rep G x cx) (hi : Rep G i ci) (e : ia k x i = some v) :
    ∃ cv, (Instr.indexAt t cx ci).run P w = .ok cv w ∧ Rep G v cv := by
  unfold ia at e
  split at e
  · rename_i _ _ _ elem esz bytes byte xs ik n
    split at e
    · rename_i hn
      obtain ⟨c, hc, e⟩ := Option.bind_eq_some_iff.1 e
      split at e
      · rename_i hlen
        cases e
        obtain ⟨hu, ⟨ti, hti, hsz, _⟩, _⟩ := hk
        cases hi with
        | sv hi =>
        cases hi
        cases hx with
        | sv hx =>
        cases hx with
        | slice0 => simp at hn; omega
        | slice _ b o cap esz' vs hcap hsz' hS hr =>
          have hcm : c ∈ xs := List.mem_of_getElem? hc
          have he : esz' = esz := by rw [← hsz' c hcm, hlen]
          subst he
          have hlt : n.toNat < xs.length := by omega
          refine ⟨.pointer (some ⟨b, o + n.toNat * esz', none⟩), ?_, .ref c b _ (vs n.toNat) (fun j hj => hS _ j hlt (by omega)) (fun j s hs => hr _ j c s hc hs)⟩
          simp [Instr.indexAt, asIntOf, run_underlying hu, hn, run_sizeOf hti, hsz, Addr.add_mid]
      · cases e
    · cases e
  · rename_i _ _ _ elem esz bytes byte id off len ik n
    split at e
    · rename_i hn
      cases e
      obtain ⟨hu, ⟨ti, hti, hsz, _⟩, _⟩ := hk
      cases hi with
      | sv hi =>
      cases hi
      cases hx with
      | own _ _ _ cap L hL hcap hext =>
        refine ⟨_, ?_, .ptr id (off + n.toNat * esz) L hL⟩
        simp [Instr.indexAt, asIntOf, run_underlying hu, hn, run_sizeOf hti, hsz, Addr.add_mid, Nat.add_assoc]
    · cases e
  · rename_i _ _ _ m esz agg eq id off ik n
    split at e
    · rename_i hn
      cases e
      obtain ⟨⟨elem, hu, ti, d, hti, hsz, _⟩, _⟩ := hk
      cases hi with
      | sv hi =>
      cases hi
      cases hx with
      | ptr _ _ L hL =>
        refine ⟨_, ?_, .ptr id (off + n.toNat * esz) L hL⟩
        simp [Instr.indexAt, asIntOf, run_underlying hu, hn, run_sizeOf hti, hsz, Addr.add_mid, Nat.add_assoc, Instr.sureAddr]
    · cases e
  · rename_i _ _ _ m esz agg eq cs ik n
    split at e
    · rename_i hn
      cases e
      obtain ⟨⟨elem, hu, ti, d, hti, hsz, _⟩, _⟩ := hk
      cases hi with
      | sv hi =>
      cases hi
      cases hx with
      | ref _ b o vs hS hr =>
        refine ⟨.pointer (some ⟨b, o + n.toNat * esz, none⟩), ?_, .ref _ b _ (fun j => vs (n.toNat * esz + j)) (fun j hj => ?_) (fun j s hs => ?_)⟩
        · simp [Instr.indexAt, asIntOf, run_underlying hu, hn, run_sizeOf hti, hsz, Addr.add_mid, Instr.sureAddr]
        · simp at hj
          have := hS (n.toNat * esz + j) (by omega)
          rwa [← Nat.add_assoc] at this
        · rw [List.getElem?_drop] at hs
          exact hr _ s hs
    · cases e
  · cases e

theorem ix_sound {t : Nat} {k : K} (hk : KindOk P t k) {x i v : AV} {cx ci : Value} (hx : Rep G x cx) (hi : Rep G i ci) (e : ix k x i = some v) :
    ∃ cv, (Instr.index t cx ci).run P w = .ok cv w ∧ Rep G v cv := by
  unfold ix at e
  split at e
  · rename_i _ _ _ s ik n
    split at e
    · rename_i hn
      obtain ⟨b, hb, e⟩ := Option.bind_eq_some_iff.1 e
      cases e
      cases hi with
      | sv hi =>
      cases hi
      cases hx with
      | sv hx =>
      cases hx
      have hu : P.underlying t = some .string := hk
      have hb' : (⟨s.toArray⟩ : ByteArray)[n.toNat]? = some b := by
        obtain ⟨hlt, hb⟩ := List.getElem?_eq_some_iff.1 hb
        have hlt' : n.toNat < (⟨s.toArray⟩ : ByteArray).size := by simpa [ByteArray.size] using hlt
        rw [getElem?_pos (⟨s.toArray⟩ : ByteArray) n.toNat hlt', ← hb]
        rfl
      refine ⟨.int .u8 b.toNat, ?_, .sv (.int _ _)⟩
      simp [Instr.index, asIntOf, run_underlying hu, hn, hb']
    · cases e
  · rename_i _ _ _ m esz agg eq cs ik n
    split at e
    · rename_i hn
      obtain ⟨r, hr, e⟩ := Option.bind_eq_some_iff.1 e
      cases e
      obtain ⟨⟨elem, hu, hz⟩, _⟩ := hk
      cases hi with
      | sv hi =>
      cases hi
      cases hx with
      | agg _ vs e1 hc =>
        obtain ⟨cv, h1, h2⟩ := part_sound (w := w) hz (⟨e1, hc⟩ : RepL G _ vs) hr
        obtain ⟨ti, d, hti, hsz, _⟩ := hz
        refine ⟨cv, ?_, h2⟩
        simp [Instr.index, asIntOf, run_underlying hu, hn, run_sizeOf hti, hsz, h1]
    · cases e
  · cases e

theorem ln_sound {t ty : Nat} {k : K} (hk : KindOk P t k) {x v : AV} {cx : Value} (hx : Rep G x cx) (e : ln k x = some v) :
    ∃ cv, (Builtin.len_ #[t] ty #[cx]).run P w = .ok cv w ∧ Rep G v cv := by
  unfold ln at e
  split at e
  · cases e
    cases hx with
    | sv hx =>
    cases hx
    have hu : P.underlying t = some .string := hk
    rename_i s
    have hs : (⟨s.toArray⟩ : ByteArray).size = s.length := by simp [ByteArray.size]
    refine ⟨.int .i64 s.length, ?_, .sv (.int _ _)⟩
    simp only [Builtin.len_, goInt]
    simp [run_underlying hu, hs]
  · cases e
    obtain ⟨hu, _⟩ := hk
    cases hx with
    | sv hx =>
    cases hx with
    | slice0 => exact ⟨_, by simp [Builtin.len_, run_underlying hu, goInt], .sv (.int _ _)⟩
    | slice => exact ⟨_, by simp [Builtin.len_, run_underlying hu, goInt], .sv (.int _ _)⟩
  · cases e
    obtain ⟨hu, _⟩ := hk
    cases hx with
    | nil => exact ⟨_, by simp [Builtin.len_, run_underlying hu, goInt], .sv (.int _ _)⟩
  · cases e
    obtain ⟨hu, _⟩ := hk
    cases hx with
    | own => exact ⟨_, by simp [Builtin.len_, run_underlying hu, goInt], .sv (.int _ _)⟩
  · cases e

theorem ex_sound {i : Nat} {x v : AV} {cx : Value} (hx : Rep G x cx) (e : ex i x = some v) : ∃ cv, (Instr.extract cx i).run P w = .ok cv w ∧ Rep G v cv := by
  unfold ex at e
  split at e
  · cases hx with
    | tuple cs vs e1 hc =>
      have hlt := (List.getElem?_eq_some_iff.1 e).1
      rw [e1] at hlt
      refine ⟨vs[i], ?_, hc i v _ e (List.getElem?_eq_getElem hlt)⟩
      simp [Instr.extract, hlt]
  · cases e

end
end Go.Proofs.Ytmhamnnfcmkcfaa

/- Arithmetic, comparisons, conversions. -/
namespace Go.Proofs.Ytmhamnnfcmkcfaa
open Go.RowKit

theorem ba_toList (s : List UInt8) : (⟨s.toArray⟩ : ByteArray).toList = s := by
  rw [ByteArray.toList_eq]

theorem ba_append (s t : List UInt8) : (⟨s.toArray⟩ : ByteArray) ++ ⟨t.toArray⟩ = ⟨(s ++ t).toArray⟩ := by
  apply ByteArray.ext
  simp

theorem ba_size (s : List UInt8) : (⟨s.toArray⟩ : ByteArray).size = s.length := by simp [ByteArray.size]

theorem ba_beq (s t : List UInt8) : ((⟨s.toArray⟩ : ByteArray) == ⟨t.toArray⟩) = (s == t) := by
  show (s.toArray == t.toArray) = (s == t)
  simp

section
variable {P : Program} {B : Nat} {G : Gh} {h : Heap} {w : World}

theorem eqCells_vals : ∀ (ks : List EK) (xs ys : List AV) (vs us : List Value) (b : Bool), RepL G xs vs → RepL G ys us → eqCells ks xs ys = some b → eqVals ks vs us = some b := by
  intro ks
  induction ks with
  | nil =>
    intro xs ys vs us b h1 h2 e
    cases xs <;> cases ys <;> first | (simp [eqCells] at e; done) | skip
    have : vs = [] := List.eq_nil_of_length_eq_zero h1.1.symm
    have : us = [] := List.eq_nil_of_length_eq_zero h2.1.symm
    subst_vars
    simpa [eqCells, eqVals] using e
  | cons k ks ih =>
    intro xs ys vs us b h1 h2 e
    cases xs with
    | nil => simp [eqCells] at e
    | cons x xs =>
    cases ys with
    | nil => simp [eqCells] at e
    | cons y ys =>
    obtain ⟨v, vs', rfl, hv, g1⟩ := h1.uncons
    obtain ⟨u, us', rfl, hu, g2⟩ := h2.uncons
    have hx : ∃ s, x = .sv s := by
      cases x with
      | sv s => exact ⟨s, rfl⟩
      | _ => cases k <;> simp [eqCells] at e
    have hy : ∃ s, y = .sv s := by
      obtain ⟨s, rfl⟩ := hx
      cases y with
      | sv s' => exact ⟨s', rfl⟩
      | _ => cases k <;> cases s <;> simp [eqCells] at e
    obtain ⟨s, rfl⟩ := hx
    obtain ⟨s', rfl⟩ := hy
    cases hv with | sv hv =>
    cases hu with | sv hu =>
    cases k with
    | bool =>
      cases s <;> cases s' <;> first | (simp [eqCells] at e; done) | skip
      cases hv; cases hu
      simp only [eqCells] at e
      obtain ⟨r, hr, e⟩ := Option.bind_eq_some_iff.1 e
      simp [eqVals, ih _ _ _ _ _ g1 g2 hr]
      simpa using e
    | int k =>
      cases s <;> cases s' <;> first | (simp [eqCells] at e; done) | skip
      cases hv; cases hu
      simp only [eqCells] at e
      split at e
      · rename_i hk
        obtain ⟨r, hr, e⟩ := Option.bind_eq_some_iff.1 e
        simp [eqVals, ih _ _ _ _ _ g1 g2 hr, hk]
        simpa using e
      · cases e
    | str =>
      cases s <;> cases s' <;> first | (simp [eqCells] at e; done) | skip
      cases hv; cases hu
      simp only [eqCells] at e
      obtain ⟨r, hr, e⟩ := Option.bind_eq_some_iff.1 e
      simp [eqVals, ih _ _ _ _ _ g1 g2 hr, ba_beq]
      simpa using e

theorem run_equal_bool {t : Nat} (hu : P.underlying t = some .bool) (a b : Bool) : (Op.equal t (.bool a) (.bool b)).run P w = .ok (a == b) w := by
  have key : ∀ d, (Op.equalIn (d + 1) t (.bool a) (.bool b)).run P w = .ok (a == b) w := fun d => by simp [Op.equalIn, run_underlying hu]
  exact key 9999

theorem bin_sound {t : Nat} {k : K} (hk : KindOk P t k) {op : BinOp} {x y v : AV} {cx cy : Value} (X Y : Operand) (hx : Rep G x cx) (hy : Rep G y cy) (e : bin op k x y = some v) :
    ∃ cv, (do eqGuard op t X Y cx cy; binOp op t cx cy : Sem Value).run P w = .ok cv w ∧ Rep G v cv := by
  unfold bin at e
  split at e
  · cases hx with | sv hx =>
    cases hx
    cases hy with | sv hy =>
    cases hy
    unfold binI at e
    split at e <;> (repeat' split at e) <;> first
      | (cases e; done)
      | (cases e
         refine ⟨_, ?_, .sv (by first | exact .int _ _ | exact .bool _)⟩
         simp_all [eqGuard, binOp, Op.shift, Op.intArith, Op.intDiv, Op.intBits, Op.intCmp]
         try (intros; omega)
         done)
  · cases hx with | sv hx =>
    cases hx
    cases hy with | sv hy =>
    cases hy
    unfold binS at e
    split at e <;> (repeat' split at e) <;> first
      | (cases e; done)
      | skip
    · cases e
      rename_i a b _ hab
      refine ⟨_, ?_, .sv (.str _)⟩
      simp [eqGuard, binOp, Op.stringOp, ba_size, IntKind.max, IntKind.signed, IntKind.bits, ba_append]
      omega
    · cases e
      refine ⟨_, ?_, .sv (.bool _)⟩
      simp [eqGuard, binOp, Op.stringOp]
    · cases e
      refine ⟨_, ?_, .sv (.bool _)⟩
      simp [eqGuard, binOp, Op.stringOp]
  · cases hx with | sv hx =>
    cases hx
    cases hy with | sv hy =>
    cases hy
    split at e <;> first
      | (cases e; done)
      | (cases e
         refine ⟨_, ?_, .sv (.bool _)⟩
         have hu : P.underlying t = some .bool := hk
         simp [eqGuard, binOp, run_equal_bool hu])
  · cases hx with | agg _ vs e1 h1 =>
    cases hy with | agg _ us e2 h2 =>
    rename_i xs ys
    have key : ∀ eq, EqOk P t eq → eqAgg op eq xs ys = some v → ∃ cv, (do eqGuard op t X Y (.agg vs.toArray) (.agg us.toArray); binOp op t (.agg vs.toArray) (.agg us.toArray) : Sem Value).run P w = .ok cv w ∧ Rep G v cv := by
      intro eq hq e
      unfold eqAgg at e
      split at e
      · obtain ⟨r, hr, e⟩ := Option.bind_eq_some_iff.1 e
        cases e
        obtain ⟨g1, g2⟩ := hq _ rfl
        have := g2 w vs us r (eqCells_vals _ _ _ _ _ _ ⟨e1, h1⟩ ⟨e2, h2⟩ hr)
        exact ⟨_, by simp [eqGuard, g1, binOp, this], .sv (.bool _)⟩
      · obtain ⟨r, hr, e⟩ := Option.bind_eq_some_iff.1 e
        cases e
        obtain ⟨g1, g2⟩ := hq _ rfl
        have := g2 w vs us r (eqCells_vals _ _ _ _ _ _ ⟨e1, h1⟩ ⟨e2, h2⟩ hr)
        exact ⟨_, by simp [eqGuard, g1, binOp, this], .sv (.bool _)⟩
      · cases e
    split at e
    · exact key _ hk.2 e
    · exact key _ hk.2 e
    · cases e
  · cases e

theorem un_sound {op : UnOp} {x v : AV} {cx : Value} (hx : Rep G x cx) (e : un op x = some v) : ∃ cv, (Op.unary op cx).run P w = .ok cv w ∧ Rep G v cv := by
  unfold un at e
  split at e
  · cases e
    cases hx with | sv hx =>
    cases hx
    exact ⟨_, by simp [Op.unary, Op.intArith], .sv (.int _ _)⟩
  · cases e
    cases hx with | sv hx =>
    cases hx
    exact ⟨_, by simp [Op.unary], .sv (.bool _)⟩
  · cases e

end
end Go.Proofs.Ytmhamnnfcmkcfaa

/- Cuts, conversions, structs and arrays out of parts. -/
namespace Go.Proofs.Ytmhamnnfcmkcfaa
open Go.RowKit

section
variable {P : Program} {B : Nat} {G : Gh} {h : Heap} {w : World}

/-- An operand that may be lacking. -/
def RepO (G : Gh) (x : Option AV) (cx : Option Value) : Prop := (x = none ∧ cx = none) ∨ ∃ v c, x = some v ∧ cx = some c ∧ Rep G v c

theorem sliceBound_run {k : IntKind} {n : Int} {y : Nat} (h0 : 0 ≤ n) (h1 : n ≤ (y : Int)) (code : BoundsCode) : (Instr.sliceBound (.int k n) y code).run P w = .ok n.toNat w := by
  simp [Instr.sliceBound, asIntOf, h0, h1]

theorem bound_sound {y d l cap : Nat} {x : Option AV} {cx : Option Value} (hx : RepO G x cx) (e : bound y d x = some l) (hcap : y ≤ cap) :
    (x = none ∧ cx = none ∧ l = d) ∨ ∃ k n, cx = some (.int k n) ∧ 0 ≤ n ∧ n ≤ (cap : Int) ∧ n ≤ (y : Int) ∧ n.toNat = l := by
  unfold bound at e
  split at e
  · rcases hx with ⟨-, h⟩ | ⟨v, c, h, -⟩
    · cases e
      exact .inl ⟨rfl, h, rfl⟩
    · cases h
  · split at e
    · rename_i hb
      cases e
      rcases hx with ⟨h, -⟩ | ⟨v, c, h, hc, hr⟩
      · cases h
      · cases h
        cases hr with | sv hr =>
        cases hr
        exact .inr ⟨_, _, hc, hb.1, by omega, hb.2, rfl⟩
    · cases e
  · cases e

theorem sliceBounds_run (isSlice : Bool) {len cap h l : Nat} {lo hi : Option AV} {clo chi : Option Value} (hlo : RepO G lo clo) (hhi : RepO G hi chi) (hcap : len ≤ cap)
    (e1 : bound len len hi = some h) (e2 : bound h 0 lo = some l) :
    (Instr.sliceBounds isSlice len cap clo chi none).run P w = .ok (l, h, cap) w ∧ h ≤ len ∧ l ≤ h := by
  have hh := bound_sound hhi e1 hcap
  have hl := bound_sound hlo e2 (Nat.le_refl _)
  rcases hh with ⟨rfl, rfl, rfl⟩ | ⟨k, n, rfl, h0, h1, h2, rfl⟩
  · rcases hl with ⟨rfl, rfl, rfl⟩ | ⟨k', n', rfl, h0', h1', h2', rfl⟩
    · simp [Instr.sliceBounds]
    · refine ⟨?_, by omega, by omega⟩
      simp [Instr.sliceBounds, sliceBound_run h0' h1']
  · rcases hl with ⟨rfl, rfl, rfl⟩ | ⟨k', n', rfl, h0', h1', h2', rfl⟩
    · refine ⟨?_, by omega, by omega⟩
      simp [Instr.sliceBounds, sliceBound_run h0 h1]
    · refine ⟨?_, by omega, by omega⟩
      simp [Instr.sliceBounds, sliceBound_run h0 h1, sliceBound_run h0' h1']

theorem ba_extract (s : List UInt8) (l h : Nat) : (⟨s.toArray⟩ : ByteArray).extract l h = ⟨((s.take h).drop l).toArray⟩ := by
  apply ByteArray.ext
  simp [List.drop_take]

theorem RepS.slice_part {S : Settled} {xs : List (List SV)} {a : Option Addr} {len cap : Nat} {esz l h : Nat} (hr : RepS S (.slice xs) (.slice a len cap)) (hsz : ∀ c ∈ xs, c.length = esz) (hh : h ≤ xs.length) (hl : l ≤ h) :
    len = xs.length ∧ xs.length ≤ cap ∧ RepS S (.slice ((xs.take h).drop l)) (.slice (if cap = l then a else a.map (·.add (l * esz))) (h - l) (cap - l)) := by
  have hlen : ((xs.take h).drop l).length = h - l := by simp; omega
  cases hr with
  | slice0 a cap =>
    have : h = 0 := by simpa using hh
    have : l = 0 := by omega
    subst_vars
    exact ⟨rfl, by simp, .slice0 _ _⟩
  | slice _ b o cap esz' vs hcap hsz' hS hr =>
    refine ⟨rfl, hcap, ?_⟩
    by_cases hlt : l < h
    · rw [if_neg (by omega)]
      have hne : esz' = esz := by
        have hm : xs[0]'(by omega) ∈ xs := List.getElem_mem _
        rw [← hsz _ hm, hsz' _ hm]
      subst hne
      have hi : ∀ i, ((xs.take h).drop l)[i]? = if i < h - l then xs[l + i]? else none := by
        intro i
        rw [List.getElem?_drop, List.getElem?_take]
        by_cases q : l + i < h
        · rw [if_pos q, if_pos (by omega)]
        · rw [if_neg q, if_neg (by omega)]
      have key := RepS.slice (S := S) ((xs.take h).drop l) b (o + l * esz') (cap - l) esz' (fun i j => vs (l + i) j) (by omega)
        (fun c hc => hsz' c (List.mem_of_mem_take (List.mem_of_mem_drop hc)))
        (fun i j h1 h2 => by
          have := hS (l + i) j (by omega) h2
          rw [show o + l * esz' + i * esz' + j = o + (l + i) * esz' + j by rw [Nat.add_mul]; omega]
          exact this)
        (fun i j c s h1 h2 => by
          rw [hi] at h1
          split at h1
          · exact hr _ _ _ _ h1 h2
          · cases h1)
      rw [hlen] at key
      have ha : (some (⟨b, o, none⟩ : Addr)).map (·.add (l * esz')) = some ⟨b, o + l * esz', none⟩ := by
        simp only [Option.map_some, Addr.add]
        split
        · rename_i h0; simp [h0]
        · rfl
      rw [ha]
      exact key
    · have : l = h := by omega
      subst this
      have : (xs.take l).drop l = [] := by simp
      rw [this, Nat.sub_self]
      exact .slice0 _ _

theorem sl_sound {t : Nat} {k : K} (hk : KindOk P t k) {x v : AV} {lo hi : Option AV} {cx : Value} {clo chi : Option Value} (hx : Rep G x cx) (hlo : RepO G lo clo) (hhi : RepO G hi chi)
    (hI : ∀ id L e cs wr, G.loc id = some L → h[id]? = some (.cells e cs wr) → L.esz = e)
    (e : sl k x lo hi h = some v) : ∃ cv, (Instr.sliceAt t cx clo chi none).run P w = .ok cv w ∧ Rep G v cv := by
  unfold sl at e
  split at e
  · obtain ⟨m, e1, e⟩ := Option.bind_eq_some_iff.1 e
    obtain ⟨l, e2, e⟩ := Option.bind_eq_some_iff.1 e
    cases e
    cases hx with | sv hx =>
    cases hx
    rename_i s
    have hu : P.underlying t = some .string := hk
    have hb := sliceBounds_run (P := P) (w := w) false hlo hhi (Nat.le_refl _) e1 e2
    refine ⟨_, ?_, .sv (.str _)⟩
    simp [Instr.sliceAt, Instr.slice, run_underlying hu, ba_size, hb.1, ba_extract]
  · split at e
    · rename_i hsz
      obtain ⟨m, e1, e⟩ := Option.bind_eq_some_iff.1 e
      obtain ⟨l, e2, e⟩ := Option.bind_eq_some_iff.1 e
      cases e
      obtain ⟨hu, ⟨ti, hti, hsize, -⟩, -⟩ := hk
      have hsz' := fun c hc => eq_of_beq (List.all_eq_true.1 hsz c hc)
      cases hx with | sv hx =>
      have hform : ∃ a len cap, cx = .slice a len cap := by cases hx <;> exact ⟨_, _, _, rfl⟩
      obtain ⟨a, len, cap, rfl⟩ := hform
      have hlc : len = _ ∧ _ ≤ cap := ⟨(hx.slice_part hsz' (Nat.zero_le _) (Nat.le_refl 0)).1, (hx.slice_part hsz' (Nat.zero_le _) (Nat.le_refl 0)).2.1⟩
      obtain ⟨rfl, hcap⟩ := hlc
      have hb := sliceBounds_run (P := P) (w := w) true hlo hhi hcap e1 e2
      have hp := hx.slice_part hsz' hb.2.1 hb.2.2
      refine ⟨_, ?_, .sv hp.2.2⟩
      simp [Instr.sliceAt, Instr.slice, run_underlying hu, hb.1, run_sizeOf hti, hsize]
    · cases e
  · obtain ⟨m, e1, e⟩ := Option.bind_eq_some_iff.1 e
    obtain ⟨l, e2, e⟩ := Option.bind_eq_some_iff.1 e
    cases e
    obtain ⟨hu, ⟨ti, hti, hsize, -⟩, -⟩ := hk
    cases hx
    have hb := sliceBounds_run (P := P) (w := w) true hlo hhi (Nat.le_refl _) e1 e2
    have h1 : m = 0 := by omega
    have h2 : l = 0 := by omega
    subst h1; subst h2
    rename_i a
    refine ⟨.slice a 0 0, ?_, .nil _⟩
    simp [Instr.sliceAt, Instr.slice, run_underlying hu, hb.1, run_sizeOf hti, hsize]
  · obtain ⟨m, e1, e⟩ := Option.bind_eq_some_iff.1 e
    obtain ⟨l, e2, e⟩ := Option.bind_eq_some_iff.1 e
    obtain ⟨hu, ⟨ti, hti, hsize, -⟩, -⟩ := hk
    cases hx with
    | own _ _ _ cap L hL hcap hext =>
    rename_i elem esz bytes byte id off len e0 e1'
    have hb := sliceBounds_run (P := P) (w := w) true hlo hhi hcap e1 e2
    have hrun : (Instr.sliceAt t (.slice (some ⟨L.b, L.o + off, none⟩) len cap) clo chi none).run P w =
        .ok (.slice (if cap = l then some ⟨L.b, L.o + off, none⟩ else some (Addr.add ⟨L.b, L.o + off, none⟩ (l * ti.size))) (m - l) (cap - l)) w := by
      simp [Instr.sliceAt, Instr.slice, run_underlying hu, hb.1, run_sizeOf hti]
    refine ⟨_, hrun, ?_⟩
    split at e
    · rename_i hl
      cases e
      subst hl
      have : (if cap = 0 then some (⟨L.b, L.o + off, none⟩ : Addr) else some (Addr.add ⟨L.b, L.o + off, none⟩ (0 * ti.size))) = some ⟨L.b, L.o + off, none⟩ := by
        split <;> simp [Addr.add]
      rw [this]
      exact .own id off m cap L hL (by omega) hext
    · split at e
      · split at e
        · split at e
          · rename_i hl0 hl _ _ _ _ hid he
            cases e
            have hesz := hI _ _ _ _ _ hL hid
            rw [if_neg (by omega)]
            have : (Addr.add ⟨L.b, L.o + off, none⟩ (l * ti.size)) = ⟨L.b, L.o + (off + l * esz), none⟩ := by
              rw [hsize]
              simp only [Addr.add, Nat.add_assoc]
              split
              · rename_i h0; simp [h0]
              · rfl
            rw [this]
            refine .own id (off + l * esz) (m - l) (cap - l) L hL (by omega) ?_
            rw [hesz, he] at hext ⊢
            rw [Nat.sub_mul]
            have : l * esz ≤ cap * esz := Nat.mul_le_mul_right _ (by omega)
            omega
          · cases e
        · cases e
      · cases e
        have : m - l = 0 := by omega
        rw [this]
        exact .sv (.slice0 _ _)
  · cases e

theorem cv_sound {s t : Nat} {k : K} (hk : KindOk P t k) (hs : ∃ d, P.underlying s = some d) {x v : AV} {cx : Value} (hx : Rep G x cx) (e : cv k x = some v) :
    ∃ c, (convert s t cx).run P w = .ok c w ∧ Rep G v c := by
  obtain ⟨d, hd⟩ := hs
  unfold cv at e
  split at e
  · cases e
    cases hx with | sv hx =>
    cases hx
    have hu : P.underlying t = some (.int _) := hk
    refine ⟨_, ?_, .sv (.int _ _)⟩
    simp [convert, run_underlying hd, run_underlying hu, Conv.intToInt]
  · split at e
    · rename_i hn
      cases e
      cases hx with | sv hx =>
      cases hx
      have hu : P.underlying t = some .string := hk
      refine ⟨_, ?_, .sv (.str _)⟩
      rename_i n
      have h1 : Utf8.valid n = true := by simp [Utf8.valid]; omega
      have h2 : n.toNat < 0x80 := by omega
      simp [convert, run_underlying hd, run_underlying hu, Conv.intToString, Utf8.encode, h1, h2]
    · cases e
  · cases e


theorem foldl_splice (off : Nat) : ∀ (vs : List Value) (k : Nat) (cs : Array Value), off + k + vs.length ≤ cs.size →
    ((vs.zipIdx k).foldl (fun cs (p : Value × Nat) => cs.setIfInBounds (off + p.2) p.1) cs).size = cs.size ∧
    ∀ i, ((vs.zipIdx k).foldl (fun cs (p : Value × Nat) => cs.setIfInBounds (off + p.2) p.1) cs)[i]? = if off + k ≤ i ∧ i < off + k + vs.length then vs[i - (off + k)]? else cs[i]? := by
  intro vs
  induction vs with
  | nil => intro k cs h; refine ⟨rfl, fun i => ?_⟩; rw [if_neg (by simp)]; rfl
  | cons v vs ih =>
    intro k cs h
    simp only [List.length_cons] at h
    simp only [List.zipIdx_cons, List.foldl_cons]
    obtain ⟨h1, h2⟩ := ih (k + 1) (cs.setIfInBounds (off + k) v) (by simp; omega)
    refine ⟨by rw [h1]; simp, fun i => ?_⟩
    rw [h2 i]
    by_cases q : off + k = i
    · subst q
      have hlt : off + k < cs.size := by omega
      rw [if_neg (by omega), if_pos (by simp), Nat.sub_self]
      simp [hlt]
    · rw [Array.getElem?_setIfInBounds_ne q]
      by_cases q2 : off + (k + 1) ≤ i ∧ i < off + (k + 1) + vs.length
      · rw [if_pos q2, if_pos (by simp; omega)]
        rw [show i - (off + k) = (i - (off + (k + 1))) + 1 by omega]
        simp
      · rw [if_neg q2, if_neg (by simp; omega)]

theorem splice_get {cs vs : List AV} {off : Nat} (h : off + vs.length ≤ cs.length) (i : Nat) : (splice cs off vs)[i]? = if off ≤ i ∧ i < off + vs.length then vs[i - off]? else cs[i]? := by
  unfold splice
  rw [List.append_assoc, List.getElem?_append]
  have : (cs.take off).length = off := by simp; omega
  rw [this]
  split
  · rw [if_neg (by omega), List.getElem?_take, if_pos (by omega)]
  · rw [List.getElem?_append]
    split
    · rw [if_pos (by omega)]
    · rw [if_neg (by omega), List.getElem?_drop]
      congr 1
      omega

theorem splice_length {cs vs : List AV} {off : Nat} (h : off + vs.length ≤ cs.length) : (splice cs off vs).length = cs.length := by
  simp [splice]; omega

theorem splice_rep {cs us : List AV} {cells vs : Array Value} {off : Nat} (hc : RepL G cs cells.toList) (hv : RepL G us vs.toList) (h : off + us.length ≤ cs.length) :
    RepL G (splice cs off us) (vs.zipIdx.foldl (fun cs (p : Value × Nat) => cs.setIfInBounds (off + p.2) p.1) cells).toList := by
  have hl : us.length = vs.size := by simpa using hv.1
  have hl2 : cs.length = cells.size := by simpa using hc.1
  have hz : vs.zipIdx.foldl (fun cs (p : Value × Nat) => cs.setIfInBounds (off + p.2) p.1) cells = (vs.toList.zipIdx 0).foldl (fun cs (p : Value × Nat) => cs.setIfInBounds (off + p.2) p.1) cells := by
    rw [← Array.foldl_toList]
    simp
  obtain ⟨h1, h2⟩ := foldl_splice off vs.toList 0 cells (by simp; omega)
  rw [hz]
  refine ⟨by rw [splice_length h]; simp only [Array.length_toList]; rw [h1]; exact hl2, fun j c v e1 e2 => ?_⟩
  rw [splice_get h] at e1
  rw [Array.getElem?_toList, h2 j] at e2
  simp only [Nat.add_zero, Array.length_toList] at e2
  split at e1
  · rw [if_pos (by omega)] at e2
    exact hv.2 _ _ _ e1 e2
  · rw [if_neg (by omega)] at e2
    exact hc.2 j _ _ e1 (by simpa using e2)

/-- Parts of a value. -/
def RepP (G : Gh) (ps : List (Nat × AV)) (cps : List (Nat × Value)) : Prop := ps.length = cps.length ∧ ∀ (j : Nat) (a : Nat × AV) (b : Nat × Value), ps[j]? = some a → cps[j]? = some b → a.1 = b.1 ∧ Rep G a.2 b.2

theorem fill_sound {place place' : Nat → Option (Nat × Nat)} (hp : ∀ i p, place i = some p → place' i = some p) : ∀ (ps : List (Nat × AV)) (cps : List (Nat × Value)) (cells : List AV) (ccells : Array Value) (r : List AV),
    RepP G ps cps → RepL G cells ccells.toList → (∀ c ∈ cells, cell1 c = true) → fillA place cells ps = some r →
    ∃ cr, Instr.fill place' ccells cps = some cr ∧ RepL G r cr.toList ∧ ∀ c ∈ r, cell1 c = true := by
  intro ps
  induction ps with
  | nil =>
    intro cps cells ccells r hps hc h1 e
    have : cps = [] := List.eq_nil_of_length_eq_zero hps.1.symm
    subst this
    simp only [fillA, Option.some.injEq] at e
    subst e
    exact ⟨ccells, rfl, hc, h1⟩
  | cons p ps ih =>
    intro cps cells ccells r hps hc h1 e
    cases cps with
    | nil => have := hps.1; simp at this
    | cons cp cps =>
    obtain ⟨i, v⟩ := p
    obtain ⟨ci, cv⟩ := cp
    obtain ⟨hi, hv⟩ := hps.2 0 (i, v) (ci, cv) rfl rfl
    simp only at hi hv
    subst hi
    simp only [fillA] at e
    split at e
    · rename_i off n vs e1 e2
      split at e
      · rename_i hb
        obtain ⟨hL, hcell, hone⟩ := hv.cells e2
        have hlen : vs.length = cv.cells.size := by simpa using hL.1
        have hcl : cells.length = ccells.size := by simpa using hc.1
        obtain ⟨cr, hr, hrL, hr1⟩ := ih cps (splice cells off vs) _ r ⟨by have := hps.1; simpa using this, fun j a b g1 g2 => hps.2 (j + 1) a b (by simpa using g1) (by simpa using g2)⟩
          (splice_rep hc hL (by omega)) (by
            intro c hc'
            obtain ⟨j, hj⟩ := List.mem_iff_getElem?.1 hc'
            rw [splice_get (by omega)] at hj
            split at hj
            · exact hcell c (List.mem_of_getElem? hj)
            · exact h1 c (List.mem_of_getElem? hj)) e
        refine ⟨cr, ?_, hrL, hr1⟩
        simp only [Instr.fill, hp _ _ e1]
        rw [if_neg (by simp; omega)]
        exact hr
      · cases e
    · cases e

end
end Go.Proofs.Ytmhamnnfcmkcfaa

/- All operations that only compute. -/
namespace Go.Proofs.Ytmhamnnfcmkcfaa
open Go.RowKit

section
variable {P : Program} {T : Tab} {B : Nat} {G : Gh} {h : Heap} {w : World}

theorem mapM_all {α β : Type} {f : α → Option β} {g : α → β} : ∀ (l : List α), (∀ x ∈ l, f x = some (g x)) → l.mapM f = some (l.map g)
  | [], _ => rfl
  | x :: l, h => by
    rw [List.mapM_cons, h x (by simp), mapM_all l (fun y hy => h y (by simp [hy]))]
    rfl

theorem bdA_sound (hT : TabOk P T) {t : Nat} {ps : List (Nat × AV)} {cps : Array (Nat × Value)} {v : AV} (hp : RepP G ps cps.toList) (e : bdA T t ps = some v) :
    ∃ cv, (Instr.build t cps).run P w = .ok cv w ∧ Rep G v cv := by
  unfold bdA at e
  split at e
  · rename_i z eq hz hk
    obtain ⟨cs, e1, e2⟩ := Option.bind_eq_some_iff.1 e
    cases e2
    obtain ⟨i, zv, hi, hzv, hsz, hone, hrep, -⟩ := hT.zero _ _ hz
    obtain ⟨⟨fs, hu⟩, -⟩ := hT.kind _ _ hk
    have hm : fs.toList.mapM (fun f => (P.info? f.type).map fun i => (f.offset, i.size)) = some (fs.toList.map fun f => (f.offset, ((P.info? f.type).map (·.size)).getD 0)) := by
      apply mapM_all
      intro f hf
      obtain ⟨i, hi⟩ := hT.fields _ _ _ hz hu f (by simpa using hf)
      simp [hi]
    obtain ⟨cr, hr, hL, -⟩ := fill_sound (G := G) (place' := fun x => ((fs.toList.map fun f => (f.offset, ((P.info? f.type).map (·.size)).getD 0)).toArray[x]?)) (by
        intro j p hj
        obtain ⟨q, hq, hj⟩ := Option.bind_eq_some_iff.1 hj
        cases hj
        obtain ⟨fs', f, hu', hf, hoff, -, i, d, hfi, hsz, -⟩ := hT.field _ _ _ _ _ hq
        rw [hu] at hu'
        cases hu'
        simp [hf, hfi, hoff, hsz]) ps cps.toList z zv.cells cs hp (hrep G) (fun c hc => List.all_eq_true.1 hone c hc) e1
    refine ⟨.agg cr, run_build w t cps cr ?_, ?_⟩
    · simp only [Program.built, hi, hu, hzv, hm]
      exact hr
    · exact .agg _ cr.toList hL.1 hL.2
  · rename_i z m esz agg eq hz hk
    obtain ⟨cs, e1, e2⟩ := Option.bind_eq_some_iff.1 e
    cases e2
    obtain ⟨i, zv, hi, hzv, hsz, hone, hrep, -⟩ := hT.zero _ _ hz
    obtain ⟨⟨el, hu, ie, d, hie, hes, -⟩, -⟩ := hT.kind _ _ hk
    obtain ⟨cr, hr, hL, -⟩ := fill_sound (G := G) (place' := fun i => some (i * ie.size, ie.size)) (by
        intro j p hj
        split at hj
        · cases hj; rw [hes]
        · cases hj) ps cps.toList z zv.cells cs hp (hrep G) (fun c hc => List.all_eq_true.1 hone c hc) e1
    refine ⟨.agg cr, run_build w t cps cr ?_, ?_⟩
    · simp only [Program.built, hi, hu, hzv, hie]
      exact hr
    · exact .agg _ cr.toList hL.1 hL.2
  · cases e

theorem evParts_rep {tm : Tm} {a : Act} (ht : RepT G tm a.tmps) (ps : Array (Nat × Operand)) : RepP G (evParts tm ps) (ps.map fun (i, x) => (i, a.eval x)).toList := by
  refine ⟨by simp [evParts], fun j p q h1 h2 => ?_⟩
  simp only [evParts, List.getElem?_map, Option.map_eq_some_iff, Array.toList_map] at h1 h2
  obtain ⟨r, hr, rfl⟩ := h1
  obtain ⟨r', hr', rfl⟩ := h2
  rw [hr] at hr'
  cases hr'
  exact ⟨rfl, ev_rep ht _⟩

theorem evList_rep {tm : Tm} {a : Act} (ht : RepT G tm a.tmps) (xs : Array Operand) : RepL G (xs.toList.map (ev tm)) (xs.map a.eval).toList := by
  refine ⟨by simp, fun j p q h1 h2 => ?_⟩
  simp only [List.getElem?_map, Option.map_eq_some_iff, Array.toList_map] at h1 h2
  obtain ⟨r, hr, rfl⟩ := h1
  obtain ⟨r', hr', rfl⟩ := h2
  rw [hr] at hr'
  cases hr'
  exact ev_rep ht _

theorem evO_rep {tm : Tm} {a : Act} (ht : RepT G tm a.tmps) (x : Option Operand) : RepO G (x.map (ev tm)) (x.map a.eval) := by
  cases x with
  | none => exact .inl ⟨rfl, rfl⟩
  | some x => exact .inr ⟨_, _, rfl, rfl, ev_rep ht x⟩

theorem asB_rep {v : AV} {cv : Value} {b : Bool} (h : Rep G v cv) (e : asB v = some b) : cv = .bool b := by
  unfold asB at e
  split at e
  · cases e
    cases h with | sv h =>
    cases h
    rfl
  · cases e

theorem nc_sound {x v : AV} {cx : Value} (hx : Rep G x cx) (e : nc x = some v) : v = x ∧ ((∃ ad, cx = .pointer (some ad)) ∨ ∃ f a b, cx = .func (.func f) a b) := by
  unfold nc at e
  split at e <;> first | (cases e; done) | skip
  · cases e
    cases hx
    exact ⟨rfl, .inl ⟨_, rfl⟩⟩
  · cases e
    cases hx
    exact ⟨rfl, .inl ⟨_, rfl⟩⟩
  · cases e
    cases hx
    exact ⟨rfl, .inr ⟨_, _, _, rfl⟩⟩

theorem Inv.esz (hI : Inv B G h w) : ∀ id L e cs wr, G.loc id = some L → h[id]? = some (.cells e cs wr) → L.esz = e := by
  intro id L e cs wr h1 h2
  obtain ⟨L', h3, h4, -⟩ := hI.cells _ _ _ _ h2
  rw [h1] at h3
  cases h3
  exact h4

theorem evPure_sound (hT : TabOk P T) {tm : Tm} {a : Act} (ht : RepT G tm a.tmps) (hI : Inv B G h w) {o : Oper} {v : AV} (e : evPure T tm h o.op = some v) :
    ∃ cv, (execOp a.eval o).run P w = .ok (.value cv) w ∧ Rep G v cv := by
  obtain ⟨dst, op, ty, pos, after, guard⟩ := o
  simp only at e
  unfold evPure at e
  split at e
  · cases e
    exact ⟨_, by simp [execOp], ev_rep ht _⟩
  · cases e
    exact ⟨_, by simp [execOp], ev_rep ht _⟩
  · obtain ⟨b, e1, e⟩ := Option.bind_eq_some_iff.1 e
    cases e
    rename_i c x y
    have hc := asB_rep (ev_rep ht c) e1
    refine ⟨if b then a.eval x else a.eval y, ?_, ?_⟩
    · simp [execOp, hc, asBool]
    · cases b
      · exact ev_rep ht y
      · exact ev_rep ht x
  · obtain ⟨cv, h1, h2⟩ := bdA_sound (w := w) hT (evParts_rep ht _) e
    exact ⟨cv, by simp [execOp, h1], h2⟩
  · obtain ⟨z, e1, e⟩ := Option.bind_eq_some_iff.1 e
    obtain ⟨cv, h1, h2⟩ := ld_sound hI (hT.size _ _ _ e1) (ev_rep ht _) e
    exact ⟨cv, by simp [execOp, h1], h2⟩
  · rename_i x
    obtain ⟨rfl, hc⟩ := nc_sound (ev_rep ht x) e
    refine ⟨a.eval x, ?_, ev_rep ht x⟩
    rcases hc with ⟨ad, hc⟩ | ⟨f, p, q, hc⟩ <;> simp [execOp, hc]
  · obtain ⟨k, e1, e⟩ := Option.bind_eq_some_iff.1 e
    rename_i op t x y _ _
    obtain ⟨cv, h1, h2⟩ := bin_sound (P := P) (w := w) (hT.kind _ _ e1) x y (ev_rep ht x) (ev_rep ht y) e
    refine ⟨cv, ?_, h2⟩
    simp only [execOp]
    rw [Sem.run_bind, h1]
    simp
  · obtain ⟨cv, h1, h2⟩ := un_sound (P := P) (w := w) (ev_rep ht _) e
    exact ⟨cv, by simp [execOp, h1], h2⟩
  · obtain ⟨z, e0, e⟩ := Option.bind_eq_some_iff.1 e
    obtain ⟨k, e1, e⟩ := Option.bind_eq_some_iff.1 e
    obtain ⟨i, d, -, -, hd, -⟩ := hT.size _ z.1 z.2 e0
    obtain ⟨cv, h1, h2⟩ := cv_sound (P := P) (w := w) (hT.kind _ _ e1) ⟨d, hd⟩ (ev_rep ht _) e
    exact ⟨cv, by simp [execOp, h1], h2⟩
  · cases e
    rename_i f first caps
    refine ⟨.func (.func f) (first.map a.eval) (caps.map a.eval), by simp [execOp, Instr.makeFunc], ?_⟩
    have h1 := evList_rep ht first
    have h2 := evList_rep ht caps
    have := Rep.func f _ _ _ _ h1.1 h2.1 h1.2 h2.2
    rwa [Array.toArray_toList, Array.toArray_toList] at this
  · obtain ⟨k, e1, e⟩ := Option.bind_eq_some_iff.1 e
    obtain ⟨cv, h1, h2⟩ := sl_sound (P := P) (w := w) (hT.kind _ _ e1) (ev_rep ht _) (evO_rep ht _) (evO_rep ht _) hI.esz e
    exact ⟨cv, by simp [execOp, h1], h2⟩
  · obtain ⟨f, e1, e⟩ := Option.bind_eq_some_iff.1 e
    obtain ⟨cv, h1, h2⟩ := fa_sound (P := P) (w := w) (hT.field _ _ _ _ _ e1) (ev_rep ht _) e
    exact ⟨cv, by simp [execOp, h1], h2⟩
  · obtain ⟨f, e1, e⟩ := Option.bind_eq_some_iff.1 e
    obtain ⟨cv, h1, h2⟩ := fl_sound (P := P) (w := w) (hT.field _ _ _ _ _ e1) (ev_rep ht _) e
    exact ⟨cv, by simp [execOp, h1], h2⟩
  · obtain ⟨k, e1, e⟩ := Option.bind_eq_some_iff.1 e
    obtain ⟨cv, h1, h2⟩ := ia_sound (P := P) (w := w) (hT.kind _ _ e1) (ev_rep ht _) (ev_rep ht _) e
    exact ⟨cv, by simp [execOp, h1], h2⟩
  · obtain ⟨k, e1, e⟩ := Option.bind_eq_some_iff.1 e
    obtain ⟨cv, h1, h2⟩ := ix_sound (P := P) (w := w) (hT.kind _ _ e1) (ev_rep ht _) (ev_rep ht _) e
    exact ⟨cv, by simp [execOp, h1], h2⟩
  · obtain ⟨cv, h1, h2⟩ := ex_sound (P := P) (w := w) (ev_rep ht _) e
    exact ⟨cv, by simp [execOp, h1], h2⟩
  · rename_i xs ts
    split at e
    · rename_i x t hx hts
      obtain ⟨k, e1, e⟩ := Option.bind_eq_some_iff.1 e
      obtain ⟨cv, h1, h2⟩ := ln_sound (P := P) (w := w) (ty := ty) (hT.kind _ _ e1) (ev_rep ht _) e
      have hxs : xs = #[x] := by rw [← Array.toArray_toList (xs := xs), hx]
      have htt : ts = #[t] := by rw [← Array.toArray_toList (xs := ts), hts]
      subst hxs; subst htt
      refine ⟨cv, ?_, h2⟩
      simp [execOp, resolve, invoke, builtin, h1]
    · cases e
  · cases e

end
end Go.Proofs.Ytmhamnnfcmkcfaa

/- What memory's turns do to the invariant: a new object, a store, an object given up. -/
namespace Go.Proofs.Ytmhamnnfcmkcfaa
open Go.RowKit

/-- A turn: more may be known, below B memory stands, and what is newly settled lies from B on. -/
structure Mv (B : Nat) (G : Gh) (w : World) (G' : Gh) (w' : World) : Prop where
  le : GLe G G'
  below : Below B w w'
  fresh : ∀ b o v, G'.S b o = some v → G.S b o = none → B ≤ b

theorem Mv.refl (B : Nat) (G : Gh) (w : World) : Mv B G w G w := ⟨GLe.refl G, Below.refl B w, fun _ _ _ h k => by rw [h] at k; cases k⟩

theorem Mv.trans {B : Nat} {G G' G'' : Gh} {w w' w'' : World} (h : Mv B G w G' w') (k : Mv B G' w' G'' w'') : Mv B G w G'' w'' := by
  refine ⟨h.le.trans k.le, h.below.trans k.below, fun b o v h1 h2 => ?_⟩
  cases e : G'.S b o with
  | none => exact k.fresh b o v h1 e
  | some u => exact h.fresh b o u e h2

section
variable {P : Program} {T : Tab} {B : Nat} {G : Gh} {h : Heap} {w : World}

theorem cell_lt {w : World} {b o : Nat} {v : Value} (h : w.cell? ⟨b, o, none⟩ = some v) : b < w.heap.size := World.block_lt_of_cell? w ⟨b, o, none⟩ h

theorem cell_alloc {w : World} {b o : Nat} {v : Value} (h : w.cell? ⟨b, o, none⟩ = some v) (ob : Obj) : (w.alloc ob).cell? ⟨b, o, none⟩ = some v := by
  rw [World.cell?_alloc_lt _ _ _ (cell_lt h)]; exact h

/-- Where a new object lies. -/
def Gh.put (G : Gh) (id : Nat) (L : Loc) : Gh := ⟨G.S, fun i => if i = id then some L else G.loc i⟩

theorem Gh.put_same (G : Gh) (id : Nat) (L : Loc) : (G.put id L).loc id = some L := by simp [Gh.put]
theorem Gh.put_other (G : Gh) {id i : Nat} (L : Loc) (h : i ≠ id) : (G.put id L).loc i = G.loc i := by simp [Gh.put, h]

theorem Gh.put_le {G : Gh} {id : Nat} (L : Loc) (h : G.loc id = none) : GLe G (G.put id L) :=
  ⟨SLe.refl _, fun i L' e => by
    have : i ≠ id := fun q => by rw [q, h] at e; cases e
    rw [Gh.put_other _ _ this]; exact e⟩

theorem Inv.alloc (hI : Inv B G h w) (esz : Nat) (cs : List AV) (C : Array Value) (e : TypeId) (hlen : cs.length ≤ C.size)
    (hc : ∀ (j : Nat) (c : AV), cs[j]? = some c → cell1 c = true ∧ ∃ v, C[j]? = some v ∧ Rep G c v) :
    Inv B (G.put h.length ⟨w.heap.size, 0, C.size, esz⟩) (h ++ [.cells esz cs true]) (w.alloc (.cells C e)) ∧
    Mv B G w (G.put h.length ⟨w.heap.size, 0, C.size, esz⟩) (w.alloc (.cells C e)) := by
  have hnone := hI.fresh h.length (Nat.le_refl _)
  have hle := Gh.put_le (L := ⟨w.heap.size, 0, C.size, esz⟩) hnone
  have hsz : (w.alloc (.cells C e)).heap.size = w.heap.size + 1 := by simp
  have hold : ∀ id x, (h ++ [Ent.cells esz cs true])[id]? = some x → (id < h.length ∧ id ≠ h.length ∧ h[id]? = some x) ∨ (id = h.length ∧ x = .cells esz cs true) := by
    intro id x hx
    rw [List.getElem?_append] at hx
    split at hx
    · exact .inl ⟨by assumption, by omega, hx⟩
    · rename_i q
      have : id - h.length = 0 := by
        rcases Nat.lt_or_ge (id - h.length) 1 with q2 | q2
        · omega
        · rw [List.getElem?_eq_none (by simpa using q2)] at hx; cases hx
      rw [this] at hx
      simp at hx
      exact .inr ⟨by omega, hx.symm⟩
  refine ⟨⟨?_, ?_, ?_, ?_, ?_, ?_, ?_, ?_⟩, ?_⟩
  · rw [hsz]; have := hI.base; omega
  · intro id L hL
    rw [hsz]
    by_cases q : id = h.length
    · subst q; rw [Gh.put_same] at hL; cases hL; exact Nat.lt_succ_self _
    · rw [Gh.put_other _ _ q] at hL; have := hI.blk _ _ hL; omega
  · intro id hid
    simp at hid
    rw [Gh.put_other _ _ (by omega)]
    exact hI.fresh _ (by omega)
  · intro b o v hv
    exact cell_alloc (hI.set b o v hv) _
  · intro id esz' cs' wr hx
    rcases hold id _ hx with ⟨h1, h2, h3⟩ | ⟨rfl, h2⟩
    · obtain ⟨L, hL, e1, e2, e3, e4⟩ := hI.cells _ _ _ _ h3
      refine ⟨L, by rw [Gh.put_other _ _ h2]; exact hL, e1, e2, ?_, ?_⟩
      · intro j c hj
        obtain ⟨g1, v, g2, g3, g4⟩ := e3 j c hj
        exact ⟨g1, v, cell_alloc g2 _, g3.mono hle, g4⟩
      · intro hw
        obtain ⟨g1, g2⟩ := e4 hw
        refine ⟨g1, fun j hj => ?_⟩
        obtain ⟨k1, k2, k3⟩ := g2 j hj
        obtain ⟨u, hu⟩ := Option.isSome_iff_exists.1 k1
        exact ⟨by rw [cell_alloc hu]; rfl, by rw [frozen?_alloc_cells]; exact k2, k3⟩
    · cases h2
      refine ⟨_, Gh.put_same _ _ _, rfl, hlen, ?_, ?_⟩
      · intro j c hj
        obtain ⟨g1, v, g2, g3⟩ := hc j c hj
        refine ⟨g1, v, ?_, g3.mono hle, fun q => by cases q⟩
        simp only [Nat.zero_add]
        rw [World.cell?_alloc_at _ _ _ _ rfl]
        exact g2
      · intro _
        refine ⟨hI.base, fun j hj => ⟨?_, ?_, ?_⟩⟩
        · simp only [Nat.zero_add]
          rw [World.cell?_alloc_at _ _ _ _ rfl]
          simpa using hj
        · exact World.frozen?_alloc_at _ _ _ _ rfl
        · cases hS : G.S w.heap.size (0 + j) with
          | none => exact hS
          | some v => exact absurd (cell_lt (hI.set _ _ _ hS)) (Nat.lt_irrefl _)
  · intro id id' e1 e2 c1 c2 L L' h1 h2 hne hL hL'
    rcases hold id _ h1 with ⟨a1, a2, a3⟩ | ⟨rfl, a2⟩
    · rw [Gh.put_other _ _ a2] at hL
      rcases hold id' _ h2 with ⟨b1, b2, b3⟩ | ⟨rfl, b2⟩
      · rw [Gh.put_other _ _ b2] at hL'
        exact hI.disj _ _ _ _ _ _ _ _ a3 b3 hne hL hL'
      · rw [Gh.put_same] at hL'; cases hL'
        left
        have := hI.blk _ _ hL
        exact Nat.ne_of_lt this
    · rw [Gh.put_same] at hL; cases hL
      rcases hold id' _ h2 with ⟨b1, b2, b3⟩ | ⟨rfl, b2⟩
      · rw [Gh.put_other _ _ b2] at hL'
        left
        have := hI.blk _ _ hL'
        exact (Nat.ne_of_lt this).symm
      · exact absurd rfl hne
  · intro id es hx
    rcases hold id _ hx with ⟨a1, a2, a3⟩ | ⟨_, a2⟩
    · obtain ⟨L, ces, clock, hL, hB, hb, hl, hr⟩ := hI.maps _ _ a3
      refine ⟨L, ces, clock, by rw [Gh.put_other _ _ a2]; exact hL, hB, ?_, hl, fun j s v en q1 q2 => ?_⟩
      · rw [Below.heap_alloc _ _ _ (hI.blk _ _ hL)]; exact hb
      · obtain ⟨k1, k2, k3⟩ := hr j s v en q1 q2
        exact ⟨k1, k2, k3.mono hle⟩
    · cases a2
  · intro id id' es es' L L' h1 h2 hne hL hL'
    rcases hold id _ h1 with ⟨a1, a2, a3⟩ | ⟨_, a2⟩
    · rcases hold id' _ h2 with ⟨b1, b2, b3⟩ | ⟨_, b2⟩
      · rw [Gh.put_other _ _ a2] at hL
        rw [Gh.put_other _ _ b2] at hL'
        exact hI.mdisj _ _ _ _ _ _ a3 b3 hne hL hL'
      · cases b2
    · cases a2
  · exact ⟨hle, (Below.refl B w).alloc hI.base _, fun _ _ _ q1 q2 => by rw [show G.S _ _ = _ from q1] at q2; cases q2⟩

theorem below_setCells {B b : Nat} (hb : B ≤ b) : ∀ (vs : List Value) (o : Nat) (w : World), Below B w (w.setCells b o vs)
  | [], _, w => Below.refl B w
  | v :: r, o, w => ((Below.refl B w).setCell (p := ⟨b, o, none⟩) hb v).trans (below_setCells hb r (o + 1) _)

theorem size_setCells (b : Nat) : ∀ (vs : List Value) (o : Nat) (w : World), (w.setCells b o vs).heap.size = w.heap.size
  | [], _, _ => rfl
  | v :: r, o, w => by rw [World.setCells, size_setCells b r]; simp

theorem Inv.gone (hI : Inv B G h w) (id : Nat) : Inv B G (h.set id .gone) w := by
  have hold : ∀ (i : Nat) (x : Ent), (h.set id Ent.gone)[i]? = some x → x = Ent.gone ∨ h[i]? = some x := by
    intro i x hx
    rw [List.getElem?_set] at hx
    split at hx
    · split at hx
      · cases hx; exact .inl rfl
      · cases hx
    · exact .inr hx
  refine ⟨hI.base, hI.blk, fun i hi => hI.fresh i (by simpa using hi), hI.set, ?_, ?_, ?_, ?_⟩
  · intro i e cs wr hx
    rcases hold _ _ hx with q | q
    · cases q
    · exact hI.cells _ _ _ _ q
  · intro i i' e e' c c' L L' h1 h2
    rcases hold _ _ h1 with q | q
    · cases q
    · rcases hold _ _ h2 with q2 | q2
      · cases q2
      · exact hI.disj _ _ _ _ _ _ _ _ q q2
  · intro i es hx
    rcases hold _ _ hx with q | q
    · cases q
    · exact hI.maps _ _ q
  · intro i i' es es' L L' h1 h2
    rcases hold _ _ h1 with q | q
    · cases q
    · rcases hold _ _ h2 with q2 | q2
      · cases q2
      · exact hI.mdisj _ _ _ _ _ _ q q2

theorem Inv.write (hI : Inv B G h w) {id esz off : Nat} {cs cs' : List AV} {vs : List Value} {L : Loc} (hid : h[id]? = some (.cells esz cs true)) (hL : G.loc id = some L)
    (hb : off + vs.length ≤ L.ext) (hl : cs'.length ≤ L.ext)
    (hget : ∀ (j : Nat) (c : AV), cs'[j]? = some c → cell1 c = true ∧ ((off ≤ j ∧ j < off + vs.length ∧ ∃ v, vs[j - off]? = some v ∧ Rep G c v) ∨ (¬ (off ≤ j ∧ j < off + vs.length) ∧ cs[j]? = some c))) :
    Inv B G (h.set id (.cells esz cs' true)) (w.setCells L.b (L.o + off) vs) ∧ Mv B G w G (w.setCells L.b (L.o + off) vs) ∧
    w.there L.b (L.o + off) vs.length := by
  obtain ⟨L', hL', e1, e2, e3, e4⟩ := hI.cells _ _ _ _ hid
  rw [hL] at hL'
  cases hL'
  obtain ⟨hB, hfree⟩ := e4 rfl
  have hin : ∀ j, j < vs.length → (w.cell? ⟨L.b, L.o + off + j, none⟩).isSome = true ∧ w.frozen? ⟨L.b, L.o + off + j, none⟩ = false ∧ G.S L.b (L.o + off + j) = none := by
    intro j hj
    have := hfree (off + j) (by omega)
    rw [← Nat.add_assoc] at this
    exact this
  have hout : ∀ b o, (b = L.b → o < L.o + off ∨ L.o + off + vs.length ≤ o) → (w.setCells L.b (L.o + off) vs).cell? ⟨b, o, none⟩ = w.cell? ⟨b, o, none⟩ := by
    intro b o q
    exact World.cell?_setCells_out _ _ _ _ _ (fun q1 _ => q q1)
  have hsettled : ∀ b o v, G.S b o = some v → (w.setCells L.b (L.o + off) vs).cell? ⟨b, o, none⟩ = w.cell? ⟨b, o, none⟩ := by
    intro b o v hv
    apply hout
    intro q
    subst q
    apply Classical.byContradiction
    intro q
    have := (hin (o - (L.o + off)) (by omega)).2.2
    rw [show L.o + off + (o - (L.o + off)) = o by omega, hv] at this
    cases this
  have hold : ∀ (i : Nat) (x : Ent), (h.set id (.cells esz cs' true))[i]? = some x → (i = id ∧ x = .cells esz cs' true) ∨ (i ≠ id ∧ h[i]? = some x) := by
    intro i x hx
    rw [List.getElem?_set] at hx
    split at hx
    · split at hx
      · cases hx; exact .inl ⟨by omega, rfl⟩
      · cases hx
    · exact .inr ⟨by omega, hx⟩
  have hsize := size_setCells L.b vs (L.o + off) w
  refine ⟨⟨by rw [hsize]; exact hI.base, fun i L hi => by rw [hsize]; exact hI.blk i L hi, fun i hi => hI.fresh i (by simpa using hi), ?_, ?_, ?_, ?_, ?_⟩, ⟨GLe.refl G, below_setCells hB _ _ _, fun _ _ _ q1 q2 => by rw [q1] at q2; cases q2⟩, fun j hj => ⟨(hin j hj).1, (hin j hj).2.1⟩⟩
  · intro b o v hv
    rw [hsettled b o v hv]
    exact hI.set b o v hv
  · intro i esz' cs2 wr hx
    rcases hold _ _ hx with ⟨rfl, q⟩ | ⟨hne, q⟩
    · cases q
      refine ⟨L, hL, e1, hl, ?_, fun _ => ⟨hB, fun j hj => ?_⟩⟩
      · intro j c hj
        obtain ⟨g1, ⟨q1, q2, v, hv, hr⟩ | ⟨q1, q2⟩⟩ := hget j c hj
        · refine ⟨g1, v, ?_, hr, fun q => by cases q⟩
          have hlt : j - off < vs.length := by omega
          have := World.cell?_setCells_in L.b vs (L.o + off) w (fun j hj => (hin j hj).1) (j - off) hlt
          rw [show L.o + off + (j - off) = L.o + j by omega] at this
          rw [this, ← hv, List.getElem?_eq_getElem hlt]
        · obtain ⟨_, v, g2, g3, g4⟩ := e3 j c q2
          refine ⟨g1, v, ?_, g3, fun q => by cases q⟩
          rw [hout _ _ (fun _ => by omega)]
          exact g2
      · obtain ⟨k1, k2, k3⟩ := hfree j hj
        exact ⟨World.isSome_setCells _ _ _ _ _ k1, by rw [World.frozen?_setCells]; exact k2, k3⟩
    · obtain ⟨L2, g1, g2, g3, g4, g5⟩ := hI.cells _ _ _ _ q
      refine ⟨L2, g1, g2, g3, ?_, fun hw => ⟨(g5 hw).1, fun j hj => ?_⟩⟩
      · intro j c hj
        obtain ⟨k1, v, k2, k3, k4⟩ := g4 j c hj
        refine ⟨k1, v, ?_, k3, k4⟩
        have hjl : j < cs2.length := (List.getElem?_eq_some_iff.1 hj).1
        cases wr with
        | false => rw [hsettled _ _ _ (k4 rfl)]; exact k2
        | true =>
          rw [hout _ _ (fun qb => ?_)]
          · exact k2
          · rcases hI.disj _ _ _ _ _ _ _ _ q hid hne g1 hL with d | d | d
            · exact absurd qb d
            · omega
            · omega
      · obtain ⟨k1, k2, k3⟩ := (g5 hw).2 j hj
        exact ⟨World.isSome_setCells _ _ _ _ _ k1, by rw [World.frozen?_setCells]; exact k2, k3⟩
  · intro i i' x x' c c' L1 L2 q1 q2 hne g1 g2
    rcases hold _ _ q1 with ⟨rfl, p1⟩ | ⟨n1, p1⟩ <;> rcases hold _ _ q2 with ⟨rfl, p2⟩ | ⟨n2, p2⟩
    · exact absurd rfl hne
    · exact hI.disj _ _ _ _ _ _ _ _ hid p2 hne g1 g2
    · exact hI.disj _ _ _ _ _ _ _ _ p1 hid hne g1 g2
    · exact hI.disj _ _ _ _ _ _ _ _ p1 p2 hne g1 g2
  · intro i es hx
    rcases hold _ _ hx with ⟨_, q⟩ | ⟨hne, q⟩
    · cases q
    · obtain ⟨L2, ces, clock, g1, g2, g3, g4, g5⟩ := hI.maps _ _ q
      refine ⟨L2, ces, clock, g1, g2, ?_, g4, g5⟩
      cases vs with
      | nil => exact g3
      | cons v vs =>
        rw [World.heap_setCells_other _ _ _ _ (hI.blk _ _ g1) ?_]
        · exact g3
        · intro qb
          have := (hin 0 (by simp)).1
          simp only [World.cell?] at this
          rw [← qb, g3] at this
          simp at this
  · intro i i' es es' L1 L2 q1 q2 hne
    rcases hold _ _ q1 with ⟨_, q⟩ | ⟨_, p1⟩
    · cases q
    · rcases hold _ _ q2 with ⟨_, q⟩ | ⟨_, p2⟩
      · cases q
      · exact hI.mdisj _ _ _ _ _ _ p1 p2 hne

theorem Inv.store (hI : Inv B G h w) {id esz off : Nat} {cs us : List AV} {vs : List Value} {L : Loc} (hid : h[id]? = some (.cells esz cs true)) (hL : G.loc id = some L)
    (hr : RepL G us vs) (h1 : ∀ c ∈ us, cell1 c = true) (hb : off + us.length ≤ cs.length) :
    Inv B G (h.set id (.cells esz (splice cs off us) true)) (w.setCells L.b (L.o + off) vs) ∧ Mv B G w G (w.setCells L.b (L.o + off) vs) ∧
    w.there L.b (L.o + off) vs.length := by
  obtain ⟨L', hL', e1, e2, e3, -⟩ := hI.cells _ _ _ _ hid
  rw [hL] at hL'
  cases hL'
  have hlen : us.length = vs.length := hr.1
  refine hI.write hid hL (by omega) (by rw [splice_length hb]; exact e2) (fun j c hj => ?_)
  rw [splice_get hb] at hj
  split at hj
  · rename_i q
    have hm := hr
    obtain ⟨hlt, -⟩ := List.getElem?_eq_some_iff.1 hj
    have hlt2 : j - off < vs.length := by omega
    exact ⟨h1 c (List.mem_of_getElem? hj), .inl ⟨q.1, by omega, vs[j - off], List.getElem?_eq_getElem hlt2, hr.2 _ _ _ hj (List.getElem?_eq_getElem hlt2)⟩⟩
  · rename_i q
    exact ⟨(e3 j c hj).1, .inr ⟨by omega, hj⟩⟩

/-- An object goes on as another one, from one of its cells on. -/
theorem Inv.rebase (hI : Inv B G h w) {id esz off : Nat} {cs : List AV} {L : Loc} (hid : h[id]? = some (.cells esz cs true)) (hL : G.loc id = some L) (ho : off ≤ L.ext) :
    Inv B (G.put h.length ⟨L.b, L.o + off, L.ext - off, esz⟩) (h.set id .gone ++ [.cells esz (cs.drop off) true]) w ∧
    Mv B G w (G.put h.length ⟨L.b, L.o + off, L.ext - off, esz⟩) w := by
  have hnone := hI.fresh h.length (Nat.le_refl _)
  have hle := Gh.put_le (L := ⟨L.b, L.o + off, L.ext - off, esz⟩) hnone
  obtain ⟨L', hL', e1, e2, e3, e4⟩ := hI.cells _ _ _ _ hid
  rw [hL] at hL'
  cases hL'
  obtain ⟨hB, hfree⟩ := e4 rfl
  have hold : ∀ (i : Nat) (x : Ent), (h.set id Ent.gone ++ [Ent.cells esz (cs.drop off) true])[i]? = some x → x = Ent.gone ∨ (i ≠ h.length ∧ i ≠ id ∧ h[i]? = some x) ∨ (i = h.length ∧ x = .cells esz (cs.drop off) true) := by
    intro i x hx
    rw [List.getElem?_append] at hx
    simp only [List.length_set] at hx
    split at hx
    · rw [List.getElem?_set] at hx
      split at hx
      · split at hx
        · cases hx; exact .inl rfl
        · cases hx
      · exact .inr (.inl ⟨by omega, by omega, hx⟩)
    · rename_i q
      have : i - h.length = 0 := by
        rcases Nat.lt_or_ge (i - h.length) 1 with q2 | q2
        · omega
        · rw [List.getElem?_eq_none (by simpa using q2)] at hx; cases hx
      rw [this] at hx
      simp at hx
      exact .inr (.inr ⟨by omega, hx.symm⟩)
  refine ⟨⟨hI.base, ?_, ?_, hI.set, ?_, ?_, ?_, ?_⟩, hle, Below.refl B w, fun _ _ _ q1 q2 => by rw [show G.S _ _ = _ from q1] at q2; cases q2⟩
  · intro i L2 h2
    by_cases q : i = h.length
    · subst q; rw [Gh.put_same] at h2; cases h2; have := hI.blk _ _ hL; exact this
    · rw [Gh.put_other _ _ q] at h2; exact hI.blk _ _ h2
  · intro i hi
    simp at hi
    rw [Gh.put_other _ _ (by omega)]
    exact hI.fresh _ (by omega)
  · intro i esz' cs2 wr hx
    rcases hold _ _ hx with q | ⟨q1, q2, q3⟩ | ⟨rfl, q⟩
    · cases q
    · obtain ⟨L2, g1, g2, g3, g4, g5⟩ := hI.cells _ _ _ _ q3
      refine ⟨L2, by rw [Gh.put_other _ _ q1]; exact g1, g2, g3, fun j c hj => ?_, g5⟩
      obtain ⟨k1, v, k2, k3, k4⟩ := g4 j c hj
      exact ⟨k1, v, k2, k3.mono hle, k4⟩
    · cases q
      refine ⟨_, Gh.put_same _ _ _, rfl, by simp; omega, fun j c hj => ?_, fun _ => ⟨hB, fun j hj => ?_⟩⟩
      · rw [List.getElem?_drop] at hj
        obtain ⟨k1, v, k2, k3, k4⟩ := e3 _ c hj
        rw [← Nat.add_assoc] at k2
        exact ⟨k1, v, k2, k3.mono hle, fun q => by cases q⟩
      · have := hfree (off + j) (by simp at hj; omega)
        rw [← Nat.add_assoc] at this
        exact this
  · intro i i' x x' c c' L1 L2 q1 q2 hne g1 g2
    rcases hold _ _ q1 with p | ⟨p1, p2, p3⟩ | ⟨rfl, p⟩
    · cases p
    · rw [Gh.put_other _ _ p1] at g1
      rcases hold _ _ q2 with r | ⟨r1, r2, r3⟩ | ⟨rfl, r⟩
      · cases r
      · rw [Gh.put_other _ _ r1] at g2
        exact hI.disj _ _ _ _ _ _ _ _ p3 r3 hne g1 g2
      · rw [Gh.put_same] at g2
        cases g2
        have := hI.disj _ _ _ _ _ _ _ _ p3 hid p2 g1 hL
        simp only
        omega
    · rw [Gh.put_same] at g1
      cases g1
      rcases hold _ _ q2 with r | ⟨r1, r2, r3⟩ | ⟨rfl, r⟩
      · cases r
      · rw [Gh.put_other _ _ r1] at g2
        have := hI.disj _ _ _ _ _ _ _ _ hid r3 (fun q => r2 q.symm) hL g2
        simp only
        omega
      · exact absurd rfl hne
  · intro i es hx
    rcases hold _ _ hx with q | ⟨q1, q2, q3⟩ | ⟨_, q⟩
    · cases q
    · obtain ⟨L2, ces, clock, g1, g2, g3, g4, g5⟩ := hI.maps _ _ q3
      refine ⟨L2, ces, clock, by rw [Gh.put_other _ _ q1]; exact g1, g2, g3, g4, fun j s v e k1 k2 => ?_⟩
      obtain ⟨m1, m2, m3⟩ := g5 j s v e k1 k2
      exact ⟨m1, m2, m3.mono hle⟩
    · cases q
  · intro i i' es es' L1 L2 q1 q2 hne g1 g2
    rcases hold _ _ q1 with q | ⟨p1, p2, p3⟩ | ⟨_, q⟩
    · cases q
    · rcases hold _ _ q2 with q | ⟨r1, r2, r3⟩ | ⟨_, q⟩
      · cases q
      · rw [Gh.put_other _ _ p1] at g1
        rw [Gh.put_other _ _ r1] at g2
        exact hI.mdisj _ _ _ _ _ _ p3 r3 hne g1 g2
      · cases q
    · cases q

end
end Go.Proofs.Ytmhamnnfcmkcfaa

/- New objects and stores, operation by operation. -/
namespace Go.Proofs.Ytmhamnnfcmkcfaa
open Go.RowKit

section
variable {P : Program} {T : Tab} {B : Nat} {G : Gh} {h : Heap} {w : World}

/-- The result is a value (or none), and the world has gone on. -/
def GivesV (B : Nat) (G : Gh) (w : World) (s : Result Value) (v : AV) (h' : Heap) : Prop :=
  ∃ cv w' G', s = .ok cv w' ∧ Mv B G w G' w' ∧ Inv B G' h' w' ∧ Rep G' v cv

theorem zero_get (hT : TabOk P T) {t : Nat} {z : List AV} (hz : T.zero t = some z) : ∃ i v, P.info? t = some i ∧ i.zero = some v ∧ i.size = z.length ∧ (∀ c ∈ z, cell1 c = true) ∧ ∀ G, RepL G z v.cells.toList := by
  obtain ⟨i, v, h1, h2, h3, h4, h5, -⟩ := hT.zero _ _ hz
  exact ⟨i, v, h1, h2, h3, fun c hc => List.all_eq_true.1 h4 c hc, h5⟩

theorem RepL.get {G : Gh} {cs : List AV} {vs : List Value} (hL : RepL G cs vs) {j : Nat} {c : AV} (hj : cs[j]? = some c) : ∃ v, vs[j]? = some v ∧ Rep G c v := by
  have hlt := (List.getElem?_eq_some_iff.1 hj).1
  rw [hL.1] at hlt
  exact ⟨vs[j], List.getElem?_eq_getElem hlt, hL.2 j c _ hj (List.getElem?_eq_getElem hlt)⟩

/-- A new object of exactly these cells. -/
theorem Inv.alloc_list (hI : Inv B G h w) (esz : Nat) {cs : List AV} {C : Array Value} (e : TypeId) (hL : RepL G cs C.toList) (h1 : ∀ c ∈ cs, cell1 c = true) :
    Inv B (G.put h.length ⟨w.heap.size, 0, C.size, esz⟩) (h ++ [.cells esz cs true]) (w.alloc (.cells C e)) ∧
    Mv B G w (G.put h.length ⟨w.heap.size, 0, C.size, esz⟩) (w.alloc (.cells C e)) := by
  refine hI.alloc esz cs C e (by have := hL.1; simp at this; omega) (fun j c hj => ?_)
  obtain ⟨v, hv, hr⟩ := hL.get hj
  exact ⟨h1 c (List.mem_of_getElem? hj), v, by simpa using hv, hr⟩

theorem alloc_sound (hT : TabOk P T) (hI : Inv B G h w) {t : Nat} {z : List AV} (hz : T.zero t = some z) {v : AV} {h' : Heap} (e : alloc z h = some (v, h')) :
    GivesV B G w ((Instr.alloc t true (.tuple #[])).run P w) v h' := by
  obtain ⟨i, zv, hi, hzv, hs, h1, hL⟩ := zero_get hT hz
  unfold alloc at e
  split at e
  · cases e
    obtain ⟨k1, k2⟩ := hI.alloc_list 0 t (hL G) h1
    refine ⟨_, _, _, ?_, k2, k1, .ptr _ _ _ (Gh.put_same _ _ _)⟩
    simp [Instr.alloc, zeroValue, typeInfo, hi, hzv, newVar, newRow]
  · cases e

theorem box_sound (hI : Inv B G h w) {t n : Nat} {x v : AV} {cx : Value} {h' : Heap} (hx : Rep G x cx) (e : boxA n x h = some (v, h')) :
    GivesV B G w ((Instr.box t cx).run P w) v h' := by
  unfold boxA at e
  obtain ⟨cs, e1, e⟩ := Option.bind_eq_some_iff.1 e
  obtain ⟨hL, h1, -⟩ := hx.cells e1
  split at e
  · unfold alloc at e
    split at e
    · cases e
      obtain ⟨k1, k2⟩ := hI.alloc_list 0 t hL h1
      refine ⟨_, _, _, ?_, k2, k1, .ptr _ _ _ (Gh.put_same _ _ _)⟩
      simp [Instr.box, newVar, newRow]
    · cases e
  · cases e

theorem store_sound (hI : Inv B G h w) {t n : Nat} {agg : Bool} (hz : SizeOk P t n agg) {p x v : AV} {cp cx : Value} {h' : Heap} (hp : Rep G p cp) (hx : Rep G x cx)
    (e : storeA n p x h = some (v, h')) : v = .undef ∧ ∃ w', (Instr.storeAt t cp cx).run P w = .ok () w' ∧ Mv B G w G w' ∧ Inv B G h' w' := by
  unfold storeA at e
  split at e
  · split at e
    · rename_i hid hc
      split at e
      · rename_i hb
        cases e
        refine ⟨rfl, ?_⟩
        cases hp with | ptr _ _ L hL =>
        obtain ⟨hxL, h1, hone⟩ := hx.cells hc
        rename_i off _ _ _ _ _
        obtain ⟨k1, k2, k3⟩ := hI.store (off := off) hid hL hxL h1 (by omega)
        refine ⟨_, ?_, k2, k1⟩
        obtain ⟨i, d, hi, hs, -⟩ := hz
        have hlen := hxL.1
        have hst := run_storeCells_cells (P := P) L.b (L.o + off) cx.cells.toList 0 w (fun j hj => (k3 j hj).1) (fun j hj => (k3 j hj).2) hone
        simp only [Nat.add_zero] at hst
        have hne : cx.cells.size = i.size := by simp at hlen; omega
        simp [Instr.storeAt, Instr.sureAddr, storeVar, sizeOf, typeInfo, hi, hne, hst]
      · cases e
    · cases e
  · cases e

theorem flatten_replicate_get {α : Type} (z : List α) (n j : Nat) : ((List.replicate n z).flatten)[j]? = if j < n * z.length then z[j % z.length]? else none := by
  induction n generalizing j with
  | zero => simp
  | succ n ih =>
    rw [List.replicate_succ, List.flatten_cons, List.getElem?_append]
    split
    · rename_i q
      rw [Nat.mod_eq_of_lt q, if_pos (by rw [Nat.succ_mul]; omega)]
    · rename_i q
      rw [ih]
      have hz : z.length ≤ j := by omega
      rw [Nat.mod_eq_sub_mod hz]
      by_cases q2 : j - z.length < n * z.length
      · rw [if_pos q2, if_pos (by rw [Nat.succ_mul]; omega)]
      · rw [if_neg q2, if_neg (by rw [Nat.succ_mul]; omega)]

theorem made_rep {G : Gh} {z : List AV} {zv : Array Value} (hL : RepL G z zv.toList) (n m : Nat) (hm : n ≤ m) (hpos : 0 < z.length) :
    ∀ (j : Nat) (c : AV), ((List.replicate n z).flatten)[j]? = some c → ∃ v, (madeCells zv (m * z.length))[j]? = some v ∧ Rep G c v := by
  intro j c hj
  rw [flatten_replicate_get] at hj
  split at hj
  · rename_i q
    have hle : n * z.length ≤ m * z.length := Nat.mul_le_mul_right _ hm
    have hlen : z.length = zv.size := by simpa using hL.1
    obtain ⟨v, hv, hr⟩ := hL.get hj
    refine ⟨v, ?_, hr⟩
    have hlt : j % zv.size < zv.size := Nat.mod_lt _ (by omega)
    rw [hlen] at hv
    simp only [Array.getElem?_toList, Array.getElem?_eq_getElem hlt, Option.some.injEq] at hv
    simp only [madeCells, Array.getElem?_map, Array.getElem?_range]
    rw [if_pos (by omega)]
    simp [hlt, hv]
  · cases hj

theorem make_sound (hT : TabOk P T) (hI : Inv B G h w) {t : Nat} {k : K} (hk : KindOk P t k) {l c v : AV} {cl cc : Value} {h' : Heap} (hl : Rep G l cl) (hc : Rep G c cc)
    (e : msA k (zElem T k) l c h = some (v, h')) : GivesV B G w ((Instr.makeSlice t cl cc).run P w) v h' := by
  unfold msA at e
  split at e
  · rename_i el esz bytes byte z n m hz'
    simp only [zElem] at hz'
    obtain ⟨hu, ⟨ti, hti, hsz, hby, -⟩, -⟩ := hk
    obtain ⟨i, zv, hi, hzv, hs, h1, hL⟩ := zero_get hT hz'
    rw [hti] at hi
    cases hi
    split at e
    · rename_i hb
      cases e
      obtain ⟨b1, b2, b3, b4, b5, b6, b7⟩ := hb
      cases hl with | sv hl =>
      cases hl
      cases hc with | sv hc =>
      cases hc
      have hbytes : (ti.bytes : Int) * m ≤ 281474976710656 := by
        have q1 : (ti.bytes : Int) ≤ 200 := by omega
        have q2 : (ti.bytes : Int) * m ≤ 200 * m := Int.mul_le_mul_of_nonneg_right q1 (by omega)
        omega
      have hr := run_make (P := P) w t el ti zv hu hti hzv .i64 .i64 n m b1 b2 hbytes (by omega)
      have hm := made_rep (hL G) n.toNat m.toNat (by omega) (by omega)
      rw [hs] at hr
      have hsz2 : (madeCells zv.cells (m.toNat * z.length)).size = m.toNat * z.length := size_madeCells _ _
      have hfl : ((List.replicate n.toNat z).flatten).length ≤ m.toNat * z.length := by
        simp
        exact Nat.mul_le_mul_right _ (by omega)
      obtain ⟨k1, k2⟩ := hI.alloc esz ((List.replicate n.toNat z).flatten) (madeCells zv.cells (m.toNat * z.length)) el (by rw [hsz2]; exact hfl) (fun j c hj => by
        refine ⟨?_, hm j c hj⟩
        have := List.mem_of_getElem? hj
        obtain ⟨l, hl, hc⟩ := List.mem_flatten.1 this
        rw [List.eq_of_mem_replicate hl] at hc
        exact h1 c hc)
      refine ⟨_, _, _, hr, k2, k1, ?_⟩
      have := Rep.own (G := G.put h.length ⟨w.heap.size, 0, (madeCells zv.cells (m.toNat * z.length)).size, esz⟩) h.length 0 n.toNat m.toNat _ (Gh.put_same _ _ _) (by omega) (by
        simp only [Nat.zero_add]
        rw [hsz2, b6]
        exact Nat.le_refl _)
      exact this
    · cases e
  · cases e

end
end Go.Proofs.Ytmhamnnfcmkcfaa

/- Slices out of parts, append, copy, bytes to strings. -/
namespace Go.Proofs.Ytmhamnnfcmkcfaa
open Go.RowKit

section
variable {P : Program} {T : Tab} {B : Nat} {G : Gh} {h : Heap} {w : World}

theorem fillA_length {place : Nat → Option (Nat × Nat)} : ∀ (ps : List (Nat × AV)) (cells r : List AV), fillA place cells ps = some r → r.length = cells.length := by
  intro ps
  induction ps with
  | nil => intro cells r e; simp only [fillA, Option.some.injEq] at e; rw [e]
  | cons p ps ih =>
    intro cells r e
    simp only [fillA] at e
    split at e
    · split at e
      · rename_i hb
        rw [ih _ _ e, splice_length (by omega)]
      · cases e
    · cases e

theorem bs_sound (hT : TabOk P T) (hI : Inv B G h w) {t : Nat} {k : K} (hk : KindOk P t k) {len : Nat} {ps : List (Nat × AV)} {cps : Array (Nat × Value)} {v : AV} {h' : Heap} (hp : RepP G ps cps.toList)
    (e : bsA k (zElem T k) len ps h = some (v, h')) : GivesV B G w ((Instr.buildSlice t len cps).run P w) v h' := by
  unfold bsA at e
  split at e
  · rename_i el esz bytes byte z hz'
    simp only [zElem] at hz'
    obtain ⟨hu, ⟨ti, hti, hsz, hby, -⟩, -⟩ := hk
    obtain ⟨i, zv, hi, hzv, hs, h1, hL⟩ := zero_get hT hz'
    rw [hti] at hi
    cases hi
    split at e
    · rename_i hb
      obtain ⟨cs, e1, e⟩ := Option.bind_eq_some_iff.1 e
      cases e
      obtain ⟨b1, b2, b3⟩ := hb
      have hfl : ((List.replicate len z).flatten).length = len * esz := by simp [b2]
      have hrep : RepL G ((List.replicate len z).flatten) (madeCells zv.cells (len * ti.size)).toList := by
        refine ⟨by rw [hfl]; simp [size_madeCells, hsz], fun j c cv q1 q2 => ?_⟩
        have hpos : 0 < z.length := by
          have := (List.getElem?_eq_some_iff.1 q1).1
          rw [hfl] at this
          rcases Nat.eq_zero_or_pos esz with q | q
          · rw [q] at this; omega
          · omega
        obtain ⟨u, hu2, hr⟩ := made_rep (hL G) len len (Nat.le_refl _) hpos j c q1
        rw [hs, Array.getElem?_toList, hu2] at q2
        cases q2
        exact hr
      obtain ⟨cr, hr, hcL, hc1⟩ := fill_sound (G := G) (place' := fun i => some (i * ti.size, ti.size)) (by intro j p hj; rw [hsz]; exact hj) ps cps.toList _ _ cs hp hrep (by
        intro c hc
        obtain ⟨l, hl, hc⟩ := List.mem_flatten.1 hc
        rw [List.eq_of_mem_replicate hl] at hc
        exact h1 c hc) e1
      obtain ⟨k1, k2⟩ := hI.alloc_list esz el hcL hc1
      have hcs : cr.size = len * esz := by
        have := hcL.1
        rw [fillA_length _ _ _ e1, hfl] at this
        simpa using this.symm
      refine ⟨_, _, _, ?_, k2, k1, Rep.own h.length 0 len len _ (Gh.put_same _ _ _) (Nat.le_refl _) (by simp only [Nat.zero_add]; rw [hcs]; exact Nat.le_refl _)⟩
      have hbig : ¬ (16777216 < len * ti.size) := by rw [hsz]; omega
      by_cases hzero : len * ti.size = 0
      · have hmc : madeCells zv.cells (len * ti.size) = #[] := by rw [hzero]; simp [madeCells]
        rw [hmc] at hr
        simp [Instr.buildSlice, run_underlying hu, sizeOf, typeInfo, hti, hzero, newRow, Array.range_zero']
        rw [hr]
        simp
      · rw [madeCells] at hr
        simp [Instr.buildSlice, run_underlying hu, sizeOf, typeInfo, zeroValue, hti, hzv, hbig, hzero, newRow]
        rw [hr]
        simp
    · cases e
  · cases e

theorem flatten_get {α : Type} {n : Nat} : ∀ (xs : List (List α)), (∀ x ∈ xs, x.length = n) → ∀ (q : Nat) (v : α), xs.flatten[q]? = some v → q < xs.length * n ∧ ∃ c, xs[q / n]? = some c ∧ c[q % n]? = some v
  | [], _, q, v, h => by simp at h
  | x :: xs, hx, q, v, h => by
    have hl := hx x (by simp)
    rw [List.flatten_cons, List.getElem?_append] at h
    split at h
    · rename_i hq
      rw [hl] at hq
      refine ⟨by rw [List.length_cons, Nat.succ_mul]; omega, x, ?_, ?_⟩
      · rw [Nat.div_eq_of_lt hq]; rfl
      · rw [Nat.mod_eq_of_lt hq]; exact h
    · rename_i hq
      rw [hl] at h hq
      obtain ⟨h1, c, h2, h3⟩ := flatten_get xs (fun y hy => hx y (by simp [hy])) (q - n) v h
      have hn : 0 < n := by
        rcases Nat.eq_zero_or_pos n with z | z
        · rw [z] at h1; omega
        · exact z
      refine ⟨by rw [List.length_cons, Nat.succ_mul]; omega, c, ?_, ?_⟩
      · rw [Nat.div_eq_sub_div hn (by omega)]
        simpa using h2
      · rw [Nat.mod_eq_sub_mod (by omega)]
        exact h3

theorem flatten_len {α : Type} {n : Nat} : ∀ (xs : List (List α)), (∀ x ∈ xs, x.length = n) → xs.flatten.length = xs.length * n
  | [], _ => by simp
  | x :: xs, hx => by
    rw [List.flatten_cons, List.length_append, hx x (by simp), flatten_len xs (fun y hy => hx y (by simp [hy])), List.length_cons, Nat.succ_mul, Nat.add_comm]

/-- What is behind a slice, in the model's memory. -/
theorem rows_sound (hI : Inv B G h w) {u : Nat} {k : K} (hk : KindOk P u k) (hrk : rowKind k = true) {esz n : Nat} {y : AV} {cy : Value} {news : List AV} (hy : Rep G y cy) (e : rowsOf esz y h = some (n, news)) :
    ∃ vs, Src P esz u cy n vs w ∧ RepL G news vs ∧ ∀ c ∈ news, cell1 c = true := by
  have hkind : (∃ e', P.underlying u = some (.slice e')) ∨ P.underlying u = some .string := by
    unfold rowKind at hrk
    split at hrk
    · exact .inl ⟨_, hk.1⟩
    · exact .inr hk
    · cases hrk
  have nothing : ∀ (a : Option Addr) (c : Nat), Src P esz u (.slice a 0 c) 0 [] w := by
    intro a c
    refine ⟨hkind, fun _ => rfl, ?_, ?_, by simp, fun _ h => by cases h⟩
    · cases a with
      | none => exact run_firstCells_none w esz 0 0 c
      | some a => exact run_firstCells_some w esz 0 a 0 c [] (by simp) (by intro _ _ h'; simp at h')
    · cases a with
      | none => exact run_firstCells_none w.drew esz 0 0 c
      | some a => exact run_firstCells_some w.drew esz 0 a 0 c [] (by simp) (by intro _ _ h'; simp at h')
  have some' : ∀ (b o c : Nat) (vs : List Value), vs.length = n * esz → RepL G news vs → (∀ c ∈ news, cell1 c = true) → w.rangeAt b o vs → Src P esz u (.slice (some ⟨b, o, none⟩) n c) n vs w := by
    intro b o c vs hl hL h1 hr
    refine ⟨hkind, fun _ => rfl, ?_, ?_, hl, fun v hv => ?_⟩
    · exact run_firstCells_some w esz n ⟨b, o, none⟩ n c vs hl (fun j v hj => by rw [Addr.add_mid]; exact hr j v hj)
    · exact run_firstCells_some w.drew esz n ⟨b, o, none⟩ n c vs hl (fun j v hj => by rw [Addr.add_mid, World.cell?_drew]; exact hr j v hj)
    · obtain ⟨j, hj⟩ := List.mem_iff_getElem?.1 hv
      have hlt := (List.getElem?_eq_some_iff.1 hj).1
      rw [← hL.1] at hlt
      exact ((hL.2 j _ _ (List.getElem?_eq_getElem hlt) hj).cell (h1 _ (List.getElem_mem hlt))).1
  unfold rowsOf at e
  split at e
  · cases e
    cases hy
    exact ⟨[], nothing _ _, RepL.nil G, fun _ h => by cases h⟩
  · split at e
    · rename_i hall
      cases e
      rename_i xs
      have hall' : ∀ c ∈ xs, c.length = esz := fun c hc => eq_of_beq (List.all_eq_true.1 hall c hc)
      cases hy with | sv hy =>
      cases hy with
      | slice0 a cap => exact ⟨[], nothing _ _, RepL.nil G, fun _ h => by cases h⟩
      | slice _ b o cap esz' vs hcap hsz hS hr =>
        rcases xs with _ | ⟨x0, xs⟩
        · exact ⟨[], nothing _ _, RepL.nil G, fun _ h => by cases h⟩
        have hes : esz' = esz := by rw [← hall' x0 (by simp), hsz x0 (by simp)]
        subst hes
        have hflen := flatten_len (x0 :: xs) hall'
        generalize (x0 :: xs) = ys at *
        have hget : ∀ q s, ys.flatten[q]? = some s → w.cell? ⟨b, o + q, none⟩ = some (vs (q / esz') (q % esz')) ∧ RepS G.S s (vs (q / esz') (q % esz')) := by
          intro q s hq
          obtain ⟨h1, c, h2, h3⟩ := flatten_get ys hall' q s hq
          have hn : 0 < esz' := by
            rcases Nat.eq_zero_or_pos esz' with z | z
            · rw [z] at h1; omega
            · exact z
          have hd : q / esz' < ys.length := (Nat.div_lt_iff_lt_mul hn).2 h1
          have hm := Nat.mod_lt q hn
          have := hI.set _ _ _ (hS _ _ hd hm)
          rw [show o + q / esz' * esz' + q % esz' = o + q by have := Nat.div_add_mod q esz'; rw [Nat.mul_comm] at this; omega] at this
          exact ⟨this, hr _ _ _ _ h2 h3⟩
        let cv : List Value := (List.range (ys.length * esz')).map fun q => vs (q / esz') (q % esz')
        have hcv : RepL G (ys.flatten.map AV.sv) cv := by
          refine ⟨by rw [List.length_map, hflen]; simp [cv], fun j c v h1 h2 => ?_⟩
          obtain ⟨-, h3⟩ := rangeMap_get h2
          rw [List.getElem?_map] at h1
          obtain ⟨s, hs, rfl⟩ := Option.map_eq_some_iff.1 h1
          rw [← h3]
          exact .sv (hget j s hs).2
        have h1 : ∀ c ∈ ys.flatten.map AV.sv, cell1 c = true := by
          intro c hc
          obtain ⟨s, -, rfl⟩ := List.mem_map.1 hc
          rfl
        refine ⟨cv, some' b o cap cv (by simp [cv]) hcv h1 (fun j v hj => ?_), hcv, h1⟩
        obtain ⟨hj1, hj2⟩ := rangeMap_get hj
        rw [← hflen] at hj1
        rw [← hj2]
        exact (hget j _ (List.getElem?_eq_getElem hj1)).1
    · cases e
  · split at e
    · rename_i id off len _ e1 cs wr hid
      split at e
      · rename_i he
        obtain ⟨r, hr, e⟩ := Option.bind_eq_some_iff.1 e
        cases e
        cases hy with | own _ _ _ cap L hL hcap hext =>
        obtain ⟨L', hL', g1, g2, g3, -⟩ := hI.cells _ _ _ _ hid
        rw [hL] at hL'
        cases hL'
        obtain ⟨hrl, hrg⟩ := takeN_get hr
        have hc : ∀ j c, news[j]? = some c → cell1 c = true ∧ ∃ v, w.cell? ⟨L.b, L.o + off + j, none⟩ = some v ∧ Rep G c v := by
          intro j c hj
          obtain ⟨k1, v, k2, k3, -⟩ := g3 _ _ (hrg j c hj)
          rw [← Nat.add_assoc] at k2
          exact ⟨k1, v, k2, k3⟩
        let cv : List Value := (List.range (n * esz)).map fun q => (w.cell? ⟨L.b, L.o + off + q, none⟩).getD undef
        have hcv : RepL G news cv := by
          refine ⟨by simp [cv, hrl], fun j c v h1 h2 => ?_⟩
          obtain ⟨-, h3⟩ := rangeMap_get h2
          obtain ⟨-, v', k2, k3⟩ := hc j c h1
          rw [← h3, k2]
          exact k3
        have h1 : ∀ c ∈ news, cell1 c = true := fun c hc' => by
          obtain ⟨j, hj⟩ := List.mem_iff_getElem?.1 hc'
          exact (hc j c hj).1
        refine ⟨cv, some' L.b (L.o + off) cap cv (by simp [cv]) hcv h1 (fun j v hj => ?_), hcv, h1⟩
        obtain ⟨hj1, hj2⟩ := rangeMap_get hj
        obtain ⟨-, v', k2, -⟩ := hc j _ (List.getElem?_eq_getElem (by omega))
        rw [← hj2, k2]
        rfl
      · cases e
    · cases e
  · split at e
    · rename_i he
      cases e
      subst he
      rename_i s
      cases hy with | sv hy =>
      cases hy
      have hb : byteCells ⟨s.toArray⟩ = s.map fun b => Value.int .u8 b.toNat := by simp [byteCells]
      have hsz : (⟨s.toArray⟩ : ByteArray).size = s.length := ba_size s
      have hsrc : Src P 1 u (.string ⟨s.toArray⟩) s.length (byteCells ⟨s.toArray⟩) w := by
        refine ⟨hkind, fun _ => ?_, ?_, ?_, ?_, ?_⟩
        · simp [Builtin.lenOf, hsz]
        · rw [← hsz]; exact firstCells_string _ _
        · rw [← hsz]; exact firstCells_string _ _
        · rw [byteCells_length, hsz, Nat.mul_one]
        · intro v hv
          obtain ⟨_, _, rfl⟩ := List.mem_map.1 hv
          rfl
      refine ⟨_, hsrc, ?_, ?_⟩
      · rw [hb]
        refine ⟨by simp, fun j c v h1 h2 => ?_⟩
        rw [List.getElem?_map] at h1 h2
        obtain ⟨b, hb, rfl⟩ := Option.map_eq_some_iff.1 h1
        rw [hb] at h2
        cases h2
        exact .sv (.int _ _)
      · intro c hc
        obtain ⟨_, _, rfl⟩ := List.mem_map.1 hc
        rfl
    · cases e
  · cases e

theorem own_cells (hI : Inv B G h w) {id off n esz : Nat} {cs r : List AV} {wr : Bool} {L : Loc} (hid : h[id]? = some (.cells esz cs wr)) (hL : G.loc id = some L) (e : takeN cs off n = some r) :
    ∃ vs : List Value, RepL G r vs ∧ vs.length = n ∧ w.rangeAt L.b (L.o + off) vs ∧ ∀ c ∈ r, cell1 c = true := by
  obtain ⟨L', hL', g1, g2, g3, -⟩ := hI.cells _ _ _ _ hid
  rw [hL] at hL'
  cases hL'
  obtain ⟨hrl, hrg⟩ := takeN_get e
  have hc : ∀ j c, r[j]? = some c → cell1 c = true ∧ ∃ v, w.cell? ⟨L.b, L.o + off + j, none⟩ = some v ∧ Rep G c v := by
    intro j c hj
    obtain ⟨k1, v, k2, k3, -⟩ := g3 _ _ (hrg j c hj)
    rw [← Nat.add_assoc] at k2
    exact ⟨k1, v, k2, k3⟩
  refine ⟨(List.range n).map fun q => (w.cell? ⟨L.b, L.o + off + q, none⟩).getD undef, ⟨by simp [hrl], fun j c v h1 h2 => ?_⟩, by simp, fun j v hj => ?_, fun c hc' => ?_⟩
  · obtain ⟨-, h3⟩ := rangeMap_get h2
    obtain ⟨-, v', k2, k3⟩ := hc j c h1
    rw [← h3, k2]
    exact k3
  · obtain ⟨hj1, hj2⟩ := rangeMap_get hj
    obtain ⟨-, v', k2, -⟩ := hc j _ (List.getElem?_eq_getElem (by omega))
    rw [← hj2, k2]
    rfl
  · obtain ⟨j, hj⟩ := List.mem_iff_getElem?.1 hc'
    exact (hc j c hj).1

theorem Inv.drew (hI : Inv B G h w) : Inv B G h w.drew := ⟨hI.base, hI.blk, hI.fresh, hI.set, hI.cells, hI.disj, hI.maps, hI.mdisj⟩
theorem Mv.drew (B : Nat) (G : Gh) (w : World) : Mv B G w G w.drew := ⟨GLe.refl G, (Below.refl B w).drew, fun _ _ _ q1 q2 => by rw [q1] at q2; cases q2⟩

/-- A new object out of an old one's cells and more: what append makes where there is no room. -/
theorem grow_sound (hI : Inv B G h w) {t tx ty el n sLen sCap : Nat} {ti : TypeInfo} {zv : Value} (hu : P.underlying t = some (.slice el)) (hti : P.info? el = some ti) (hzv : ti.zero = some zv) (hzs : zv.cells.size = ti.size)
    {base : Option Addr} {cy : Value} {olds news : List Value} {old new : List AV} (hold : (Builtin.firstCells ti.size sLen (.slice base sLen sCap)).run P w.drew = .ok olds.toArray w.drew) (hol : olds.length = sLen * ti.size)
    (hs : Src P ti.size tx cy n news w) (ho : RepL G old olds) (hn : RepL G new news) (h1 : ∀ c ∈ old ++ new, cell1 c = true) (hg : sCap < sLen + n) (hb : ti.bytes ≤ 120) (hlim : sLen + n ≤ 1000000000000) :
    GivesV B G w ((Builtin.append_ #[t, tx] ty #[.slice base sLen sCap, cy]).run P w) (.own h.length 0 (sLen + n)) (h ++ [.cells ti.size (old ++ new) true]) := by
  have hbytes : (sLen + n) * ti.bytes ≤ 140737488355328 := by
    have : (sLen + n) * ti.bytes ≤ 1000000000000 * 120 := Nat.mul_le_mul hlim hb
    omega
  have hrun := run_append_grow_src w t tx ty el ti zv hu hti hzv base sLen sCap olds hold cy n news hs hg (by omega) (growslice_fits hg hbytes)
  have hge := grownCap_ge w (sLen + n) sCap el
  have hL := ho.append hn
  obtain ⟨k1, k2⟩ := hI.drew.alloc ti.size (old ++ new) ((olds ++ news).toArray ++ Builtin.zeroCells zv.cells (grownCap w (sLen + n) sCap el - (sLen + n))) el (by
      have := hL.1
      simp at this ⊢
      omega) (fun j c hj => by
    obtain ⟨v, hv, hr⟩ := hL.get hj
    refine ⟨h1 c (List.mem_of_getElem? hj), v, ?_, hr⟩
    have hlt := (List.getElem?_eq_some_iff.1 hv).1
    rw [Array.getElem?_append_left (by simpa using hlt)]
    simpa using hv)
  refine ⟨_, _, _, hrun, (Mv.drew B G w).trans k2, k1, Rep.own h.length 0 (sLen + n) (grownCap w (sLen + n) sCap el) _ (Gh.put_same _ _ _) hge ?_⟩
  have hnl := hs.newsLen
  have hsum : ((olds ++ news).toArray ++ Builtin.zeroCells zv.cells (grownCap w (sLen + n) sCap el - (sLen + n))).size = grownCap w (sLen + n) sCap el * ti.size := by
    simp [Builtin.zeroCells, hzs, hol, hnl]
    rw [← Nat.add_mul, ← Nat.add_mul]
    congr 1
    omega
  simp only [Nat.zero_add]
  rw [hsum]
  exact Nat.le_refl _

end
end Go.Proofs.Ytmhamnnfcmkcfaa

/- append, copy, bytes to strings. -/
namespace Go.Proofs.Ytmhamnnfcmkcfaa
open Go.RowKit

section
variable {P : Program} {T : Tab} {B : Nat} {G : Gh} {h : Heap} {w : World}

/-- What a slice's value looks like. -/
theorem rows_zero {esz : Nat} {y : AV} {news : List AV} {n : Nat} (e : rowsOf esz y h = some (n, news)) : news.length = n * esz := by
  unfold rowsOf at e
  split at e
  · cases e; simp
  · split at e
    · rename_i hall
      cases e
      rw [List.length_map]
      exact flatten_len _ (fun c hc => eq_of_beq (List.all_eq_true.1 hall c hc))
    · cases e
  · split at e
    · split at e
      · obtain ⟨r, hr, e⟩ := Option.bind_eq_some_iff.1 e
        cases e
        exact (takeN_get hr).1
      · cases e
    · cases e
  · split at e
    · rename_i he
      cases e
      subst he
      simp
    · cases e
  · cases e

theorem ap_sound (hI : Inv B G h w) {t u ty : Nat} {k k2 : K} (hk : KindOk P t k) (hk2 : KindOk P u k2) (hrk : rowKind k2 = true)
    {x y v : AV} {cx cy : Value} {h' : Heap} (hx : Rep G x cx) (hy : Rep G y cy) (e : apA k x y h = some (v, h')) :
    GivesV B G w ((Builtin.append_ #[t, u] ty #[cx, cy]).run P w) v h' := by
  unfold apA at e
  split at e
  · rename_i el esz bytes byte
    obtain ⟨hu, ⟨ti, hti, hsz, hby, zv, hzv, hzs⟩, -⟩ := hk
    subst hsz; subst hby
    obtain ⟨⟨n, news⟩, hr, e⟩ := Option.bind_eq_some_iff.1 e
    obtain ⟨vs, hsrc, hnL, hn1⟩ := rows_sound hI hk2 hrk hy hr
    simp only at e
    split at e
    · rename_i hn0
      subst hn0
      have hvs : vs = [] := List.eq_nil_of_length_eq_zero (by have := hsrc.newsLen; omega)
      subst hvs
      have key : ∀ (a : Option Addr) (l c : Nat), cx = .slice a l c → l ≤ c → GivesV B G w ((Builtin.append_ #[t, u] ty #[cx, cy]).run P w) x h := by
        intro a l c hc hle
        subst hc
        exact ⟨_, w, G, run_append_nothing w t u ty el ti hu hti a l c hle cy hsrc, Mv.refl B G w, hI, hx⟩
      split at e
      · cases e
        cases hx
        exact key _ _ _ rfl (Nat.le_refl _)
      · cases e
        cases hx with | own _ _ _ cap L hL hcap hext => exact key _ _ _ rfl hcap
      · cases e
        cases hx with | sv hx' =>
        cases hx' with
        | slice0 a cap => exact key _ _ _ rfl (Nat.zero_le _)
        | slice _ b o cap esz' vs hcap hsz hS hr => exact key _ _ _ rfl hcap
      · cases e
    · rename_i hn0
      split at e
      · split at e
        · rename_i hb
          cases e
          cases hx with | nil a =>
          have hold : (Builtin.firstCells ti.size 0 (.slice a 0 0)).run P w.drew = .ok ([] : List Value).toArray w.drew := by
            cases a with
            | none => exact run_firstCells_none w.drew ti.size 0 0 0
            | some a => exact run_firstCells_some w.drew ti.size 0 a 0 0 [] (by simp) (by intro _ _ h'; simp at h')
          have := grow_sound (t := t) (tx := u) (ty := ty) (sLen := 0) (sCap := 0) (old := []) hI hu hti hzv hzs hold (by simp) hsrc (RepL.nil G) hnL (by simpa using hn1) (by omega) hb.2.1 (by omega)
          simpa using this
        · cases e
      · split at e
        · rename_i id off len _ _ es cs hid
          split at e
          · rename_i hb
            obtain ⟨old, ho, e⟩ := Option.bind_eq_some_iff.1 e
            cases e
            cases hx with | own _ _ _ cap L hL hcap hext =>
            obtain ⟨hes, hlim, hby2, hpos⟩ := hb
            subst hes
            obtain ⟨ovs, hoL, hol, hor, ho1⟩ := own_cells hI hid hL ho
            have hLe := hI.esz _ _ _ _ _ hL hid
            have h1all : ∀ c ∈ old ++ news, cell1 c = true := by
              intro c hc
              rcases List.mem_append.1 hc with q | q
              · exact ho1 c q
              · exact hn1 c q
            by_cases hroom : len + n ≤ cap
            · obtain ⟨r1, r2⟩ := hI.rebase hid hL (off := off) (by omega)
              have hset : (h.set id Ent.gone ++ [Ent.cells ti.size (cs.drop off) true]).set h.length (Ent.cells ti.size (old ++ news) true) = h.set id Ent.gone ++ [Ent.cells ti.size (old ++ news) true] := by
                rw [List.set_append_right _ _ (by simp)]
                simp
              have hid1 : (h.set id Ent.gone ++ [Ent.cells ti.size (cs.drop off) true])[h.length]? = some (Ent.cells ti.size (cs.drop off) true) := by
                rw [List.getElem?_append_right (by simp)]
                simp
              have hcapm : (len + n) * ti.size ≤ cap * ti.size := Nat.mul_le_mul_right _ hroom
              rw [Nat.add_mul] at hcapm
              have hnl := hsrc.newsLen
              have hnl2 := hnL.1
              have hol2 := hoL.1
              rw [hLe] at hext
              obtain ⟨q1, q2, q3⟩ := r1.write (off := len * ti.size) (cs' := old ++ news) (vs := vs) hid1 (Gh.put_same _ _ _) (by simp only; omega) (by simp only [List.length_append]; omega) (fun j c hj => by
                refine ⟨h1all c (List.mem_of_getElem? hj), ?_⟩
                rw [List.getElem?_append] at hj
                split at hj
                · rename_i hlt
                  refine .inr ⟨by omega, ?_⟩
                  rw [List.getElem?_drop]
                  exact (takeN_get ho).2 j c hj
                · rename_i hlt
                  have hjl := (List.getElem?_eq_some_iff.1 hj).1
                  obtain ⟨v, hv, hr⟩ := hnL.get hj
                  refine .inl ⟨by omega, by omega, v, ?_, hr.mono r2.le⟩
                  rw [← hv]
                  congr 1
                  omega)
              rw [hset] at q1
              refine ⟨_, _, _, run_append_room_src w t u ty el ti hu hti L.b (L.o + off) len cap cy n vs hsrc hroom (fun j hj => (q3 j hj).1) (fun j hj => (q3 j hj).2), r2.trans q2, q1, ?_⟩
              have := Rep.own (G := G.put h.length ⟨L.b, L.o + off, L.ext - off, ti.size⟩) h.length 0 (len + n) cap _ (Gh.put_same _ _ _) hroom (by simp only; omega)
              exact this
            · have hold : (Builtin.firstCells ti.size len (.slice (some ⟨L.b, L.o + off, none⟩) len cap)).run P w.drew = .ok ovs.toArray w.drew :=
                run_firstCells_some w.drew ti.size len ⟨L.b, L.o + off, none⟩ len cap ovs hol (fun j v hj => by rw [Addr.add_mid, World.cell?_drew]; exact hor j v hj)
              have hg := grow_sound (t := t) (tx := u) (ty := ty) (sCap := cap) (hI.gone id) hu hti hzv hzs hold hol hsrc hoL hnL h1all (by omega) hby2 hlim
              simpa using hg
          · cases e
        · cases e
      · cases e
  · cases e

theorem bytes_vals : ∀ (cs : List AV) (vs : List Value) (b : List UInt8), RepL G cs vs → bytesOfA cs = some b → ∃ ns : List Int, vs = ns.map (Value.int .u8) ∧ ns.map (fun n => UInt8.ofNat n.toNat) = b
  | [], vs, b, hL, e => by
    have : vs = [] := List.eq_nil_of_length_eq_zero hL.1.symm
    subst this
    simp only [bytesOfA, Option.some.injEq] at e
    subst e
    exact ⟨[], rfl, rfl⟩
  | c :: cs, vs, b, hL, e => by
    obtain ⟨v, vs, rfl, hv, hL'⟩ := hL.uncons
    unfold bytesOfA at e
    split at e
    · rename_i q; cases q
    · rename_i n cs' q
      cases q
      split at e
      · obtain ⟨r, hr, e⟩ := Option.bind_eq_some_iff.1 e
        cases e
        obtain ⟨ns, rfl, rfl⟩ := bytes_vals cs vs r hL' hr
        cases hv with | sv hv =>
        cases hv
        exact ⟨n :: ns, rfl, rfl⟩
      · cases e
    · cases e

theorem foldl_push : ∀ (ns : List Int) (s : List UInt8), (ns.foldl (fun r n => r.push (UInt8.ofNat n.toNat)) (⟨s.toArray⟩ : ByteArray)) = ⟨(s ++ ns.map fun n => UInt8.ofNat n.toNat).toArray⟩
  | [], s => by simp
  | n :: ns, s => by
    have : (⟨s.toArray⟩ : ByteArray).push (UInt8.ofNat n.toNat) = ⟨(s ++ [UInt8.ofNat n.toNat]).toArray⟩ := by
      apply ByteArray.ext
      simp [ByteArray.push]
    rw [List.foldl_cons, this, foldl_push ns]
    simp

theorem bsStr_sound (hI : Inv B G h w) {s t el esz bytes : Nat} (hs : KindOk P s (.slice el esz bytes true)) (ht : KindOk P t .str) {x v : AV} {cx : Value} {h' : Heap} (hx : Rep G x cx) (e : bsStr x h = some (v, h')) :
    GivesV B G w ((convert s t cx).run P w) v h' := by
  unfold bsStr at e
  split at e
  · cases e
  · rename_i hne
    obtain ⟨⟨n, cs⟩, hr, e⟩ := Option.bind_eq_some_iff.1 e
    obtain ⟨b, hb, e⟩ := Option.bind_eq_some_iff.1 e
    cases e
    obtain ⟨hu, hi, hby⟩ := hs
    have hel := hby rfl
    obtain ⟨vs, hsrc, hL, -⟩ := rows_sound hI (u := s) (k := .slice el esz bytes true) ⟨hu, hi, fun _ => hel⟩ rfl hx hr
    have hform : ∃ a l c, cx = .slice a l c := by
      unfold rowsOf at hr
      split at hr
      · cases hx; exact ⟨_, _, _, rfl⟩
      · cases hx with | sv hx => cases hx <;> exact ⟨_, _, _, rfl⟩
      · cases hx; exact ⟨_, _, _, rfl⟩
      · exact absurd rfl (hne _)
      · cases hr
    obtain ⟨a, l, c, rfl⟩ := hform
    have hl : l = n := by
      have := hsrc.len w
      simpa [Builtin.lenOf] using this
    subst hl
    obtain ⟨ns, rfl, rfl⟩ := bytes_vals _ _ _ hL hb
    refine ⟨.string ⟨(ns.map fun n => UInt8.ofNat n.toNat).toArray⟩, w, G, ?_, Mv.refl B G w, hI, .sv (.str _)⟩
    rw [run_convert_bytes_string w s t el a l c hu hel ht]
    cases a with
    | none =>
      have := hsrc.cells
      simp [Builtin.firstCells] at this
      subst this
      simp [Conv.bytesToString]
      rfl
    | some a =>
      have := hsrc.cells
      simp only [Builtin.firstCells, Nat.mul_one] at this
      rw [run_bytesToString w a l c ns this]
      have h2 := foldl_push ns []
      rw [List.nil_append] at h2
      rw [← h2]
      rfl

end
end Go.Proofs.Ytmhamnnfcmkcfaa
