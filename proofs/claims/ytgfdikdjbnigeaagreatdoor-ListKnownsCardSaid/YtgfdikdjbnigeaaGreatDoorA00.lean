/- Which functions there are is as the document says: the card of ListKnowns holds: for every name and number, the listed tables being as the program's text lays them. (A part of the way there: Core, Ops, Comp and what follows.) -/
import Derived.Calls
import Derived.Orders
import Derived.Defers
import Derived.KernelRfl
import Derived.Laws.IdiomCopy
import Derived.Laws.Rows
import Derived.Laws.NewBlocks
import Derived.Laws.BytesString
set_option linter.all false
set_option linter.deprecated false
namespace Go.AM
open Go

/-- Data without references: it stays as it is. -/
inductive D where
  | junk
  | any
  | bool (b : Bool)
  | int (k : IntKind) (n : Int)
  | str (s : List UInt8)
  | nilp
  | rop (xs : List D) (i off : Nat)
  | snil
  | ro (xs : List D) (tight : Bool)
  | mapn
  | fn (f : Fn) (first captured : List D)
  | fnil
  | ifc (t : TypeId) (v : D)
  | inil
  | agg (cs : List D)

/-- Values; those with references among them. -/
inductive V where
  | d (x : D)
  | ptr (id e i off : Nat)
  | sl (id e off len : Nat)
  | map (id : Nat)
  | fn (f : Fn) (first captured : List V)
  | ifc (t : TypeId) (v : V)
  | agg (cs : List V)
  | tup (vs : List V)

/-- Rows of the memory: owned cells (stamp, their type), frozen ones, owned ones of which the first n are frozen, a map, an iterator over a text. -/
inductive Row where
  | cells (e es : Nat) (xs : List V)
  | fz (e es : Nat) (xs : List D)
  | part (e es n : Nat) (xs : List V)
  | map (kvs : List (D × V))
  | iter (s : List UInt8) (pos : Nat)

inductive Rec where
  | none
  | idle
  | due (v : V)
  | done (v : V)

structure Dfr where
  f : FuncId
  args : List V

structure St where
  next : Nat
  rows : List (Nat × Row)
  dfr : List Dfr
  rc : Rec

def find : List (Nat × Row) → Nat → Option Row
  | [], _ => none
  | (j, r) :: l, id => bif Nat.beq j id then some r else find l id

def put : List (Nat × Row) → Nat → Row → List (Nat × Row)
  | [], id, r => [(id, r)]
  | (j, q) :: l, id, r => bif Nat.beq j id then (j, r) :: l else (j, q) :: put l id r

def keepBelow (n : Nat) : List (Nat × Row) → List (Nat × Row)
  | [] => []
  | (j, r) :: l => bif Nat.blt j n then (j, r) :: keepBelow n l else keepBelow n l

def allD : List V → Option (List D)
  | [] => some []
  | .d x :: l => match allD l with
    | some r => some (x :: r)
    | none => none
  | _ :: _ => none

def mkAgg (cs : List V) : V := match allD cs with
  | some ds => .d (.agg ds)
  | none => .agg cs

def mkIfc (t : TypeId) (v : V) : V := match v with
  | .d x => .d (.ifc t x)
  | v => .ifc t v

def mkFn (f : Fn) (a b : List V) : V := match allD a, allD b with
  | some x, some y => .d (.fn f x y)
  | _, _ => .fn f a b

/-- The cells of data; junk has none. -/
def D.cells : D → List D
  | .agg cs => cs
  | .junk => []
  | x => [x]

def V.cells : V → List V
  | .d x => x.cells.map .d
  | .agg cs => cs
  | .tup _ => []
  | v => [v]

/-- One cell's value. -/
def D.isCell : D → Bool
  | .agg _ => false
  | .junk => false
  | _ => true

def V.isCell : V → Bool
  | .d x => x.isCell
  | .agg _ => false
  | .tup _ => false
  | _ => true

def D.manyOf (rec : Value → Option D) : List Value → Option (List D)
  | [] => some []
  | v :: l => match rec v, D.manyOf rec l with
    | some x, some r => some (x :: r)
    | _, _ => none

/-- A constant of the program as data (so deep). -/
def D.ofValueN : Nat → Value → Option D
  | 0, _ => none
  | n + 1, v => match v with
    | .bool b => some (.bool b)
    | .int k n => some (.int k n)
    | .string s => some (.str s.data.toList)
    | .pointer none => some .nilp
    | .slice none 0 0 => some .snil
    | .map none => some .mapn
    | .nilFunc => some .fnil
    | .nilIface => some .inil
    | .agg cs => match D.manyOf (D.ofValueN n) cs.toList with
      | some l => bif l.all D.isCell then some (.agg l) else none
      | none => none
    | .iface t v => (D.ofValueN n v).map (.ifc t)
    | _ => none

def D.ofValue (v : Value) : Option D := D.ofValueN 8 v
end Go.AM
namespace Go.AM
open Go

inductive Pg (α : Type) where
  | ret (a : α)
  | fail
  | getR (id : Nat) (k : Row → Pg α)
  | setR (id : Nat) (r : Row) (k : Pg α)
  | new (r : Row) (k : Nat → Pg α)

def Pg.run {α : Type} : Pg α → St → Option (α × St)
  | .ret a, st => some (a, st)
  | .fail, _ => none
  | .getR id k, st => match find st.rows id with
    | some r => (k r).run st
    | none => none
  | .setR id r k, st => k.run { st with rows := put st.rows id r }
  | .new r k, st => (k st.next).run { st with next := st.next + 1, rows := (st.next, r) :: st.rows }

def Pg.bind {α β : Type} : Pg α → (α → Pg β) → Pg β
  | .ret a, f => f a
  | .fail, _ => .fail
  | .getR id k, f => .getR id fun r => (k r).bind f
  | .setR id r k, f => .setR id r (k.bind f)
  | .new r k, f => .new r fun i => (k i).bind f

def Pg.ofO {α : Type} : Option α → Pg α
  | some a => .ret a
  | none => .fail

/-- The footprint of a run: rows read, rows written, whether rows are made. -/
structure Fp where
  rd : List Nat
  wr : List Nat
  nw : Bool

def Pg.runL {α : Type} : Pg α → St → Fp → Option (α × St × Fp)
  | .ret a, st, fp => some (a, st, fp)
  | .fail, _, _ => none
  | .getR id k, st, fp => match find st.rows id with
    | some r => (k r).runL st { fp with rd := id :: fp.rd }
    | none => none
  | .setR id r k, st, fp => match find st.rows id with
    | some _ => k.runL { st with rows := put st.rows id r } { fp with wr := id :: fp.wr }
    | none => none
  | .new r k, st, fp => (k st.next).runL { st with next := st.next + 1, rows := (st.next, r) :: st.rows } { fp with wr := st.next :: fp.wr, nw := true }

/-! Parts of aggregates -/
def partD (off n : Nat) (agg : Bool) (x : D) : Option D :=
  match agg, x with
  | true, .agg cs => if off + n ≤ cs.length then some (.agg ((cs.drop off).take n)) else none
  | true, _ => none
  | false, .agg cs => cs[off]?
  | false, .junk => none
  | false, x => if off = 0 then some x else none

def vPart (off n : Nat) (agg : Bool) (x : V) : Option V :=
  match x with
  | .d y => match partD off n agg y with
    | some z => some (.d z)
    | none => none
  | .agg cs => bif agg then (if off + n ≤ cs.length then some (mkAgg ((cs.drop off).take n)) else none) else cs[off]?
  | .tup _ => none
  | x => bif agg then none else if off = 0 then some x else none

/-- A part of a struct's or an array's value. -/
def vPartA (off n : Nat) (agg : Bool) (x : V) : Option V :=
  match x with
  | .d (.agg cs) => vPart off n agg (.d (.agg cs))
  | .agg cs => vPart off n agg (.agg cs)
  | _ => none

/-- An element with some of its cells set. -/
def vSplice (x : V) (off : Nat) (cs : List V) : V :=
  match x, cs with
  | .d (.agg _), cs => mkAgg (x.cells.take off ++ cs ++ x.cells.drop (off + cs.length))
  | .agg l, cs => mkAgg (l.take off ++ cs ++ l.drop (off + cs.length))
  | _, [c] => c
  | x, _ => x

def vBool : V → Option Bool
  | .d (.bool b) => some b
  | _ => none

def vInt : V → Option (IntKind × Int)
  | .d (.int k n) => some (k, n)
  | _ => none

/-! Operations on memory -/
def loadP (n : Nat) (agg : Bool) (p : V) : Pg V :=
  match p with
  | .d (.rop xs i off) => match xs[i]? with
    | some x => match partD off n agg x with
      | some y => .ret (.d y)
      | none => .fail
    | none => .fail
  | .ptr id e i off => .getR id fun r => match r with
    | .cells e' _ xs => bif Nat.beq e e' then match xs[i]? with
      | some x => .ofO (vPart off n agg x)
      | none => .fail
      else .fail
    | .fz e' _ xs => bif Nat.beq e e' then match xs[i]? with
      | some x => match partD off n agg x with
        | some y => .ret (.d y)
        | none => .fail
      | none => .fail
      else .fail
    | _ => .fail
  | _ => .fail

def storeP (n : Nat) (p v : V) : Pg V :=
  match p with
  | .ptr id e i off => .getR id fun r => match r with
    | .cells e' t xs => bif Nat.beq e e' then match xs[i]? with
      | some x =>
        if off + n ≤ x.cells.length ∧ v.cells.length = n then
          .setR id (.cells e t (xs.set i (if off = 0 ∧ n = x.cells.length then v else vSplice x off v.cells))) (.ret (.d .junk))
        else .fail
      | none => .fail
      else .fail
    | _ => .fail
  | _ => .fail

def boxP (t : TypeId) (n : Nat) (v : V) : Pg V :=
  if v.cells.length = n then .new (.cells 1 t [v]) fun id => .ret (.ptr id 1 0 0) else .fail

def vNilCheck : V → Option V
  | .ptr id e i off => some (.ptr id e i off)
  | .d (.rop xs i off) => some (.d (.rop xs i off))
  | .d (.fn (.func f) a b) => some (.d (.fn (.func f) a b))
  | .fn (.func f) a b => some (.fn (.func f) a b)
  | _ => none

def vFieldAddr (off : Nat) : V → Option V
  | .ptr id e i o => some (.ptr id e i (o + off))
  | .d (.rop xs i o) => some (.d (.rop xs i (o + off)))
  | _ => none

/-- The address of an element, of n cells of the type el, of a slice. -/
def indexAddrP (el n : Nat) (x : V) (i : Int) : Pg V :=
  match x with
  | .d (.ro xs _) => if 0 ≤ i ∧ i < xs.length then (match xs[i.toNat]? with
    | some y => bif Nat.beq y.cells.length n then .ret (.d (.rop xs i.toNat 0)) else .fail
    | none => .fail) else .fail
  | .sl id e off len => if 0 ≤ i ∧ i < len then .getR id fun r => (match r with
    | .cells e' t _ => bif Nat.beq e e' && Nat.beq t el then .ret (.ptr id e (off + i.toNat) 0) else .fail
    | .fz e' t _ => bif Nat.beq e e' && Nat.beq t el then .ret (.ptr id e (off + i.toNat) 0) else .fail
    | _ => .fail) else .fail
  | _ => .fail

/-- The address of an element of an array at an address. -/
def vArrAddr (len size : Nat) (x : V) (i : Int) : Option V :=
  if 0 ≤ i ∧ i < len then vFieldAddr (i.toNat * size) x else none

def vIndexStr (s : List UInt8) (i : Int) : Option V :=
  if 0 ≤ i then match s[i.toNat]? with
    | some b => some (.d (.int .u8 b.toNat))
    | none => none
  else none

def boundOf (dflt : Nat) : Option V → Option Nat
  | none => some dflt
  | some (.d (.int _ i)) => if 0 ≤ i then some i.toNat else none
  | _ => none

/-- x[lo:hi] of a text -/
def vSliceS (x : V) (lo hi : Option V) : Option V :=
  match x with
  | .d (.str s) => match boundOf s.length hi, boundOf 0 lo with
    | some h, some l => if l ≤ h ∧ h ≤ s.length then some (.d (.str ((s.take h).drop l))) else none
    | _, _ => none
  | _ => none

/-- x[lo:hi] of a slice of elements, of n cells of the type el -/
def sliceP (el n : Nat) (x : V) (lo hi : Option V) : Pg V :=
  match x with
  | .d .snil => match boundOf 0 hi, boundOf 0 lo with
    | some h, some l => if l ≤ h ∧ h ≤ 0 then .ret (.d .snil) else .fail
    | _, _ => .fail
  | .d (.ro xs tight) => match boundOf xs.length hi, boundOf 0 lo with
    | some h, some l => if l ≤ h ∧ h ≤ xs.length then
        (if l = 0 then .ret (.d (.ro (xs.take h) (tight && Nat.beq h xs.length))) else match xs with
          | [] => .fail
          | y :: _ => bif Nat.beq y.cells.length n then .ret (.d (.ro ((xs.take h).drop l) (tight && Nat.beq h xs.length))) else .fail)
      else .fail
    | _, _ => .fail
  | .sl id e off len => match boundOf len hi, boundOf 0 lo with
    | some h, some l => if l ≤ h ∧ h ≤ len then
        (if l = 0 then .ret (.sl id e off h) else .getR id fun r => match r with
          | .cells e' t _ => bif Nat.beq e e' && Nat.beq t el then .ret (.sl id e (off + l) (h - l)) else .fail
          | .fz e' t _ => bif Nat.beq e e' && Nat.beq t el then .ret (.sl id e (off + l) (h - l)) else .fail
          | _ => .fail)
      else .fail
    | _, _ => .fail
  | _ => .fail

/-- Have all so many cells? -/
def lenAll (n : Nat) : List V → Bool
  | [] => true
  | v :: l => Nat.beq v.cells.length n && lenAll n l

def lenAllD (n : Nat) : List D → Bool
  | [] => true
  | v :: l => Nat.beq v.cells.length n && lenAllD n l

/-- The elements, of n cells, that a slice, or a text, has. -/
def elemsP (n : Nat) (x : V) : Pg (List V) :=
  match x with
  | .d .snil => .ret []
  | .d (.ro xs _) => bif lenAllD n xs then .ret (xs.map .d) else .fail
  | .d (.str s) => bif Nat.beq n 1 then .ret (s.map fun b => .d (.int .u8 b.toNat)) else .fail
  | .sl id e off len => .getR id fun r => match r with
    | .cells e' _ xs => bif Nat.beq e e' then (if off + len ≤ xs.length then (bif lenAll n xs then .ret ((xs.drop off).take len) else .fail) else .fail) else .fail
    | .fz e' _ xs => bif Nat.beq e e' then (if off + len ≤ xs.length then (bif lenAllD n xs then .ret (((xs.drop off).take len).map .d) else .fail) else .fail) else .fail
    | _ => .fail
  | _ => .fail

/-- How many cells a slice may grow to here. -/
def mostCells : Nat := 35184372088832

/-- append: elements behind a slice of the element type t, of so many bytes. -/
def appendP (t bytes n : Nat) (dst : V) (ys : List V) : Pg V :=
  match ys with
  | [] => match dst with
    | .d .snil => .ret dst
    | .d (.ro _ _) => .ret dst
    | .sl id e _ _ => .getR id fun r => match r with
      | .cells e' _ _ => bif Nat.beq e e' then .ret dst else .fail
      | .fz e' _ _ => bif Nat.beq e e' then .ret dst else .fail
      | _ => .fail
    | _ => .fail
  | _ :: _ => match dst with
    | .d .snil =>
      if ys.length * bytes ≤ mostCells then .new (.cells ys.length t ys) fun id => .ret (.sl id ys.length 0 ys.length) else .fail
    | .d (.ro xs true) =>
      if (xs.length + ys.length) * bytes ≤ mostCells ∧ lenAllD n xs = true then
        .new (.cells (xs.length + ys.length) t (xs.map .d ++ ys)) fun id => .ret (.sl id (xs.length + ys.length) 0 (xs.length + ys.length))
      else .fail
    | .sl id e off len => .getR id fun r => match r with
      | .cells e' t' xs => bif Nat.beq e e' && Nat.beq t t' then
          if off + len + ys.length ≤ xs.length then
            .setR id (.cells e t (xs.take (off + len) ++ ys ++ xs.drop (off + len + ys.length))) (.ret (.sl id e off (len + ys.length)))
          else if (len + ys.length) * bytes ≤ mostCells ∧ off + len ≤ xs.length then
            .setR id (.cells (e + ys.length) t ((xs.drop off).take len ++ ys)) (.ret (.sl id (e + ys.length) 0 (len + ys.length)))
          else .fail
        else .fail
      | .part e' t' k xs => bif Nat.beq e e' && Nat.beq t t' then
          if off + len + ys.length ≤ xs.length ∧ k ≤ off + len then
            .setR id (.part e t k (xs.take (off + len) ++ ys ++ xs.drop (off + len + ys.length))) (.ret (.sl id e off (len + ys.length)))
          else .fail
        else .fail
      | _ => .fail
    | _ => .fail

def makeSliceP (t : TypeId) (bytes : Nat) (z : D) (len cap : Int) : Pg V :=
  if 0 ≤ len ∧ len ≤ cap ∧ cap * bytes ≤ mostCells then
    .new (.cells 1 t (List.replicate len.toNat (.d z))) fun id => .ret (.sl id 1 0 len.toNat)
  else .fail

/-- copy(dst, elements) -/
def copyP (el : TypeId) (dst : V) (ys : List V) : Pg V :=
  match dst with
  | .d .snil => .ret (.d (.int .i64 0))
  | .sl id e off len => .getR id fun r => match r with
    | .cells e' t xs => bif Nat.beq e e' && Nat.beq el t then
        if off + len ≤ xs.length then
          if min len ys.length = 0 then .ret (.d (.int .i64 0)) else
          .setR id (.cells e t (xs.take off ++ ys.take len ++ xs.drop (off + min len ys.length))) (.ret (.d (.int .i64 (min len ys.length : Nat))))
        else .fail
      else .fail
    | _ => .fail
  | _ => .fail

def clearP (el : TypeId) (z : D) (x : V) : Pg V :=
  match x with
  | .d .snil => .ret (.tup [])
  | .sl id e off len => .getR id fun r => match r with
    | .cells e' t xs => bif Nat.beq e e' && Nat.beq el t then
        if off + len ≤ xs.length then
          if len = 0 then .ret (.tup []) else
          .setR id (.cells e t (xs.take off ++ List.replicate len (.d z) ++ xs.drop (off + len))) (.ret (.tup []))
        else .fail
      else .fail
    | _ => .fail
  | _ => .fail

/-- What a length, or a part, is of. -/
inductive LenT where
  | str | sl | map

def lenP (k : LenT) (x : V) : Pg V :=
  match k, x with
  | .str, .d (.str s) => .ret (.d (.int .i64 s.length))
  | .sl, .d .snil => .ret (.d (.int .i64 0))
  | .sl, .d (.ro xs _) => .ret (.d (.int .i64 xs.length))
  | .sl, .sl _ _ _ len => .ret (.d (.int .i64 len))
  | .map, .d .mapn => .ret (.d (.int .i64 0))
  | .map, .map id => .getR id fun r => match r with
    | .map kvs => .ret (.d (.int .i64 kvs.length))
    | _ => .fail
  | _, _ => .fail

/-- The room of a slice, where there is none. -/
def vCap : V → Option V
  | .d .snil => some (.d (.int .i64 0))
  | .sl _ e _ _ => bif Nat.beq e 0 then some (.d (.int .i64 0)) else none
  | _ => none

/-! Maps: keys are numbers, texts, bools -/
def keyEq : D → D → Option Bool
  | .int k a, .int j b => if k = j then some (a == b) else none
  | .str a, .str b => some (a == b)
  | .bool a, .bool b => some (a == b)
  | _, _ => none

def mapGet (key : D) : List (D × V) → Option (Option V)
  | [] => some none
  | (k, v) :: l => match keyEq key k with
    | some true => some (some v)
    | some false => mapGet key l
    | none => none

def mapSet (key : D) (x : V) : List (D × V) → Option (List (D × V))
  | [] => some [(key, x)]
  | (k, v) :: l => match keyEq key k with
    | some true => some ((key, x) :: l)
    | some false => match mapSet key x l with
      | some r => some ((k, v) :: r)
      | none => none
    | none => none

inductive KeyT where
  | int (k : IntKind) | str | bool

def keyKind : KeyT → D → Bool
  | .int k, .int k' _ => k == k'
  | .str, .str _ => true
  | .bool, .bool _ => true
  | _, _ => false

def lookupP (key : D) (z : D) (ok : Bool) (m : V) : Pg V :=
  let out (r : Option V) : V := match r with
    | some v => bif ok then .tup [v, .d (.bool true)] else v
    | none => bif ok then .tup [.d z, .d (.bool false)] else .d z
  match m with
  | .d .mapn => .ret (out none)
  | .map id => .getR id fun r => match r with
    | .map kvs => match mapGet key kvs with
      | some r => .ret (out r)
      | none => .fail
    | _ => .fail
  | _ => .fail

def mapUpdateP (key : D) (x : V) (m : V) : Pg V :=
  match m with
  | .map id => .getR id fun r => match r with
    | .map kvs => match mapSet key x kvs with
      | some l => .setR id (.map l) (.ret (.d .junk))
      | none => .fail
    | _ => .fail
  | _ => .fail

/-! Ranges over texts -/
def bytesOf (s : List UInt8) : ByteArray := ⟨s.toArray⟩

/-- The code point at a place, and its width. -/
def decodeAt (s : List UInt8) (i : Nat) : Nat × Nat :=
  let at' (k : Nat) : Nat := (s.getD (i + k) 0).toNat
  let cont (k : Nat) : Bool := Nat.blt (i + k) s.length && Nat.beq (at' k / 64) 2
  let b0 := at' 0
  if b0 < 0x80 then (b0, 1)
  else if b0 / 32 == 6 && cont 1 then
    let c := (b0 % 32) * 64 + at' 1 % 64
    if c ≥ 0x80 then (c, 2) else (Utf8.runeError, 1)
  else if b0 / 16 == 14 && cont 1 && cont 2 then
    let c := (b0 % 16) * 4096 + (at' 1 % 64) * 64 + at' 2 % 64
    if c ≥ 0x800 && Utf8.valid c then (c, 3) else (Utf8.runeError, 1)
  else if b0 / 8 == 30 && cont 1 && cont 2 && cont 3 then
    let c := (b0 % 8) * 262144 + (at' 1 % 64) * 4096 + (at' 2 % 64) * 64 + at' 3 % 64
    if c ≥ 0x10000 && Utf8.valid c then (c, 4) else (Utf8.runeError, 1)
  else (Utf8.runeError, 1)

def rangeP (x : V) : Pg V :=
  match x with
  | .d (.str s) => .new (.iter s 0) fun id => .ret (.ptr id 0 0 0)
  | _ => .fail

def nextP (x : V) : Pg V :=
  match x with
  | .ptr id 0 0 0 => .getR id fun r => match r with
    | .iter s pos =>
      if pos < s.length then
        .setR id (.iter s (pos + (decodeAt s pos).2)) (.ret (.tup [.d (.bool true), .d (.int .i64 pos), .d (.int .i32 (decodeAt s pos).1)]))
      else .ret (.tup [.d (.bool false)])
    | _ => .fail
  | _ => .fail

/-! Signs -/
def vShift (op : BinOp) (k : IntKind) (x y : Int) : Option D :=
  if y < 0 then none else
    match op with
    | .shl => some (.int k (k.wrap (x * 2 ^ (min y.toNat k.bits))))
    | .shr => some (.int k (x.fdiv (2 ^ (min y.toNat k.bits))))
    | _ => none

def intOp (op : BinOp) (k : IntKind) (x y : Int) : Option D :=
  match op with
  | .add => some (.int k (k.wrap (x + y)))
  | .sub => some (.int k (k.wrap (x - y)))
  | .mul => some (.int k (k.wrap (x * y)))
  | .quo => if y = 0 then none else some (.int k (k.wrap (x.tdiv y)))
  | .rem => if y = 0 then none else some (.int k (x.tmod y))
  | .and => some (.int k (k.wrap (BitVec.ofInt k.bits x &&& BitVec.ofInt k.bits y).toNat))
  | .or => some (.int k (k.wrap (BitVec.ofInt k.bits x ||| BitVec.ofInt k.bits y).toNat))
  | .xor => some (.int k (k.wrap (BitVec.ofInt k.bits x ^^^ BitVec.ofInt k.bits y).toNat))
  | .andNot => some (.int k (k.wrap (BitVec.ofInt k.bits x &&& ~~~BitVec.ofInt k.bits y).toNat))
  | .eql => some (.bool (x == y))
  | .neq => some (.bool (x != y))
  | .lss => some (.bool (decide (x < y)))
  | .leq => some (.bool (decide (x ≤ y)))
  | .gtr => some (.bool (decide (x > y)))
  | .geq => some (.bool (decide (x ≥ y)))
  | _ => none

def strOp (op : BinOp) (x y : List UInt8) : Option D :=
  match op with
  | .add => if x.length + y.length ≤ 4611686018427387904 then some (.str (x ++ y)) else none
  | .eql => some (.bool (x == y))
  | .neq => some (.bool (!(x == y)))
  | .lss => some (.bool (Op.bytesLess x y))
  | .leq => some (.bool (Op.bytesLess x y || x == y))
  | .gtr => some (.bool (!(Op.bytesLess x y || x == y)))
  | .geq => some (.bool (!Op.bytesLess x y))
  | _ => none

def nilPtr : V → Option Bool
  | .d .nilp => some true
  | .d (.rop _ _ _) => some false
  | .ptr _ _ _ _ => some false
  | _ => none
def nilSl : V → Option Bool
  | .d .snil => some true
  | .d (.ro _ _) => some false
  | .sl _ e _ _ => some (Nat.beq e 0)
  | _ => none
def nilMap : V → Option Bool
  | .d .mapn => some true
  | .map _ => some false
  | _ => none
def nilFn : V → Option Bool
  | .d .fnil => some true
  | .d (.fn _ _ _) => some false
  | .fn _ _ _ => some false
  | _ => none
def nilIfc : V → Option Bool
  | .d .inil => some true
  | .d (.ifc _ _) => some false
  | .ifc _ _ => some false
  | _ => none

/-- == of scalars. -/
def eqS : D → D → Option Bool
  | .bool a, .bool b => some (a == b)
  | .int k a, .int j b => if k = j then some (a == b) else none
  | .str a, .str b => some (a == b)
  | _, _ => none

/-- == of structs, cell by cell. -/
def eqCells (a b : List D) : List (Nat × KeyT) → Option Bool
  | [] => some true
  | (i, k) :: l => match a[i]?, b[i]? with
    | some x, some y => bif keyKind k x then (match eqS x y with
      | some true => eqCells a b l
      | some false => some false
      | none => none) else none
    | _, _ => none

/-- What == is asked of. -/
inductive EqT where
  | ptr | sl | map | fn | ifc | scalar
  | struct (leaves : List (Nat × KeyT))
  | bad

def vEq (t : EqT) (x y : V) : Option Bool :=
  match t, x, y with
  | .ptr, .d .nilp, y => nilPtr y
  | .ptr, x, .d .nilp => nilPtr x
  | .ptr, .ptr a e i o, .ptr a' e' i' o' => bif Nat.beq a a' && Nat.beq e e' && Nat.beq i i' && Nat.beq o o' then some true else none
  | .sl, .d .snil, y => nilSl y
  | .sl, x, .d .snil => nilSl x
  | .map, .d .mapn, y => nilMap y
  | .map, x, .d .mapn => nilMap x
  | .fn, .d .fnil, y => nilFn y
  | .fn, x, .d .fnil => nilFn x
  | .ifc, .d .inil, y => nilIfc y
  | .ifc, x, .d .inil => nilIfc x
  | .struct l, .d (.agg a), .d (.agg b) => eqCells a b l
  | .scalar, .d (.bool a), .d (.bool b) => some (a == b)
  | _, _, _ => none

def isIfc : EqT → Bool
  | .ifc => true
  | _ => false

def vBin (op : BinOp) (t : EqT) (cx : Bool) (x y : V) : Option V :=
  match op, x, y with
  | .shl, .d (.int k a), .d (.int _ b) => match vShift .shl k a b with | some z => some (.d z) | none => none
  | .shr, .d (.int k a), .d (.int _ b) => match vShift .shr k a b with | some z => some (.d z) | none => none
  | op, .d (.int k a), .d (.int j b) => if k = j then (match intOp op k a b with | some z => some (.d z) | none => none) else none
  | op, .d (.str a), .d (.str b) => match strOp op a b with | some z => some (.d z) | none => none
  | .eql, .d .inil, .d .inil => bif cx && isIfc t then some (.d (.bool true)) else none
  | .neq, .d .inil, .d .inil => bif cx && isIfc t then some (.d (.bool false)) else none
  | .eql, x, y => match vEq t x y with | some b => some (.d (.bool b)) | none => none
  | .neq, x, y => match vEq t x y with | some b => some (.d (.bool (!b))) | none => none
  | _, _, _ => none

def vUn (op : UnOp) (x : V) : Option V :=
  match op, x with
  | .neg, .d (.int k n) => some (.d (.int k (k.wrap (0 - n))))
  | .xor, .d (.int k n) => some (.d (.int k (k.wrap (BitVec.ofInt k.bits (if k.signed then -1 else k.max) ^^^ BitVec.ofInt k.bits n).toNat)))
  | .not, .d (.bool b) => some (.d (.bool (!b)))
  | _, _ => none

def byteOfD : V → Option UInt8
  | .d (.int .u8 n) => some (UInt8.ofNat n.toNat)
  | _ => none

def bytesOfVs : List V → Option (List UInt8)
  | [] => some []
  | v :: l => match byteOfD v, bytesOfVs l with
    | some b, some r => some (b :: r)
    | _, _ => none

/-- Conversions. -/
inductive Conv where
  | int (k : IntKind)
  | istr
  | str
  | s2b (e : TypeId)
  | b2s
  | pout
  | pas (ok : List (TypeId × Nat))
  | bad

/-! Bytes as texts, and pointers seen otherwise -/
def vSliceData : V → Option V
  | .d .snil => some (.d .nilp)
  | .sl id e off len => bif Nat.beq e 0 then some (.d .nilp) else bif Nat.beq len 0 then none else some (.ptr id e off 0)
  | _ => none

/-- Bytes of a row as a text: the row stays as it is from then on. -/
def unsafeStringP (u : TypeId) (p : V) (n : Int) : Pg V :=
  match p with
  | .d .nilp => if n = 0 then .ret (.d (.str [])) else .fail
  | .ptr id e i 0 => if n ≤ 0 ∨ 9223372036854775807 < n then .fail else .getR id fun r => match r with
    | .part e' t k xs => bif Nat.beq e e' && (Nat.beq t u && Nat.beq i 0) then
        if n.toNat ≤ xs.length then match bytesOfVs (xs.take n.toNat) with
          | some b => .setR id (.part e t (max k n.toNat) xs) (.ret (.d (.str b)))
          | none => .fail
        else .fail
      else .fail
    | .cells e' t xs => bif Nat.beq e e' && Nat.beq t u then
        if i + n.toNat ≤ xs.length then bif Nat.beq e 1 && Nat.beq i 0 then (match bytesOfVs (xs.take n.toNat) with
          | some b => .setR id (.part e t n.toNat xs) (.ret (.d (.str b)))
          | none => .fail) else match allD xs, bytesOfVs ((xs.drop i).take n.toNat) with
          | some ds, some b => .setR id (.fz e t ds) (.ret (.d (.str b)))
          | _, _ => .fail
        else .fail
      else .fail
    | _ => .fail
  | _ => .fail

/-- A pointer as one without a type. -/
def ptrOutP (p : V) : Pg V :=
  match p with
  | .d .nilp => .ret (.d .nilp)
  | .ptr id e i off => .getR id fun r => match r with
    | .cells e' _ xs => bif Nat.beq e e' then (match xs[i]? with
      | some x => if off < x.cells.length then .ret (.ptr id e i off) else .fail
      | none => .fail) else .fail
    | _ => .fail
  | _ => .fail

def memP (t o : Nat) : List (TypeId × Nat) → Bool
  | [] => false
  | (u, p) :: l => (Nat.beq u t && Nat.beq p o) || memP t o l

/-- A pointer seen as one to a type: a variable of that type lies there, by what is known of the row's type. -/
def ptrAsP (ok : List (TypeId × Nat)) (p : V) : Pg V :=
  match p with
  | .d .nilp => .ret (.d .nilp)
  | .ptr id e i off => .getR id fun r => match r with
    | .cells e' t xs => bif Nat.beq e e' && Nat.beq e 1 && Nat.beq i 0 && memP t off ok then (match xs with
      | [] => .fail
      | _ :: _ => .ret (.ptr id e 0 off)) else .fail
    | _ => .fail
  | _ => .fail

def convP (c : Conv) (x : V) : Pg V :=
  match c with
  | .int k => match x with
    | .d (.int _ n) => .ret (.d (.int k (k.wrap n)))
    | _ => .fail
  | .istr => match x with
    | .d (.int _ n) => .ret (.d (.str (Utf8.encode n).data.toList))
    | _ => .fail
  | .str => match x with
    | .d (.str s) => .ret (.d (.str s))
    | _ => .fail
  | .s2b e => match x with
    | .d (.str s) => .new (.cells (s.length + 2) e (s.map fun b => .d (.int .u8 b.toNat))) fun id => .ret (.sl id (s.length + 2) 0 s.length)
    | _ => .fail
  | .b2s => match x with
    | .d (.str _) => .fail
    | x => (elemsP 1 x).bind fun l => match bytesOfVs l with
      | some b => .ret (.d (.str b))
      | none => .fail
  | .pout => ptrOutP x
  | .pas ok => ptrAsP ok x
  | .bad => .fail

/-! Freezing -/
def eachP (f : V → Pg V) : List V → Pg (List V)
  | [] => .ret []
  | v :: l => (f v).bind fun y => (eachP f l).bind fun r => .ret (y :: r)

def noTup : List V → Bool
  | [] => true
  | .tup _ :: _ => false
  | _ :: l => noTup l

/-- A list of values as data, what lies within being frozen first. -/
def freezeP : Nat → V → Pg V
  | 0, _ => .fail
  | n + 1, v => match v with
    | .d x => .ret (.d x)
    | .sl id e off len => .getR id fun r => match r with
      | .cells e' t xs => bif Nat.beq e e' then
          bif Nat.beq e 0 then .ret (.d .snil) else
          match allD xs with
          | some ds => if off + len ≤ ds.length then .setR id (.fz e t ds) (.ret (.d (.ro ((ds.drop off).take len) false))) else .fail
          | none => bif noTup xs then (eachP (freezeP n) xs).bind fun ys => match allD ys with
            | some ds => .getR id fun r' => match r' with
              | .cells e' t' _ => bif Nat.beq e e' then (if off + len ≤ ds.length then .setR id (.fz e t' ds) (.ret (.d (.ro ((ds.drop off).take len) false))) else .fail) else .fail
              | _ => .fail
            | none => .fail
            else .fail
          else .fail
      | .fz e' _ ds => bif Nat.beq e e' then (if off + len ≤ ds.length then .ret (.d (.ro ((ds.drop off).take len) false)) else .fail) else .fail
      | _ => .fail
    | .agg cs => (eachP (freezeP n) cs).bind fun ys => .ret (mkAgg ys)
    | .tup cs => (eachP (freezeP n) cs).bind fun ys => .ret (.tup ys)
    | .ifc t w => (freezeP n w).bind fun y => .ret (mkIfc t y)
    | v => .ret v

end Go.AM
namespace Go.AM
open Go

/-! # The program's text, made ready: no types are asked when it runs -/

/-- An operand. -/
inductive CO where
  | t (i : Nat)
  | c (x : D)

inductive COp where
  | mov (x : CO)
  | nilv (e : TypeId)
  | pick (c a b : CO)
  | box (t : TypeId) (n : Nat) (x : CO)
  | boxn (t : TypeId) (n : Nat) (agg : Bool) (es : List (Option TypeId)) (z : List D)
  | build (z : D) (parts : List (Nat × Nat × CO))
  | bslice (e : TypeId) (n len : Nat) (z : D) (row : Bool) (parts : List (Nat × CO))
  | load (n : Nat) (agg : Bool) (a : CO)
  | store (n : Nat) (a x : CO)
  | nilc (x : CO)
  | bin (op : BinOp) (t : EqT) (cx : Bool) (x y : CO)
  | un (op : UnOp) (x : CO)
  | conv (c : Conv) (x : CO)
  | ifc (t : TypeId) (x : CO)
  | mkfn (f : FuncId) (first captured : List CO)
  | mkmap
  | mkslice (e bytes : Nat) (z : D) (l c : CO)
  | sstr (x : CO) (lo hi : Option CO)
  | slice (el n : Nat) (x : CO) (lo hi : Option CO)
  | faddr (off : Nat) (x : CO)
  | field (off n : Nat) (agg : Bool) (x : CO)
  | iaddr (el n : Nat) (x i : CO)
  | aaddr (len size : Nat) (x i : CO)
  | istr (x i : CO)
  | iarr (len size : Nat) (agg : Bool) (x i : CO)
  | look (k : KeyT) (z : D) (ok : Bool) (x i : CO)
  | mapup (k : KeyT) (m i x : CO)
  | range (x : CO)
  | next (x : CO)
  | tass (t : TypeId) (z : D) (ok : Bool) (x : CO)
  | ext (x : CO) (i : Nat)
  | app (e bytes n : Nat) (x y : CO)
  | len (k : LenT) (x : CO)
  | lenc (n : Nat)
  | cap (x : CO)
  | copy (el n : Nat) (x y : CO)
  | clear (e : TypeId) (z : D) (x : CO)
  | mx (b : Bool) (x : CO) (l : List CO)
  | rcv
  | sldata (x : CO)
  | ustr (u : TypeId) (x n : CO)
  | call (f : CO) (args : List CO)
  | pcall (f : FuncId) (args : List CO)
  | dfr (f : CO) (args : List CO)
  | pan (x : CO)
  | bad

structure COper where
  dst : Option Nat
  op : COp

/-- Operations behind one guard. -/
structure Grp where
  guard : Option (Nat × Bool)
  ops : List COper

/-- How a region's order is drawn: not at all; so that by kind nothing meets; so that what meets is looked at; in one of two orders (the other one is told). -/
inductive Draw where
  | no
  | stat
  | dyn (pr : List (List Nat))
  | flip (gs : List Grp)

inductive CCode where
  | skip
  | region (id : Nat) (live : Option (List Nat)) (gs : List Grp) (draw : Draw)
  | seq (a b : CCode)
  | cond (c : CO) (x y : CCode)
  | block (id : Nat) (b : CCode)
  | loop (b : CCode)
  | exit (id : Nat)
  | ret
  | bad

inductive CRes where
  | tmp (t : Nat)
  | cell (a n : Nat) (agg : Bool)

structure CFn where
  ntmps : Nat
  results : List CRes
  keepRet : Bool
  defers : Bool
  code : CCode

/-- What a proof may choose at a function. -/
structure Hint where
  live : List (Nat × List Nat)
  vec : List Nat
  lit : List Nat
  keepRet : Bool
  pas : List (TypeId × Nat)
  pures : List FuncId
  gl : List (Nat × D)

def memN (n : Nat) : List Nat → Bool
  | [] => false
  | a :: l => Nat.beq a n || memN n l

/-! ## Types -/
def tySize (P : Program) (t : TypeId) : Option Nat := (P.info? t).map (·.size)
def tyZero (P : Program) (t : TypeId) : Option D := match P.info? t with
  | some i => match i.zero with
    | some z => D.ofValue z
    | none => none
  | none => none
def tyAgg (P : Program) (t : TypeId) : Option Bool := match P.underlying t with
  | some (.struct _) => some true
  | some (.array _ _) => some true
  | some _ => some false
  | none => none
def tyElem (P : Program) (t : TypeId) : Option TypeId := match P.underlying t with
  | some (.slice e) => some e
  | _ => none

def leavesFs (P : Program) (rec : TypeId → Nat → Option (List (Nat × KeyT))) (off : Nat) : List Field → Option (List (Nat × KeyT))
  | [] => some []
  | f :: fs => if f.name = "_" then leavesFs P rec off fs else
    match rec f.type (off + f.offset), tySize P f.type, leavesFs P rec off fs with
    | some a, some m, some b => bif a.all (fun p => Nat.ble (off + f.offset) p.1 && Nat.blt p.1 (off + f.offset + m)) then some (a ++ b) else none
    | _, _, _ => none

/-- The cells that == of a struct looks at; none: it is not of numbers, bools and texts. -/
def leavesOf (P : Program) : Nat → TypeId → Nat → Option (List (Nat × KeyT))
  | 0, _, _ => none
  | n + 1, t, off => match P.underlying t with
    | some .bool => some [(off, .bool)]
    | some (.int k) => some [(off, .int k)]
    | some .string => some [(off, .str)]
    | some (.struct fs) => if P.stoodInHeld t then none else leavesFs P (leavesOf P n) off fs.toList
    | _ => none

def eqTOf (P : Program) (t : TypeId) : EqT := match P.underlying t with
  | some (.pointer e) => match tySize P e with
    | some n => if n = 0 then .bad else .ptr
    | none => .bad
  | some (.slice _) => .sl
  | some (.map _ _) => .map
  | some (.func _ _ _) => .fn
  | some (.interface _) => .ifc
  | some .bool => .scalar
  | some (.struct _) => if P.eqGuardType P.depth t then .bad else match leavesOf P 8 t 0 with
    | some l => .struct l
    | none => .bad
  | _ => .bad

/-- The types of a type's cells. -/
def cellTypes (P : Program) : Nat → TypeId → List TypeId
  | 0, _ => []
  | n + 1, t => match P.underlying t with
    | some (.struct fs) => fs.toList.flatMap fun f => cellTypes P n f.type
    | some (.array k e) => (List.replicate k (cellTypes P n e)).flatten
    | _ => [t]

/-! ## The translation -/
/-- What a package-level variable holds (it is only read). -/
def globAt : List (Nat × D) → Nat → Option D
  | [], _ => none
  | (g, x) :: l, n => bif Nat.beq g n then some x else globAt l n

def cArg (gl : List (Nat × D)) : Operand → Option CO
  | .tmp t => some (.t t)
  | .const c => match D.ofValue c with
    | some x => some (.c x)
    | none => none
  | .func f => some (.c (.fn (.func f) [] []))
  | .global g => match globAt gl g with
    | some x => some (.c (.rop [x] 0 0))
    | none => none

def cArgs (gl : List (Nat × D)) : List Operand → Option (List CO)
  | [] => some []
  | o :: l => match cArg gl o, cArgs gl l with
    | some v, some r => some (v :: r)
    | _, _ => none

def cArgO (gl : List (Nat × D)) : Option Operand → Option (Option CO)
  | none => some none
  | some o => match cArg gl o with
    | some v => some (some v)
    | none => none

def isNilSlice : Operand → Bool
  | .const (.slice none 0 0) => true
  | _ => false

def isConstO : Operand → Bool
  | .const _ => true
  | _ => false

def cParts (gl : List (Nat × D)) : List (Nat × Operand) → Option (List (Nat × CO))
  | [] => some []
  | (i, o) :: l => match cArg gl o, cParts gl l with
    | some v, some r => some ((i, v) :: r)
    | _, _ => none

def cFields (P : Program) (fs : Array Field) (n : Nat) : List (Nat × CO) → Option (List (Nat × Nat × CO))
  | [] => some []
  | (i, v) :: l => match fs[i]? with
    | some f => match tySize P f.type, cFields P fs n l with
      | some k, some r => if k ≠ 0 ∧ f.offset + k ≤ n then some ((f.offset, k, v) :: r) else none
      | _, _ => none
    | none => none

def cElems (size n : Nat) : List (Nat × CO) → Option (List (Nat × Nat × CO))
  | [] => some []
  | (i, v) :: l => match cElems size n l with
    | some r => if size ≠ 0 ∧ i * size + size ≤ n then some ((i * size, size, v) :: r) else none
    | none => none

def bad1 (x : Option COp) : COp := match x with
  | some c => c
  | none => .bad

def memO (d : Option Nat) (l : List Nat) : Bool := match d with
  | some d => memN d l
  | none => false

def cBuiltin (P : Program) (b : Builtin) (ts : List TypeId) (args : List CO) : COp :=
  match b, args with
  | .append, [x, y] => match ts with
    | t :: u :: _ => match tyElem P t, P.underlying u with
      | some _, some (.int _) => .bad
      | some e, some _ => match P.info? e with
        | some i => match tyZero P e with
          | some z => if i.size = 0 ∨ i.bytes = 0 ∨ 1048576 < i.bytes ∨ z.cells.length ≠ i.size then .bad else .app e i.bytes i.size x y
          | none => .bad
        | none => .bad
      | _, _ => .bad
    | _ => .bad
  | .len, [x] => match ts with
    | t :: _ => match P.underlying t with
      | some (.array n _) => .lenc n
      | some .string => .len .str x
      | some (.slice _) => .len .sl x
      | some (.map _ _) => .len .map x
      | _ => .bad
    | _ => .bad
  | .cap, [x] => match ts with
    | t :: _ => match P.underlying t with
      | some (.slice _) => .cap x
      | _ => .bad
    | _ => .bad
  | .copy, [x, y] => match ts with
    | t :: _ => match tyElem P t with
      | some e => match tySize P e with
        | some n => if n = 0 then .bad else .copy e n x y
        | none => .bad
      | none => .bad
    | _ => .bad
  | .clear, [x] => match ts with
    | t :: _ => match tyElem P t with
      | some e => match tyZero P e with
        | some z => (match tySize P e with
        | some n => if n = 0 ∨ z.cells.length ≠ n then .bad else .clear e z x
        | none => .bad)
        | none => .bad
      | none => .bad
    | _ => .bad
  | .max, x :: l => .mx true x l
  | .min, x :: l => .mx false x l
  | .recover, [] => .rcv
  | .unsafeSliceData, [x] => .sldata x
  | .unsafeString, [x, n] => match ts with
    | t :: _ => match P.underlying t with
      | some (.pointer u) => match P.underlying u with
        | some (.int .u8) => if tySize P u = some 1 then .ustr u x n else .bad
        | _ => .bad
      | _ => .bad
    | _ => .bad
  | _, _ => .bad

def cConv (P : Program) (h : Hint) (src dst : TypeId) : Conv :=
  match P.underlying src, P.underlying dst with
  | some (.int _), some (.int k) => .int k
  | some (.int _), some .string => .istr
  | some .string, some .string => .str
  | some .string, some (.slice e) => match P.underlying e with
    | some (.int .u8) => if tySize P e = some 1 then .s2b e else .bad
    | _ => .bad
  | some (.slice e), some .string => match P.underlying e with
    | some (.int .u8) => .b2s
    | _ => .bad
  | some (.pointer t), some .unsafePointer => match tySize P t with
    | some n => if n = 0 then .bad else .pout
    | none => .bad
  | some .unsafePointer, some (.pointer u) => if h.pas.all (fun (t, o) => liesAt P P.depth t 1 o u 1) && (tySize P u).isSome then .pas h.pas else .bad
  | _, _ => .bad

def cOp (P : Program) (h : Hint) (o : Oper) : COp :=
  match o.op with
  | .move x => bad1 ((cArg h.gl x).map .mov)
  | .assign x => if isNilSlice x && memO o.dst h.vec then bad1 ((tyElem P o.type).map .nilv) else bad1 ((cArg h.gl x).map .mov)
  | .pick c a b => match cArg h.gl c, cArg h.gl a, cArg h.gl b with
    | some c, some a, some b => .pick c a b
    | _, _, _ => .bad
  | .alloc t => match tyZero P t, tySize P t, tyAgg P t with
    | some z, some n, some g => if n = 0 ∨ z.cells.length ≠ n ∨ z.isCell = g then .bad else
      if memO o.dst h.vec then .boxn t n g ((cellTypes P 8 t).map fun u => tyElem P u) z.cells else .box t n (.c z)
    | _, _, _ => .bad
  | .box t x => match cArg h.gl x, tySize P t with
    | some v, some n => if n = 0 then .bad else .box t n v
    | _, _ => .bad
  | .build t parts => match tyZero P t, cParts h.gl parts.toList with
    | some (.agg zs), some l => match P.underlying t with
      | some (.struct fs) => if fs.toList.all (fun f => (tySize P f.type).isSome) then bad1 ((cFields P fs zs.length l).map (.build (.agg zs))) else .bad
      | some (.array _ e) => match tySize P e with
        | some k => bad1 ((cElems k zs.length l).map (.build (.agg zs)))
        | none => .bad
      | _ => .bad
    | _, _ => .bad
  | .buildSlice t len parts => match tyElem P t, cParts h.gl parts.toList with
    | some e, some l => match tyZero P e, tySize P e with
      | some z, some n => if n = 0 ∨ 65536 < len * n ∨ z.cells.length ≠ n ∨ l.any (fun (i, _) => len ≤ i) then .bad else .bslice e n len z (memO o.dst h.lit) l
      | _, _ => .bad
    | _, _ => .bad
  | .load t a => match cArg h.gl a, tySize P t, tyAgg P t with
    | some p, some n, some b => if b = false ∧ n ≠ 1 then .bad else .load n b p
    | _, _, _ => .bad
  | .store t a x => match cArg h.gl a, cArg h.gl x, tySize P t with
    | some p, some v, some n => if n = 0 then .bad else .store n p v
    | _, _, _ => .bad
  | .nilCheck x => bad1 ((cArg h.gl x).map .nilc)
  | .binOp op t x y _ => match cArg h.gl x, cArg h.gl y with
    | some a, some b => .bin op (eqTOf P t) (isConstO x || isConstO y) a b
    | _, _ => .bad
  | .unOp op _ x => bad1 ((cArg h.gl x).map (.un op))
  | .convert src dst x => bad1 ((cArg h.gl x).map (.conv (cConv P h src dst)))
  | .makeInterface t x => match cArg h.gl x, P.underlying t with
    | some _, some (.interface _) => .bad
    | some a, some _ => .ifc t a
    | _, _ => .bad
  | .makeFunc fn first captured => match fn, cArgs h.gl first.toList, cArgs h.gl captured.toList with
    | .func f, some a, some b => .mkfn f a b
    | _, _, _ => .bad
  | .makeMap t none => match P.underlying t with
    | some (.map _ _) => .mkmap
    | _ => .bad
  | .makeSlice t l c => match cArg h.gl l, cArg h.gl c, tyElem P t with
    | some a, some b, some e => match tyZero P e, P.info? e with
      | some z, some i => if i.size = 0 ∨ i.bytes = 0 ∨ 1048576 < i.bytes ∨ z.cells.length ≠ i.size then .bad else .mkslice e i.bytes z a b
      | _, _ => .bad
    | _, _, _ => .bad
  | .slice t x lo hi none => match P.underlying t, cArg h.gl x, cArgO h.gl lo, cArgO h.gl hi with
    | some .string, some v, some l, some h => .sstr v l h
    | some (.slice e), some v, some l, some h => match tySize P e with
      | some n => if n = 0 then .bad else .slice e n v l h
      | none => .bad
    | _, _, _, _ => .bad
  | .fieldAddr t x f => match P.underlying t, cArg h.gl x with
    | some (.struct fs), some v => match fs[f]? with
      | some fd => match tySize P fd.type with
        | some n => if n = 0 then .bad else .faddr fd.offset v
        | none => .bad
      | none => .bad
    | _, _ => .bad
  | .field t x f => match P.underlying t, cArg h.gl x with
    | some (.struct fs), some v => match fs[f]? with
      | some fd => match tySize P fd.type, tyAgg P fd.type with
        | some n, some b => if b = false ∧ n ≠ 1 then .bad else .field fd.offset n b v
        | _, _ => .bad
      | none => .bad
    | _, _ => .bad
  | .indexAddr t x i => match P.underlying t, cArg h.gl x, cArg h.gl i with
    | some (.slice e), some v, some w => match tySize P e with
      | some n => if n = 0 then .bad else .iaddr e n v w
      | none => .bad
    | some (.array len e), some v, some w => match tySize P e with
      | some z => .aaddr len z v w
      | none => .bad
    | _, _, _ => .bad
  | .index t x i => match P.underlying t, cArg h.gl x, cArg h.gl i with
    | some .string, some v, some w => .istr v w
    | some (.array len e), some v, some w => match tySize P e, tyAgg P e with
      | some z, some g => if g = false ∧ z ≠ 1 then .bad else .iarr len z g v w
      | _, _ => .bad
    | _, _, _ => .bad
  | .lookup t x i ok => match P.underlying t, cArg h.gl x, cArg h.gl i with
    | some (.map k e), some v, some w => match tyZero P e, P.underlying k with
      | some z, some (.int j) => .look (.int j) z ok v w
      | some z, some .string => .look .str z ok v w
      | some z, some .bool => .look .bool z ok v w
      | _, _ => .bad
    | _, _, _ => .bad
  | .mapUpdate t m k x => cMapUp t m k x
  | .insert t m k x => cMapUp t m k x
  | .range t x => match P.underlying t, cArg h.gl x with
    | some .string, some v => .range v
    | _, _ => .bad
  | .next it true => bad1 ((cArg h.gl it).map .next)
  | .typeAssert x _ t ok => match P.underlying t, cArg h.gl x, tyZero P t with
    | some (.interface _), _, _ => .bad
    | some _, some v, some z => .tass t z ok v
    | _, _, _ => .bad
  | .extract t i => bad1 ((cArg h.gl t).map fun v => .ext v i)
  | .call c => match c.callee with
    | .builtin b => match cArgs h.gl c.args.toList with
      | some args => cBuiltin P b c.argTypes.toList args
      | none => .bad
    | .value f => match cArg h.gl f, cArgs h.gl c.args.toList with
      | some fv, some args => .call fv args
      | _, _ => .bad
    | .invoke _ _ => .bad
  | .defer c => match c.callee with
    | .value f => match cArg h.gl f, cArgs h.gl c.args.toList with
      | some fv, some args => .dfr fv args
      | _, _ => .bad
    | _ => .bad
  | .panic x => bad1 ((cArg h.gl x).map .pan)
  | _ => .bad
where
  cMapUp (t : TypeId) (m k x : Operand) : COp := match P.underlying t, cArg h.gl m, cArg h.gl k, cArg h.gl x with
    | some (.map kt _), some v, some key, some w => match P.underlying kt with
      | some (.int j) => .mapup (.int j) v key w
      | some .string => .mapup .str v key w
      | some .bool => .mapup .bool v key w
      | _ => .bad
    | _, _, _, _ => .bad

/-- The slot that a guard asks, and what is wanted; none: there is no such operation. -/
def cGuard (ops : Array Oper) (o : Oper) : Option (Option (Nat × Bool)) := match o.guard with
  | none => some none
  | some (j, want) => match ops[j]? with
    | some g => match g.dst with
      | some d => some (some (d, want))
      | none => none
    | none => none

def sameGuard : Option (Nat × Bool) → Option (Nat × Bool) → Bool
  | none, none => true
  | some (a, b), some (c, d) => Nat.beq a c && b == d
  | _, _ => false

/-- One operation more ahead of groups. -/
def addOp (g : Option (Nat × Bool)) (o : COper) : List Grp → List Grp
  | [] => [⟨g, [o]⟩]
  | ⟨g', l⟩ :: r => if sameGuard g g' then ⟨g', o :: l⟩ :: r else ⟨g, [o]⟩ :: ⟨g', l⟩ :: r

/-- In a region that draws its order a call of a pure function takes data alone. -/
def quietCall (h : Hint) (draw : Bool) (o : COp) : COp := match draw, o with
  | true, .call (.c (.fn (.func f) [] [])) args => if memN f h.pures then .pcall f args else o
  | _, o => o

def cGroups (P : Program) (h : Hint) (draw : Bool) (ops : Array Oper) : List Oper → Option (List Grp)
  | [] => some []
  | o :: l => match cGuard ops o, cGroups P h draw ops l with
    | some g, some r => some (addOp g ⟨o.dst, quietCall h draw (cOp P h o)⟩ r)
    | _, _ => none

def addN (l : List Nat) : List Nat → List Nat
  | [] => l
  | a :: r => addN (if memN a l then l else a :: l) r

def precOf : List (List Nat) → Nat → List Nat
  | [], _ => []
  | a :: l, n => Nat.casesOn (motive := fun _ => List Nat) n a (fun n => precOf l n)

def precAdd (acc : List (List Nat)) : List Edge → List Nat → List Nat
  | [], r => r
  | e :: l, r => precAdd acc l (if Region.binds .any e then addN (addN r [e.on]) (precOf acc e.on) else r)

/-- The operations ahead of each one. -/
def precsFrom : List Oper → List (List Nat) → List (List Nat)
  | [], acc => acc
  | o :: l, acc => precsFrom l (acc ++ [precAdd acc o.after.toList []])

def precs (ops : List Oper) : List (List Nat) := precsFrom ops []

/-- What an operation may do to memory, by its kind: nothing, read, anything. -/
inductive Kind3 where
  | quiet | reads | loud

def COp.kind : COp → Kind3
  | .load _ _ _ | .len _ _ | .look _ _ _ _ _ | .iaddr _ _ _ _ | .slice _ _ _ _ _ => .reads
  | .mov _ | .pick _ _ _ | .build _ _ | .nilc _ | .bin _ _ _ _ _ | .un _ _ | .ifc _ _ | .mkfn _ _ _ | .sstr _ _ _ | .faddr _ _ | .field _ _ _ _ | .aaddr _ _ _ _ | .istr _ _ | .iarr _ _ _ _ _
  | .pcall _ _ | .tass _ _ _ _ | .ext _ _ | .lenc _ | .cap _ | .mx _ _ _ | .sldata _ => .quiet
  | .conv c _ => match c with
    | .int _ | .istr | .str => .quiet
    | .b2s | .pout | .pas _ => .reads
    | _ => .loud
  | _ => .loud

def meet3 : Kind3 → Kind3 → Bool
  | .quiet, _ => false
  | _, .quiet => false
  | .reads, .reads => false
  | _, _ => true

def stat1 (p : List Nat) (k : Kind3) : List (Nat × Kind3) → Bool
  | [] => true
  | (i, a) :: l => (memN i p || !meet3 a k) && stat1 p k l

/-- All that meet by kind are in order. -/
def statAll (pr : List (List Nat)) : Nat → List (Nat × Kind3) → List Kind3 → Bool
  | _, _, [] => true
  | j, seen, k :: l => stat1 (precOf pr j) k seen && statAll pr (j + 1) ((j, k) :: seen) l

/-- What binds an operation: those that are to be ahead of it. -/
def bindsOf (o : Oper) : List Nat := (o.after.toList.filter (Region.binds .any)).map (·.on)

def noGuards : List Oper → Bool
  | [] => true
  | o :: l => (match o.guard with | none => true | some _ => false) && noGuards l

/-- Four operations of which the second and the third stand in either order. -/
def flipOf (P : Program) (h : Hint) (ops : List Oper) : Option (List Grp) := match ops with
  | [a, b, c, d] => bif noGuards [a, b, c, d] && ((bindsOf a == []) && ((bindsOf b == [0]) && ((bindsOf c == [0]) && (bindsOf d == [0, 0, 1, 2])))) then cGroups P h true [a, b, c, d].toArray [a, c, b, d] else none
  | _ => none

/-- A literal slice of data is quiet, whatever it takes: it makes no row. -/
def drawOf (P : Program) (h : Hint) (ops : List Oper) : Draw :=
  if statAll (precs ops) 0 [] (ops.map fun o => (quietCall h true (cOp P h o)).kind) then .stat else match flipOf P h ops with
    | some gs => .flip gs
    | none => .dyn (precs ops)

def cCode (P : Program) (h : Hint) : Code → CCode
  | .skip => .skip
  | .region id ops draw => match cGroups P h draw ops ops.toList with
    | some l => .region id (h.live.lookup id) l (if draw then drawOf P h ops.toList else .no)
    | none => .bad
  | .seq a b => .seq (cCode P h a) (cCode P h b)
  | .cond c x y => match cArg h.gl c with
    | some v => .cond v (cCode P h x) (cCode P h y)
    | none => .bad
  | .block id b => .block id (cCode P h b)
  | .loop b => .loop (cCode P h b)
  | .exit id => .exit id
  | .ret => .ret
  | _ => .bad

def hasDefer : Code → Bool
  | .region _ ops _ => ops.toList.any fun o => match o.op with | .defer _ => true | _ => false
  | .seq a b => hasDefer a || hasDefer b
  | .cond _ a b => hasDefer a || hasDefer b
  | .block _ b => hasDefer b
  | .loop b => hasDefer b
  | _ => false

def cResults (P : Program) : List ResultVar → Option (List CRes)
  | [] => some []
  | .tmp t :: l => match cResults P l with
    | some r => some (.tmp t :: r)
    | none => none
  | .cell a t :: l => match tySize P t, tyAgg P t, cResults P l with
    | some n, some b, some r => if b = false ∧ n ≠ 1 then none else some (.cell a n b :: r)
    | _, _, _ => none

def compile (P : Program) (h : Hint) (fn : Func) : Option CFn := match fn.body, cResults P fn.results.toList with
  | some c, some r => some ⟨fn.ntmps, r, h.keepRet, hasDefer c, cCode P h c⟩
  | _, _ => none

end Go.AM
namespace Go.AM
open Go

inductive Res where
  | ret (v : V)
  | pan (v : V)

abbrev Out := Res × St

structure Cfg where
  fn : FuncId → Option CFn
  isPure : FuncId → Bool
  keepArgs : FuncId → Bool
  drop : FuncId → Bool
  sp : FuncId → Option (List V → Pg V)

abbrev Env := FuncId → List V → St → Option Out

def nth : List V → Nat → Option V
  | [], _ => none
  | v :: l, n => Nat.casesOn (motive := fun _ => Option V) n (some v) (fun n => nth l n)

def setN : List V → Nat → V → List V
  | [], _, _ => []
  | v :: l, n, x => Nat.casesOn (motive := fun _ => List V) n (x :: l) (fun n => v :: setN l n x)

def arg (s : List V) : CO → Option V
  | .t i => nth s i
  | .c x => some (.d x)

def argL (s : List V) : List CO → Option (List V)
  | [] => some []
  | o :: l => match arg s o with
    | some v => match argL s l with
      | some r => some (v :: r)
      | none => none
    | none => none

def argO (s : List V) : Option CO → Option (Option V)
  | none => some none
  | some o => match arg s o with
    | some v => some (some v)
    | none => none

inductive OpK where
  | o (x : Option V)
  | val (p : Pg V)
  | call (fv : V) (args : List V)
  | pcall (f : FuncId) (args : List V)
  | panv (v : V)
  | dfr (fv : V) (args : List V)
  | rcv
  | bad

abbrev OpK.ofO (o : Option V) : OpK := .o o

def k1 (s : List V) (x : CO) (f : V → OpK) : OpK := match arg s x with
  | some v => f v
  | none => .bad

def k2 (s : List V) (x y : CO) (f : V → V → OpK) : OpK := match arg s x with
  | some v => match arg s y with
    | some w => f v w
    | none => .bad
  | none => .bad

/-- An aggregate's parts put in their places. -/
def buildV (s : List V) (z : V) : List (Nat × Nat × CO) → Option V
  | [] => some z
  | (off, n, o) :: l => match arg s o with
    | some v => bif Nat.beq v.cells.length n then buildV s (vSplice z off v.cells) l else none
    | none => none

def setAll (s : List V) (n : Nat) (xs : List V) : List (Nat × CO) → Option (List V)
  | [] => some xs
  | (i, o) :: l => match arg s o with
    | some v => bif Nat.beq v.cells.length n then setAll s n (setN xs i v) l else none
    | none => none

def buildV' (z : V) : List (Nat × Nat × V) → Option V
  | [] => some z
  | (off, n, v) :: l => bif Nat.beq v.cells.length n then buildV' (vSplice z off v.cells) l else none

def setAll' (n : Nat) (xs : List V) : List (Nat × V) → Option (List V)
  | [] => some xs
  | (i, v) :: l => bif Nat.beq v.cells.length n then setAll' n (setN xs i v) l else none

def mxV (mx : Bool) : V → V → Option V
  | .d (.int k x), .d (.int _ y) => some (.d (.int k (bif mx then (if y > x then y else x) else (if y < x then y else x))))
  | _, _ => none

def mxAll (mx : Bool) : V → List V → Option V
  | x, [] => some x
  | x, y :: l => match mxV mx x y with
    | some z => mxAll mx z l
    | none => none

/-- Each nil slice among cells begins a row of its own. -/
def nilRows : List (Option TypeId) → List D → Pg (List V)
  | some e :: ts, .snil :: l => .new (.cells 0 e []) fun id => (nilRows ts l).bind fun r => .ret (.sl id 0 0 0 :: r)
  | _ :: ts, v :: l => (nilRows ts l).bind fun r => .ret (.d v :: r)
  | [], [] => .ret []
  | _, _ => .fail

def oneOrAgg (agg : Bool) (cs : List V) : V := bif agg then mkAgg cs else match cs with
  | [c] => c
  | l => mkAgg l

/-! Operations on values -/
def vPick (c : V) (a b : Option V) : Option V := match vBool c with
  | some t => bif t then a else b
  | none => none

def iaddrP (el n : Nat) (v w : V) : Pg V := match vInt w with
  | some (_, i) => indexAddrP el n v i
  | none => .fail

def vAaddr (len size : Nat) (v w : V) : Option V := match vInt w with
  | some (_, n) => vArrAddr len size v n
  | none => none

def vIstr (v w : V) : Option V := match v with
  | .d (.str b) => match vInt w with
    | some (_, n) => vIndexStr b n
    | none => none
  | _ => none

def vIarr (len size : Nat) (g : Bool) (v w : V) : Option V := match vInt w with
  | some (_, n) => if 0 ≤ n ∧ n < len then vPartA (n.toNat * size) size g v else none
  | none => none

def vTass (t : TypeId) (z : D) (ok : Bool) (v : V) : Option V := match v with
  | .d .inil => bif ok then some (.tup [.d z, .d (.bool false)]) else none
  | .d (.ifc u w) => bif Nat.beq u t then (bif ok then some (.tup [.d w, .d (.bool true)]) else some (.d w))
    else (bif ok then some (.tup [.d z, .d (.bool false)]) else none)
  | .ifc u w => bif Nat.beq u t then (bif ok then some (.tup [w, .d (.bool true)]) else some w)
    else (bif ok then some (.tup [.d z, .d (.bool false)]) else none)
  | _ => none

def vExt (v : V) (i : Nat) : Option V := match v with
  | .tup vs => nth vs i
  | _ => none

def mkSliceP (e bytes : Nat) (z : D) (a b : V) : Pg V := match a with
  | .d (.int _ m) => match b with
    | .d (.int _ n) => makeSliceP e bytes z m n
    | _ => .fail
  | _ => .fail

def lookP (k : KeyT) (z : D) (ok : Bool) (v w : V) : Pg V := match w with
  | .d key => bif keyKind k key then lookupP key z ok v else .fail
  | _ => .fail

def mapupP (k : KeyT) (v w y : V) : Pg V := match w with
  | .d key => bif keyKind k key then mapUpdateP key y v else .fail
  | _ => .fail

def appP (e bytes n : Nat) (a b : V) : Pg V := (elemsP n b).bind fun ys => appendP e bytes n a ys
def copyVP (el n : Nat) (a b : V) : Pg V := (elemsP n b).bind fun ys => copyP el a ys
def ustrP (u : TypeId) (v w : V) : Pg V := match vInt w with
  | some (_, k) => unsafeStringP u v k
  | none => .fail

def litP (e len : Nat) (row : Bool) (xs : List V) : Pg V :=
  bif row then .new (.cells (len + 1) e xs) fun id => .ret (.sl id (len + 1) 0 len)
  else match allD xs with
    | some ds => .ret (.d (.ro ds true))
    | none => .new (.cells (len + 1) e xs) fun id => .ret (.sl id (len + 1) 0 len)

def optP (e len : Nat) (row : Bool) (x : Option (List V)) : Pg V := match x with
  | some xs => litP e len row xs
  | none => .fail

def opK (op : COp) (s : List V) : OpK :=
  match op with
  | .mov x => .o (arg s x)
  | .nilv e => .val (.new (.cells 0 e []) fun id => .ret (.sl id 0 0 0))
  | .pick c a b => k1 s c fun v => .o (vPick v (arg s a) (arg s b))
  | .box t n x => k1 s x fun v => .val (boxP t n v)
  | .boxn t n g es z => .val ((nilRows es z).bind fun cs => boxP t n (oneOrAgg g cs))
  | .build z parts => .o (buildV s (.d z) parts)
  | .bslice e n len z row parts => .val (optP e len row (setAll s n (List.replicate len (.d z)) parts))
  | .load n b a => k1 s a fun p => .val (loadP n b p)
  | .store n a x => k2 s a x fun p v => .val (storeP n p v)
  | .nilc x => k1 s x fun v => .o (vNilCheck v)
  | .bin op t cx x y => k2 s x y fun a b => .o (vBin op t cx a b)
  | .un op x => k1 s x fun a => .o (vUn op a)
  | .conv c x => k1 s x fun a => .val (convP c a)
  | .ifc t x => k1 s x fun a => .o (some (mkIfc t a))
  | .mkfn f a b => match argL s a with
    | some a => match argL s b with
      | some b => .o (some (mkFn (.func f) a b))
      | none => .bad
    | none => .bad
  | .mkmap => .val (.new (.map []) fun id => .ret (.map id))
  | .mkslice e bytes z l c => k2 s l c fun a b => .val (mkSliceP e bytes z a b)
  | .sstr x lo hi => k1 s x fun v => match argO s lo with
    | some l => match argO s hi with
      | some h => .o (vSliceS v l h)
      | none => .bad
    | none => .bad
  | .slice el n x lo hi => k1 s x fun v => match argO s lo with
    | some l => match argO s hi with
      | some h => .val (sliceP el n v l h)
      | none => .bad
    | none => .bad
  | .faddr off x => k1 s x fun v => .o (vFieldAddr off v)
  | .field off n b x => k1 s x fun v => .o (vPartA off n b v)
  | .iaddr el n x i => k2 s x i fun v w => .val (iaddrP el n v w)
  | .aaddr len size x i => k2 s x i fun v w => .o (vAaddr len size v w)
  | .istr x i => k2 s x i fun v w => .o (vIstr v w)
  | .iarr len size g x i => k2 s x i fun v w => .o (vIarr len size g v w)
  | .look k z ok x i => k2 s x i fun v w => .val (lookP k z ok v w)
  | .mapup k m i x => k2 s m i fun v w => k1 s x fun y => .val (mapupP k v w y)
  | .range x => k1 s x fun v => .val (rangeP v)
  | .next x => k1 s x fun v => .val (nextP v)
  | .tass t z ok x => k1 s x fun v => .o (vTass t z ok v)
  | .ext x i => k1 s x fun v => .o (vExt v i)
  | .app e bytes n x y => k2 s x y fun a b => .val (appP e bytes n a b)
  | .len k x => k1 s x fun v => .val (lenP k v)
  | .lenc n => .o (some (.d (.int .i64 n)))
  | .cap x => k1 s x fun v => .o (vCap v)
  | .copy el n x y => k2 s x y fun a b => .val (copyVP el n a b)
  | .clear el z x => k1 s x fun a => .val (clearP el z a)
  | .mx b x l => k1 s x fun v => match argL s l with
    | some l => .o (mxAll b v l)
    | none => .bad
  | .rcv => .rcv
  | .sldata x => k1 s x fun v => .o (vSliceData v)
  | .ustr u x n => k2 s x n fun v w => .val (ustrP u v w)
  | .call f args => k1 s f fun fv => match argL s args with
    | some l => .call fv l
    | none => .bad
  | .pcall f args => match argL s args with
    | some l => .pcall f l
    | none => .bad
  | .dfr f args => k1 s f fun fv => match argL s args with
    | some l => .dfr fv l
    | none => .bad
  | .pan x => k1 s x fun v => .panv v
  | .bad => .bad

/-! Calls -/
def fnOf : V → Option (FuncId × List V × List V)
  | .d (.fn (.func f) a b) => some (f, a.map .d, b.map .d)
  | .fn (.func f) a b => some (f, a, b)
  | _ => none

def allTupD : V → Bool
  | .d _ => true
  | .tup vs => match allD vs with
    | some _ => true
    | none => false
  | _ => false

def st0 : St := { next := 0, rows := [], dfr := [], rc := .none }

/-- A call without the caller's memory: data in, data out. -/
def pureCall (E : Env) (f : FuncId) (args : List V) : Option Res :=
  match allD args with
  | some _ => match E f args st0 with
    | some (.ret v, _) => bif allTupD v then some (.ret v) else none
    | some (.pan v, _) => match v with
      | .d x => some (.pan (.d x))
      | _ => none
    | none => none
  | none => none

def sharedCall (C : Cfg) (E : Env) (f : FuncId) (args : List V) (st : St) : Option Out :=
  match E f args { st with dfr := [], rc := .none } with
  | some (r, st') => some (r, { next := st'.next, rows := bif C.drop f then keepBelow st.next st'.rows else st'.rows, dfr := st.dfr, rc := st.rc })
  | none => none

def callF0 (C : Cfg) (E : Env) (fv : V) (args : List V) (st : St) : Option Out :=
  match fnOf fv with
  | some (f, a, b) =>
    bif C.keepArgs f then sharedCall C E f (a ++ args ++ b) st else
    match (eachP (freezeP 4) args).run st with
    | some (args', st') =>
      bif C.isPure f then (match pureCall E f (a ++ args' ++ b) with
        | some r => some (r, st')
        | none => none)
      else sharedCall C E f (a ++ args' ++ b) st'
    | none => none
  | none => none

/-- What is given for a function in place of its text: a program over rows. -/
def spOf (C : Cfg) (fv : V) (args : List V) : Option (Pg V) := match fnOf fv with
  | some (f, a, b) => match C.sp f with
    | some g => some (g (a ++ args ++ b))
    | none => none
  | none => none

def spRun (p : Pg V) (st : St) : Option Out := match p.run st with
  | some (v, st') => some (.ret v, st')
  | none => none

def callF (C : Cfg) (E : Env) (fv : V) (args : List V) (st : St) : Option Out := match spOf C fv args with
  | some p => spRun p st
  | none => callF0 C E fv args st

def pcallF (E : Env) (f : FuncId) (args : List V) (st : St) : Option Out := match pureCall E f args with
  | some r => some (r, st)
  | none => none

/-! A region's operations, one after the other -/
def putS (s : List V) (d : Option Nat) (v : V) : List V := match d with
  | some d => setN s d v
  | none => s

/-- A guard's word: is what stands behind it wanted? -/
def wantV (want : Bool) (v : V) : Option Bool := match v with
  | .d (.bool b) => some (b == want)
  | .tup _ => some false
  | _ => none

/-- Is what stands behind a guard wanted? -/
def wantedV (s : List V) (g : Option (Nat × Bool)) : Option Bool := match g with
  | none => some true
  | some (d, want) => match nth s d with
    | some v => wantV want v
    | none => none

def rcOut : Rec → V × Rec
  | .due v => (v, .done v)
  | r => (.d .inil, r)

/-! What follows an operation -/
def o1 {α : Type} (x : Option V) (k : V → Option α) : Option α := match x with
  | some v => k v
  | none => none
def p1 {α : Type} (p : Pg V) (st : St) (k : V → St → Option α) : Option α := match p.run st with
  | some (v, st') => k v st'
  | none => none
def c1 {α : Type} (x : Option Out) (k : V → St → Option α) (kp : V → St → Option α) : Option α := match x with
  | some (.ret v, st') => k v st'
  | some (.pan v, st') => kp v st'
  | none => none
def pn1 {α : Type} (v : V) (st : St) (kp : V → St → Option α) : Option α := match v with
  | .d (.ifc t x) => kp (.d (.ifc t x)) st
  | _ => none
def df1 {α : Type} (fv : V) (args : List V) (st : St) (k : V → St → Option α) : Option α := match fnOf fv with
  | some (f, a, b) => k (.tup []) { st with dfr := ⟨f, a ++ args ++ b⟩ :: st.dfr }
  | none => none
def rc1 {α : Type} (st : St) (k : V → St → Option α) : Option α := match st.rc with
  | .none => none
  | r => k (rcOut r).1 { st with rc := (rcOut r).2 }

/-- An operation, and what follows: k behind its value, kp behind its panic. -/
def opC {α : Type} (C : Cfg) (E : Env) (op : COp) (s : List V) (st : St) (k : V → St → Option α) (kp : V → St → Option α) : Option α :=
  match opK op s with
  | .o x => o1 x fun v => k v st
  | .val p => p1 p st k
  | .call fv args => c1 (callF C E fv args st) k kp
  | .pcall f args => c1 (pcallF E f args st) k kp
  | .panv v => pn1 v st kp
  | .dfr fv args => df1 fv args st k
  | .rcv => rc1 st k
  | .bad => none

def opsC {α : Type} (C : Cfg) (E : Env) (k : List V → St → Option α) (kp : V → List V → St → Option α) : List COper → List V → St → Option α
  | [], s, st => k s st
  | o :: l, s, st => opC C E o.op s st (fun v st' => opsC C E k kp l (putS s o.dst v) st') (fun v st' => kp v s st')

/-- What a guarded group leaves: its values, or a panic. -/
inductive GRes where
  | ok (vs : List V) (st : St)
  | pan (v : V) (st : St)

def dsts : List COper → List Nat
  | [] => []
  | o :: l => match o.dst with
    | some d => d :: dsts l
    | none => dsts l

def pickN (s : List V) : List Nat → List V
  | [] => []
  | d :: l => (match nth s d with | some v => v | none => .tup []) :: pickN s l

def nthV (vs : List V) (i : Nat) : V := match nth vs i with
  | some v => v
  | none => .tup []

def putAll (vs : List V) : Nat → List Nat → List V → List V
  | _, [], s => s
  | i, d :: l, s => putAll vs (i + 1) l (setN s d (nthV vs i))

def tups : List Nat → List V
  | [] => []
  | _ :: l => .tup [] :: tups l

def w1 {α : Type} (x : Option Bool) (a b : Option α) : Option α := match x with
  | some t => bif t then a else b
  | none => none

def grpC (C : Cfg) (E : Env) (g : Nat × Bool) (ops : List COper) (s : List V) (st : St) : Option GRes :=
  w1 (wantedV s (some g)) (opsC C E (fun s' st' => some (.ok (pickN s' (dsts ops)) st')) (fun v _ st' => some (.pan v st')) ops s st)
    (some (.ok (tups (dsts ops)) st))

def g1 {α : Type} (x : Option GRes) (k : List V → St → Option α) (kp : V → St → Option α) : Option α := match x with
  | some (.ok vs st') => k vs st'
  | some (.pan v st') => kp v st'
  | none => none

def evGs {α : Type} (C : Cfg) (E : Env) (k : List V → St → Option α) (kp : V → List V → St → Option α) : List Grp → List V → St → Option α
  | [], s, st => k s st
  | ⟨none, ops⟩ :: l, s, st => opsC C E (fun s st => evGs C E k kp l s st) kp ops s st
  | ⟨some g, ops⟩ :: l, s, st => g1 (grpC C E g ops s st) (fun vs st' => evGs C E k kp l (putAll vs 0 (dsts ops) s) st') (fun v st' => kp v s st')

/-! Regions that draw their order: footprints, and the order of those that meet -/
structure Log where
  fp : Fp
  all : Bool

def lg0 : Log := ⟨⟨[], [], false⟩, false⟩
def pl1 {α : Type} (p : Pg V) (st : St) (k : V → St → Log → Option α) : Option α := match p.runL st ⟨[], [], false⟩ with
  | some (v, st', fp) => k v st' ⟨fp, false⟩
  | none => none
def cl1 {α : Type} (x : Option Out) (k : V → St → Log → Option α) : Option α := match x with
  | some (.ret v, st') => k v st' ⟨⟨[], [], false⟩, true⟩
  | _ => none

def cl2 {α : Type} (C : Cfg) (E : Env) (fv : V) (args : List V) (st : St) (k : V → St → Log → Option α) : Option α := match spOf C fv args with
  | some p => pl1 p st k
  | none => cl1 (callF0 C E fv args st) k

def opCL {α : Type} (C : Cfg) (E : Env) (op : COp) (s : List V) (st : St) (k : V → St → Log → Option α) : Option α :=
  match opK op s with
  | .o x => o1 x fun v => k v st lg0
  | .val p => pl1 p st k
  | .call fv args => cl2 C E fv args st k
  | .pcall f args => c1 (pcallF E f args st) (fun v st => k v st lg0) (fun _ _ => none)
  | _ => none

/-- Do two footprints meet? (Nothing written is read or written by the other.) -/
def meetsN (a : List Nat) : List Nat → Bool
  | [] => false
  | b :: l => memN b a || meetsN a l

def Log.meets (a b : Log) : Bool :=
  (a.all && (b.all || b.fp.nw || !b.fp.rd.isEmpty || !b.fp.wr.isEmpty)) || (b.all && (a.fp.nw || !a.fp.rd.isEmpty || !a.fp.wr.isEmpty)) ||
  (a.fp.nw && b.fp.nw) || meetsN a.fp.rd b.fp.wr || meetsN b.fp.rd a.fp.wr || meetsN a.fp.wr b.fp.wr

def allSeen (p : List Nat) (b : Log) : List (Nat × Log) → Bool
  | [] => true
  | (i, a) :: l => (memN i p || !a.meets b) && allSeen p b l

/-- All that meet are in order (the latest first). -/
def okLogs (pr : List (List Nat)) : List (Nat × Log) → Bool
  | [] => true
  | (j, b) :: l => allSeen (precOf pr j) b l && okLogs pr l

def opsCL {α : Type} (C : Cfg) (E : Env) (k : Nat → List (Nat × Log) → List V → St → Option α) : Nat → List COper → List (Nat × Log) → List V → St → Option α
  | i, [], logs, s, st => k i logs s st
  | i, o :: l, logs, s, st => opCL C E o.op s st fun v st' lg => opsCL C E k (i + 1) l ((i, lg) :: logs) (putS s o.dst v) st'

/-- Groups that draw, guards being met or not as they stand. -/
def evGsL {α : Type} (C : Cfg) (E : Env) (pr : List (List Nat)) (k : List V → St → Option α) : Nat → List Grp → List (Nat × Log) → List V → St → Option α
  | _, [], logs, s, st => bif okLogs pr logs then k s st else none
  | i, ⟨g, ops⟩ :: l, logs, s, st => match wantedV s g with
    | some true => opsCL C E (fun i logs s st => evGsL C E pr k i l logs s st) i ops logs s st
    | some false => evGsL C E pr k (i + ops.length) l logs (putAll [] 0 (dsts ops) s) st
    | none => none

/-! Leaving a function -/
inductive Md where
  | ret
  | pan (v : V)

def resultsV (s : List V) : List CRes → Option (List (V × Option (Nat × Bool)))
  | [] => some []
  | .tmp t :: l => match nth s t with
    | some v => match resultsV s l with
      | some r => some ((v, none) :: r)
      | none => none
    | none => none
  | .cell a n b :: l => match nth s a with
    | some p => match resultsV s l with
      | some r => some ((p, some (n, b)) :: r)
      | none => none
    | none => none

def readRes : List (V × Option (Nat × Bool)) → Pg (List V)
  | [] => .ret []
  | (v, none) :: l => (readRes l).bind fun r => .ret (v :: r)
  | (p, some (n, b)) :: l => (loadP n b p).bind fun v => (readRes l).bind fun r => .ret (v :: r)

def oneOrTup : List V → V
  | [v] => v
  | l => .tup l

/-- The results as they are told. -/
def tell (keep : Bool) (rs : List (V × Option (Nat × Bool))) (st : St) : Option Out :=
  match (readRes rs).run st with
  | some (vs, st') => bif keep then some (.ret (oneOrTup vs), st')
    else match (freezeP 5 (oneOrTup vs)).run st' with
      | some (v, st'') => some (.ret v, st'')
      | none => none
  | none => none

def leaveD (E : Env) (keep : Bool) (rs : List (V × Option (Nat × Bool))) : Nat → Md → St → Option Out
  | 0, _, _ => none
  | n + 1, md, st => match st.dfr with
    | [] => match md with
      | .ret => tell keep rs st
      | .pan v => some (.pan v, st)
    | d :: ds => match E d.f d.args { st with dfr := [], rc := match md with | .ret => .idle | .pan v => .due v } with
      | some (.ret _, st') => match md, st'.rc with
        | .ret, .idle => leaveD E keep rs n .ret { st' with dfr := ds, rc := st.rc }
        | .pan _, .done _ => leaveD E keep rs n .ret { st' with dfr := ds, rc := st.rc }
        | .pan _, .due v => leaveD E keep rs n (.pan v) { st' with dfr := ds, rc := st.rc }
        | _, _ => none
      | _ => none

/-- Leaving with what is deferred (never from within what is deferred). -/
def leaveDn (E : Env) (keep : Bool) (rs : List (V × Option (Nat × Bool))) (md : Md) (st : St) : Option Out := match st.rc with
  | .none => leaveD E keep rs 8 md st
  | _ => none

def tell0 (keep : Bool) (rs : List (V × Option (Nat × Bool))) (st : St) : Option Out := match st.dfr with
  | [] => tell keep rs st
  | _ :: _ => none

def pan0 (v : V) (st : St) : Option Out := match st.dfr with
  | [] => some (.pan v, st)
  | _ :: _ => none

def leaveR (E : Env) (fn : CFn) (s : List V) (st : St) : Option Out :=
  match resultsV s fn.results with
  | some rs => bif fn.defers then leaveDn E fn.keepRet rs .ret st else tell0 fn.keepRet rs st
  | none => none

def leaveP (E : Env) (fn : CFn) (v : V) (s : List V) (st : St) : Option Out :=
  bif fn.defers then (match resultsV s fn.results with
    | some rs => leaveDn E fn.keepRet rs (.pan v) st
    | none => none) else pan0 v st

/-! The run of a function's text -/
inductive CItem where
  | code (c : CCode)
  | inBlock (id : Nat)
  | inLoop (b : CCode)

def maskGo (l : List Nat) : List V → Nat → List V
  | [], _ => []
  | v :: r, i => (bif memN i l then v else .d .junk) :: maskGo l r (i + 1)

def liveAt (h : Option (List Nat)) (s : List V) : List V := match h with
  | some l => maskGo l s 0
  | none => s

def exitC (id : Nat) : List CItem → Option (List CItem)
  | [] => none
  | .inBlock j :: k => bif Nat.beq j id then some k else exitC id k
  | _ :: k => exitC id k

def b1 {α : Type} (v : V) (a b : Option α) : Option α := match vBool v with
  | some t => bif t then a else b
  | none => none

/-- The slots of a block: its values in their places. -/
def spread : Nat → Nat → List Nat → List V → List V
  | 0, _, _, _ => []
  | n + 1, i, l :: L, x :: xs => bif Nat.beq l i then x :: spread n (i + 1) L xs else .d .junk :: spread n (i + 1) (l :: L) (x :: xs)
  | n + 1, i, L, xs => .d .junk :: spread n (i + 1) L xs

/-! Are two ends the same? -/
def eqL {α : Type} (f : α → α → Bool) : List α → List α → Bool
  | [], [] => true
  | x :: l, y :: r => f x y && eqL f l r
  | _, _ => false

def eqF : Fn → Fn → Bool
  | .func a, .func b => Nat.beq a b
  | _, _ => false

def eqD : Nat → D → D → Bool
  | 0, _, _ => false
  | n + 1, x, y => match x, y with
    | .junk, .junk => true
    | .any, .any => true
    | .bool a, .bool b => a == b
    | .int k a, .int j b => if k = j then a == b else false
    | .str a, .str b => a == b
    | .nilp, .nilp => true
    | .rop a i o, .rop b j p => Nat.beq i j && (Nat.beq o p && eqL (eqD n) a b)
    | .snil, .snil => true
    | .ro a s, .ro b t => (s == t) && eqL (eqD n) a b
    | .mapn, .mapn => true
    | .fn f a b, .fn g c d => eqF f g && (eqL (eqD n) a c && eqL (eqD n) b d)
    | .fnil, .fnil => true
    | .ifc t a, .ifc u b => Nat.beq t u && eqD n a b
    | .inil, .inil => true
    | .agg a, .agg b => eqL (eqD n) a b
    | _, _ => false

def eqV : Nat → V → V → Bool
  | 0, _, _ => false
  | n + 1, x, y => match x, y with
    | .d a, .d b => eqD 24 a b
    | .ptr a b c d, .ptr a' b' c' d' => Nat.beq a a' && (Nat.beq b b' && (Nat.beq c c' && Nat.beq d d'))
    | .sl a b c d, .sl a' b' c' d' => Nat.beq a a' && (Nat.beq b b' && (Nat.beq c c' && Nat.beq d d'))
    | .map a, .map b => Nat.beq a b
    | .fn f a b, .fn g c d => eqF f g && (eqL (eqV n) a c && eqL (eqV n) b d)
    | .ifc t a, .ifc u b => Nat.beq t u && eqV n a b
    | .agg a, .agg b => eqL (eqV n) a b
    | .tup a, .tup b => eqL (eqV n) a b
    | _, _ => false

def eqRow : Row → Row → Bool
  | .cells a b c, .cells a' b' c' => Nat.beq a a' && (Nat.beq b b' && eqL (eqV 24) c c')
  | .fz a b c, .fz a' b' c' => Nat.beq a a' && (Nat.beq b b' && eqL (eqD 24) c c')
  | .part a b n c, .part a' b' n' c' => Nat.beq a a' && (Nat.beq b b' && (Nat.beq n n' && eqL (eqV 24) c c'))
  | _, _ => false

def eqRows : List (Nat × Row) → List (Nat × Row) → Bool
  | [], [] => true
  | (i, r) :: l, (j, q) :: m => Nat.beq i j && (eqRow r q && eqRows l m)
  | _, _ => false

/-- (Nothing deferred, nothing to recover.) -/
def eqSt (a b : St) : Bool := Nat.beq a.next b.next && (eqRows a.rows b.rows && (match a.dfr, b.dfr, a.rc, b.rc with
  | [], [], .none, .none => true
  | _, _, _, _ => false))

def eqOut : Out → Out → Bool
  | (.ret x, s), (.ret y, t) => eqV 24 x y && eqSt s t
  | (.pan x, s), (.pan y, t) => eqV 24 x y && eqSt s t
  | _, _ => false

/-- The rows below a number alone. -/
def St.below (n : Nat) (st : St) : St := { next := st.next, rows := keepBelow n st.rows, dfr := st.dfr, rc := st.rc }

/-- What two ways agree on. -/
def both (a b : Option Out) : Option Out := match a with
  | some x => (match b with
    | some y => bif eqOut x y then some x else none
    | none => none)
  | none => none

/-- Some steps of a run, up to the next block. -/
def isStart : List CItem → Option (List Nat)
  | .code (.region _ (some l) _ _) :: _ => some l
  | _ => none

def stepA (C : Cfg) (E : Env) (fn : CFn) (rec : List CItem → List V → St → Option Out) (todo : List CItem) (s : List V) (st : St) : Option Out :=
  match todo with
  | [] => leaveR E fn s st
  | .inBlock _ :: k => rec k s st
  | .inLoop b :: k => rec (.code b :: .inLoop b :: k) s st
  | .code c :: k => match c with
    | .skip => rec k s st
    | .ret => leaveR E fn s st
    | .seq a b => rec (.code a :: .code b :: k) s st
    | .cond c x y => match arg s c with
      | some v => b1 v (rec (.code x :: k) s st) (rec (.code y :: k) s st)
      | none => none
    | .block id b => rec (.code b :: .inBlock id :: k) s st
    | .loop b => rec (.code b :: .inLoop b :: k) s st
    | .exit id => match exitC id k with
      | some k' => rec k' s st
      | none => none
    | .region _ live gs draw => match draw with
      | .dyn pr => evGsL C E pr (rec k) 0 gs [] (liveAt live s) st
      | .stat => evGs C E (rec k) (fun _ _ _ => none) gs (liveAt live s) st
      | .flip gs2 => both (evGs C E (fun s st' => rec k s (St.below st.next st')) (fun _ _ _ => none) gs (liveAt live s) st) (evGs C E (fun s st' => rec k s (St.below st.next st')) (fun _ _ _ => none) gs2 (liveAt live s) st)
      | .no => evGs C E (rec k) (leaveP E fn) gs (liveAt live s) st
    | .bad => none

def unroll (C : Cfg) (E : Env) (fn : CFn) (g : List CItem → List V → St → Option Out) : Nat → Bool → List CItem → List V → St → Option Out
  | 0, _, todo, s, st => g todo s st
  | n + 1, first, todo, s, st => bif first then stepA C E fn (unroll C E fn g n false) todo s st else
    match isStart todo with
    | some l => g todo (maskGo l s 0) st
    | none => stepA C E fn (unroll C E fn g n false) todo s st

noncomputable def runA (C : Cfg) (E : Env) (fn : CFn) (n : Nat) : List CItem → List V → St → Option Out :=
  Nat.rec (motive := fun _ => List CItem → List V → St → Option Out) (fun _ _ _ => none) (fun _ ih => stepA C E fn ih) n

noncomputable def enterF (C : Cfg) (E : Env) (n : Nat) (f : FuncId) (args : List V) (st : St) : Option Out :=
  match C.fn f with
  | some fn => bif Nat.ble args.length fn.ntmps then
      runA C E fn n [.code fn.code] (args ++ List.replicate (fn.ntmps - args.length) (.tup [])) st
    else none
  | none => none

/-- A call, with so many steps and levels. -/
noncomputable def evalF (C : Cfg) (n : Nat) : Env :=
  Nat.rec (motive := fun _ => Env) (fun _ _ _ => none) (fun n ih => enterF C ih n) n

end Go.AM
namespace Go.AM
open Go

/-- Data and what stands for it in memory: only blocks of F are looked at. -/
inductive RepD (h : Array Obj) (F : Nat → Prop) : D → Value → Prop
  | junk (u : Value) : RepD h F .junk u
  | any (u : Value) (h1 : u.oneCell' = true) : RepD h F .any u
  | bool (b : Bool) : RepD h F (.bool b) (.bool b)
  | int (k : IntKind) (n : Int) : RepD h F (.int k n) (.int k n)
  | str (s : List UInt8) : RepD h F (.str s) (.string ⟨s.toArray⟩)
  | nilp : RepD h F .nilp (.pointer none)
  | rop (xs : List D) (i off b base es : Nat) (c : Array Value) (t : TypeId) (fr : Nat × Nat) (hF : F b) (hb : h[b]? = some (.cells c t fr))
      (hes : ∀ x ∈ xs, x.cells.length = es) (hfit : base + xs.length * es ≤ c.size)
      (hcell : ∀ x ∈ xs, ∀ y ∈ x.cells, y.isCell = true)
      (hc : ∀ (k : Nat) (v : D) (u : Value), (xs.flatMap D.cells)[k]? = some v → c[base + k]? = some u → RepD h F v u) :
      RepD h F (.rop xs i off) (.pointer (some ⟨b, base + i * es + off, none⟩))
  | snil : RepD h F .snil (.slice none 0 0)
  | ro (xs : List D) (tight : Bool) (b base es cap : Nat) (c : Array Value) (t : TypeId) (fr : Nat × Nat) (hF : F b) (hb : h[b]? = some (.cells c t fr))
      (hes : ∀ x ∈ xs, x.cells.length = es) (hfit : base + xs.length * es ≤ c.size)
      (hcell : ∀ x ∈ xs, ∀ y ∈ x.cells, y.isCell = true)
      (hc : ∀ (k : Nat) (v : D) (u : Value), (xs.flatMap D.cells)[k]? = some v → c[base + k]? = some u → RepD h F v u)
      (hcap : xs.length ≤ cap) (htight : tight = true → cap = xs.length) :
      RepD h F (.ro xs tight) (.slice (some ⟨b, base, none⟩) xs.length cap)
  | roe (tight : Bool) (a : Addr) (cap : Nat) (htight : tight = true → cap = 0) : RepD h F (.ro [] tight) (.slice (some a) 0 cap)
  | mapn : RepD h F .mapn (.map none)
  | fn (f : Fn) (a b : List D) (a' b' : Array Value) (ha : a'.size = a.length) (hb : b'.size = b.length)
      (ra : ∀ (i : Nat) (v : D) (u : Value), a[i]? = some v → a'[i]? = some u → RepD h F v u) (rb : ∀ (i : Nat) (v : D) (u : Value), b[i]? = some v → b'[i]? = some u → RepD h F v u) :
      RepD h F (.fn f a b) (.func f a' b')
  | fnil : RepD h F .fnil .nilFunc
  | ifc (t : TypeId) (v : D) (u : Value) (r : RepD h F v u) : RepD h F (.ifc t v) (.iface t u)
  | inil : RepD h F .inil .nilIface
  | agg (cs : List D) (cs' : Array Value) (hcell : ∀ y ∈ cs, y.isCell = true) (hs : cs'.size = cs.length) (r : ∀ (i : Nat) (v : D) (u : Value), cs[i]? = some v → cs'[i]? = some u → RepD h F v u) :
      RepD h F (.agg cs) (.agg cs')

/-- Where a row lies: its block, where its cells begin, the cells of an element, how many elements there is room for. -/
structure GB where
  blk : Nat
  base : Nat
  es : Nat
  cap : Nat

abbrev Gh := Nat → Nat → Option GB

inductive RepV (h : Array Obj) (F : Nat → Prop) (G : Gh) : V → Value → Prop
  | d (x : D) (u : Value) (r : RepD h F x u) : RepV h F G (.d x) u
  | ptr (id e i off : Nat) (gb : GB) (hg : G id e = some gb) : RepV h F G (.ptr id e i off) (.pointer (some ⟨gb.blk, gb.base + i * gb.es + off, none⟩))
  | sl0 (id : Nat) : RepV h F G (.sl id 0 0 0) (.slice none 0 0)
  | sl (id e off len : Nat) (gb : GB) (a : Addr) (hg : G id e = some gb) (he : e ≠ 0) (hfit : off + len ≤ gb.cap)
      (ha : gb.cap - off ≠ 0 → a = ⟨gb.blk, gb.base + off * gb.es, none⟩) : RepV h F G (.sl id e off len) (.slice (some a) len (gb.cap - off))
  | map (id : Nat) (gb : GB) (hg : G id 0 = some gb) : RepV h F G (.map id) (.map (some gb.blk))
  | fn (f : Fn) (a b : List V) (a' b' : Array Value) (ha : a'.size = a.length) (hb : b'.size = b.length)
      (ra : ∀ (i : Nat) (v : V) (u : Value), a[i]? = some v → a'[i]? = some u → RepV h F G v u) (rb : ∀ (i : Nat) (v : V) (u : Value), b[i]? = some v → b'[i]? = some u → RepV h F G v u) :
      RepV h F G (.fn f a b) (.func f a' b')
  | ifc (t : TypeId) (v : V) (u : Value) (r : RepV h F G v u) : RepV h F G (.ifc t v) (.iface t u)
  | agg (cs : List V) (cs' : Array Value) (hcell : ∀ y ∈ cs, y.isCell = true) (hs : cs'.size = cs.length) (r : ∀ (i : Nat) (v : V) (u : Value), cs[i]? = some v → cs'[i]? = some u → RepV h F G v u) :
      RepV h F G (.agg cs) (.agg cs')
  | tup (cs : List V) (cs' : Array Value) (hs : cs'.size = cs.length) (r : ∀ (i : Nat) (v : V) (u : Value), cs[i]? = some v → cs'[i]? = some u → RepV h F G v u) :
      RepV h F G (.tup cs) (.tuple cs')

/-- A list of values and an array: place by place. -/
def Reps (h : Array Obj) (F : Nat → Prop) (G : Gh) (l : List V) (a : Array Value) : Prop :=
  a.size = l.length ∧ ∀ (i : Nat) v u, l[i]? = some v → a[i]? = some u → RepV h F G v u

def RepDs (h : Array Obj) (F : Nat → Prop) (l : List D) (a : Array Value) : Prop :=
  a.size = l.length ∧ ∀ (i : Nat) v u, l[i]? = some v → a[i]? = some u → RepD h F v u

section mono
variable {h h' : Array Obj} {F F' : Nat → Prop} {G G' : Gh}

/-- What is the same in the blocks of F, and leaves the ghosts as they are. -/
structure Keeps (h h' : Array Obj) (F F' : Nat → Prop) (G G' : Gh) : Prop where
  f : ∀ b, F b → F' b
  blk : ∀ b, F b → h'[b]? = h[b]?
  g : ∀ id e gb, G id e = some gb → G' id e = some gb

theorem Keeps.refl (h : Array Obj) (F : Nat → Prop) (G : Gh) : Keeps h h F F G G := ⟨fun _ h => h, fun _ _ => rfl, fun _ _ _ h => h⟩

theorem RepD.mono (hF : ∀ b, F b → F' b) (hb : ∀ b, F b → h'[b]? = h[b]?) {x : D} {u : Value} (r : RepD h F x u) : RepD h' F' x u := by
  induction r with
  | junk u => exact .junk u
  | any u h1 => exact .any u h1
  | bool b => exact .bool b
  | int k n => exact .int k n
  | str s => exact .str s
  | nilp => exact .nilp
  | rop xs i off b base es c t fr f1 f2 f3 f4 f5 _ ih => exact .rop xs i off b base es c t fr (hF _ f1) ((hb _ f1).trans f2) f3 f4 f5 ih
  | snil => exact .snil
  | ro xs tight b base es cap c t fr f1 f2 f3 f4 f5 _ f6 f7 ih => exact .ro xs tight b base es cap c t fr (hF _ f1) ((hb _ f1).trans f2) f3 f4 f5 ih f6 f7
  | roe tight a cap ht => exact .roe tight a cap ht
  | mapn => exact .mapn
  | fn f a b a' b' ha hb' _ _ iha ihb => exact .fn f a b a' b' ha hb' iha ihb
  | fnil => exact .fnil
  | ifc t v u _ ih => exact .ifc t v u ih
  | inil => exact .inil
  | agg cs cs' hq hs _ ih => exact .agg cs cs' hq hs ih

theorem RepV.mono (k : Keeps h h' F F' G G') {x : V} {u : Value} (r : RepV h F G x u) : RepV h' F' G' x u := by
  induction r with
  | d x u r => exact .d x u (r.mono k.f k.blk)
  | ptr id e i off gb hg => exact .ptr id e i off gb (k.g _ _ _ hg)
  | sl0 id => exact .sl0 id
  | sl id e off len gb a hg he hfit ha => exact .sl id e off len gb a (k.g _ _ _ hg) he hfit ha
  | map id gb hg => exact .map id gb (k.g _ _ _ hg)
  | fn f a b a' b' ha hb' _ _ iha ihb => exact .fn f a b a' b' ha hb' iha ihb
  | ifc t v u _ ih => exact .ifc t v u ih
  | agg cs cs' hq hs _ ih => exact .agg cs cs' hq hs ih
  | tup cs cs' hs _ ih => exact .tup cs cs' hs ih

theorem Reps.mono (k : Keeps h h' F F' G G') {l : List V} {a : Array Value} (r : Reps h F G l a) : Reps h' F' G' l a :=
  ⟨r.1, fun i v u h1 h2 => (r.2 i v u h1 h2).mono k⟩

theorem RepDs.mono (k : Keeps h h' F F' G G') {l : List D} {a : Array Value} (r : RepDs h F l a) : RepDs h' F' l a :=
  ⟨r.1, fun i v u h1 h2 => (r.2 i v u h1 h2).mono k.f k.blk⟩

end mono

section lists
variable {h : Array Obj} {F : Nat → Prop} {G : Gh}

theorem allD_eq {l : List V} {ds : List D} (e : allD l = some ds) : l = ds.map .d := by
  induction l generalizing ds with
  | nil => simp [allD] at e; subst e; rfl
  | cons v l ih =>
    cases v with
    | d x =>
      simp only [allD] at e
      cases hr : allD l with
      | none => rw [hr] at e; simp at e
      | some r => rw [hr] at e; simp at e; subst e; simp [ih hr]
    | _ => simp [allD] at e

theorem allD_map (ds : List D) : allD (ds.map .d) = some ds := by
  induction ds with
  | nil => rfl
  | cons x l ih => simp [allD, ih]

theorem RepV.inv_d {x : D} {u : Value} (r : RepV h F G (.d x) u) : RepD h F x u := by cases r; assumption

theorem Reps.toD {ds : List D} {a : Array Value} (r : Reps h F G (ds.map .d) a) : RepDs h F ds a :=
  ⟨by simpa using r.1, fun i v u h1 h2 => (r.2 i (.d v) u (by simp [h1]) h2).inv_d⟩

theorem RepDs.toV {ds : List D} {a : Array Value} (r : RepDs h F ds a) : Reps h F G (ds.map .d) a := by
  refine ⟨by simpa using r.1, fun i v u h1 h2 => ?_⟩
  simp only [List.getElem?_map] at h1
  cases hd : ds[i]? with
  | none => rw [hd] at h1; simp at h1
  | some x => rw [hd] at h1; simp at h1; subst h1; exact .d x u (r.2 i x u hd h2)

theorem Reps.agg {l : List V} {a : Array Value} (r : Reps h F G l a) (hq : ∀ y ∈ l, y.isCell = true) : RepV h F G (mkAgg l) (.agg a) := by
  unfold mkAgg
  cases e : allD l with
  | none => exact .agg l a hq r.1 r.2
  | some ds =>
    have := allD_eq e
    subst this
    have rd := r.toD
    exact .d _ _ (.agg ds a (fun y hy => hq (.d y) (List.mem_map.2 ⟨y, hy, rfl⟩)) rd.1 rd.2)

theorem Reps.nil : Reps h F G [] #[] := ⟨rfl, fun i v u h1 _ => by simp at h1⟩

theorem Reps.cons {v : V} {u : Value} {l : List V} {a : List Value} (r : RepV h F G v u) (rs : Reps h F G l a.toArray) : Reps h F G (v :: l) (u :: a).toArray := by
  refine ⟨by simpa using rs.1, fun i x y h1 h2 => ?_⟩
  cases i with
  | zero => simp at h1 h2; subst h1; subst h2; exact r
  | succ i => exact rs.2 i x y (by simpa using h1) (by simpa using h2)

theorem Reps.get {l : List V} {a : Array Value} (r : Reps h F G l a) {i : Nat} {v : V} (e : l[i]? = some v) : ∃ u, a[i]? = some u ∧ RepV h F G v u := by
  have hi : i < l.length := by
    rcases Nat.lt_or_ge i l.length with h | h
    · exact h
    · rw [List.getElem?_eq_none h] at e; simp at e
  have hj : i < a.size := by rw [r.1]; exact hi
  exact ⟨a[i], by simp [hj], r.2 i v a[i] e (by simp [hj])⟩

theorem RepDs.get {l : List D} {a : Array Value} (r : RepDs h F l a) {i : Nat} {v : D} (e : l[i]? = some v) : ∃ u, a[i]? = some u ∧ RepD h F v u := by
  have hi : i < l.length := by
    rcases Nat.lt_or_ge i l.length with h | h
    · exact h
    · rw [List.getElem?_eq_none h] at e; simp at e
  have hj : i < a.size := by rw [r.1]; exact hi
  exact ⟨a[i], by simp [hj], r.2 i v a[i] e (by simp [hj])⟩

theorem RepDs.one {x : D} {u : Value} (r : RepD h F x u) : RepDs h F [x] #[u] :=
  ⟨rfl, fun i v w h1 h2 => by
    cases i with
    | zero => simp at h1 h2; subst h1; subst h2; exact r
    | succ i => simp at h1⟩

theorem Reps.one {x : V} {u : Value} (r : RepV h F G x u) : Reps h F G [x] #[u] :=
  ⟨rfl, fun i v w h1 h2 => by
    cases i with
    | zero => simp at h1 h2; subst h1; subst h2; exact r
    | succ i => simp at h1⟩

/-- The cells of a value. -/
theorem RepD.cells {x : D} {u : Value} (r : RepD h F x u) (hj : x.cells ≠ []) : RepDs h F x.cells u.cells := by
  have r0 := r
  cases r with
  | junk => exact absurd rfl hj
  | agg cs cs' hq hs r => exact ⟨hs, r⟩
  | any u h1 =>
    have : u.cells = #[u] := by cases u <;> first | rfl | simp [Value.oneCell'] at h1
    rw [this]
    exact RepDs.one r0
  | _ => exact RepDs.one r0

theorem D.cells_isCell {x : D} {u : Value} (r : RepD h F x u) : ∀ y ∈ x.cells, y.isCell = true := by
  intro y hy
  cases r with
  | junk => simp [D.cells] at hy
  | agg cs cs' hq hs r => exact hq y hy
  | _ => simp [D.cells] at hy; subst hy; rfl

theorem RepV.cells {x : V} {u : Value} (r : RepV h F G x u) (hj : x.cells ≠ []) : Reps h F G x.cells u.cells := by
  have r0 := r
  cases r with
  | d x u r => exact (r.cells (by simpa [V.cells] using hj)).toV
  | agg cs cs' hq hs r => exact ⟨hs, r⟩
  | tup => simp [V.cells] at hj
  | _ => exact Reps.one r0

theorem V.cells_isCell {x : V} {u : Value} (r : RepV h F G x u) : ∀ y ∈ x.cells, y.isCell = true := by
  intro y hy
  cases r with
  | d x u r =>
    simp only [V.cells, List.mem_map] at hy
    obtain ⟨z, hz, rfl⟩ := hy
    exact D.cells_isCell r z hz
  | agg cs cs' hq hs r => exact hq y hy
  | tup => simp [V.cells] at hy
  | _ => simp [V.cells] at hy; subst hy; rfl

theorem RepD.cellV {x : D} {u : Value} (r : RepD h F x u) (hc : x.isCell = true) : u.oneCell' = true := by
  cases r <;> first | rfl | assumption | simp [D.isCell] at hc

theorem RepV.cellV {x : V} {u : Value} (r : RepV h F G x u) (hc : x.isCell = true) : u.oneCell' = true := by
  cases r with
  | d x u r => exact r.cellV hc
  | agg => simp [V.isCell] at hc
  | tup => simp [V.isCell] at hc
  | _ => rfl

end lists
end Go.AM
namespace Go.AM
open Go

/-! # Cells of a block -/
def patch (c : Array Value) (off : Nat) : List Value → Array Value
  | [] => c
  | v :: l => patch (c.setIfInBounds off v) (off + 1) l

@[simp] theorem patch_size (c : Array Value) (off : Nat) (l : List Value) : (patch c off l).size = c.size := by
  induction l generalizing c off with
  | nil => rfl
  | cons v l ih => simp [patch, ih]

theorem patch_get (c : Array Value) (off : Nat) (l : List Value) (hfit : off + l.length ≤ c.size) (j : Nat) :
    (patch c off l)[j]? = if off ≤ j ∧ j < off + l.length then l[j - off]? else c[j]? := by
  induction l generalizing c off with
  | nil => simp [patch]; intro a b; omega
  | cons v l ih =>
    simp only [List.length_cons] at hfit
    rw [patch, ih _ _ (by simp; omega)]
    by_cases h1 : off + 1 ≤ j ∧ j < off + 1 + l.length
    · rw [if_pos h1, if_pos (by simp; omega)]
      obtain ⟨k, rfl⟩ : ∃ k, j = off + 1 + k := ⟨j - (off + 1), by omega⟩
      rw [show off + 1 + k - (off + 1) = k by omega, show off + 1 + k - off = k + 1 by omega]
      simp
    · rw [if_neg h1]
      by_cases h2 : j = off
      · subst h2
        rw [if_pos (by simp), Array.getElem?_setIfInBounds]
        simp; omega
      · rw [if_neg (by simp; omega), Array.getElem?_setIfInBounds, if_neg (by omega)]

/-- The world with a block set. -/
def setBlk (w : World) (b : Nat) (o : Obj) : World := { w with heap := w.heap.setIfInBounds b o }

theorem setBlk_get (w : World) (b : Nat) (o : Obj) (hb : b < w.heap.size) (j : Nat) : (setBlk w b o).heap[j]? = if j = b then some o else w.heap[j]? := by
  unfold setBlk
  simp only []
  rw [Array.getElem?_setIfInBounds]
  by_cases h : b = j
  · subst h; simp [hb]
  · rw [if_neg h, if_neg (by omega)]

theorem setBlk_size (w : World) (b : Nat) (o : Obj) : (setBlk w b o).heap.size = w.heap.size := by simp [setBlk]

theorem setBlk_setBlk (w : World) (b : Nat) (o o' : Obj) : setBlk (setBlk w b o) b o' = setBlk w b o' := by simp [setBlk]

theorem setBlk_self (w : World) (b : Nat) (o : Obj) (h : w.heap[b]? = some o) : setBlk w b o = w := by
  unfold setBlk
  have hb : b < w.heap.size := by
    rcases Nat.lt_or_ge b w.heap.size with h1 | h1
    · exact h1
    · simp [Array.getElem?_eq_none h1] at h
  have : w.heap.setIfInBounds b o = w.heap := by
    apply Array.ext_getElem?
    intro j
    rw [Array.getElem?_setIfInBounds]
    split
    · rename_i e; subst e; exact h.symm
    · rfl
  rw [this]

theorem lt_of_some {α : Type} {a : Array α} {i : Nat} {x : α} (h : a[i]? = some x) : i < a.size := by
  rcases Nat.lt_or_ge i a.size with h1 | h1
  · exact h1
  · simp [Array.getElem?_eq_none h1] at h

theorem lt_of_someL {α : Type} {a : List α} {i : Nat} {x : α} (h : a[i]? = some x) : i < a.length := by
  rcases Nat.lt_or_ge i a.length with h1 | h1
  · exact h1
  · simp [List.getElem?_eq_none h1] at h

theorem setCell_blk (w : World) (b off : Nat) (c : Array Value) (t : TypeId) (fr : Nat × Nat) (v : Value) (h : w.heap[b]? = some (.cells c t fr)) :
    w.setCell ⟨b, off, none⟩ v = setBlk w b (.cells (c.setIfInBounds off v) t fr) := by
  unfold World.setCell setBlk
  have hb := lt_of_some h
  congr 1
  apply Array.ext_getElem?
  intro j
  rw [Array.getElem?_modify, Array.getElem?_setIfInBounds]
  by_cases e : b = j
  · subst e
    rw [if_pos rfl, if_pos rfl, if_pos hb, h]
    simp
  · rw [if_neg e, if_neg e]

theorem setCells_blk (b : Nat) (t : TypeId) (fr : Nat × Nat) : ∀ (vs : List Value) (off : Nat) (c : Array Value) (w : World), w.heap[b]? = some (.cells c t fr) →
    w.setCells b off vs = setBlk w b (.cells (patch c off vs) t fr)
  | [], off, c, w, h => by simp only [World.setCells, patch]; exact (setBlk_self w b _ h).symm
  | v :: l, off, c, w, h => by
    have hb := lt_of_some h
    rw [World.setCells, setCell_blk w b off c t fr v h]
    rw [setCells_blk b t fr l (off + 1) (c.setIfInBounds off v) _ (by rw [setBlk_get _ _ _ hb, if_pos rfl])]
    rw [setBlk_setBlk]; rfl

/-- Cells stored into a block. -/
theorem run_store_blk (P : Program) (w : World) (b off : Nat) (c : Array Value) (t : TypeId) (fr : Nat × Nat) (vs : List Value) (h : w.heap[b]? = some (.cells c t fr))
    (hfit : off + vs.length ≤ c.size) (hfr : ∀ j, off ≤ j → j < off + vs.length → ¬ (fr.1 ≤ j ∧ j < fr.2)) (h1 : ∀ v ∈ vs, v.oneCell' = true) :
    (storeCells ⟨b, off, none⟩ vs).run P w = .ok () (setBlk w b (.cells (patch c off vs) t fr)) := by
  rw [run_storeCells_cells b off vs 0 w ?_ ?_ h1, setCells_blk b t fr vs _ c w h]
  · rfl
  · intro j hj
    rw [cell_of_row w b _ c t fr h]
    simp; omega
  · intro j hj
    have := hfr (off + 0 + j) (by omega) (by omega)
    simp only [World.frozen?, h]
    simpa using this

theorem addr_add (b o j : Nat) : (⟨b, o, none⟩ : Addr).add j = ⟨b, o + j, none⟩ := by unfold Addr.add; split <;> simp_all

/-- Cells read out of a block. -/
theorem run_load_blk (P : Program) (w : World) (b off n : Nat) (c : Array Value) (t : TypeId) (fr : Nat × Nat) (h : w.heap[b]? = some (.cells c t fr)) (hfit : off + n ≤ c.size) :
    (loadCells ⟨b, off, none⟩ n).run P w = .ok (c.extract off (off + n)) w := by
  have hl : ((c.extract off (off + n)).toList).length = n := by simp; omega
  have := run_loadCells_list (P := P) (w := w) ⟨b, off, none⟩ (c.extract off (off + n)).toList (fun j v hv => by
    rw [addr_add, cell_of_row w b _ c t fr h]
    have hj : j < n := by have := lt_of_someL hv; omega
    simp only [Array.getElem?_toList, Array.getElem?_extract] at hv
    rw [if_pos (by omega)] at hv
    exact hv)
  rw [hl] at this
  rw [this]

end Go.AM
namespace Go.AM
open Go

theorem flat_get {α β : Type} (f : α → List β) (es : Nat) : ∀ (xs : List α) (i off : Nat) (x : α), (∀ x ∈ xs, (f x).length = es) → xs[i]? = some x → off < es →
    (xs.flatMap f)[i * es + off]? = (f x)[off]?
  | [], i, off, x, _, hx, _ => by simp at hx
  | y :: l, 0, off, x, h, hx, ho => by
    simp at hx; subst hx
    have hy := h y (by simp)
    simp only [List.flatMap_cons, Nat.zero_mul, Nat.zero_add]
    rw [List.getElem?_append_left (by omega)]
  | y :: l, i + 1, off, x, h, hx, ho => by
    have hy := h y (by simp)
    simp only [List.flatMap_cons]
    rw [List.getElem?_append_right (by rw [hy, Nat.succ_mul]; omega)]
    have := flat_get f es l i off x (fun z hz => h z (by simp [hz])) (by simpa using hx) ho
    rw [← this]
    congr 1
    rw [hy, Nat.succ_mul]; omega

theorem flat_len {α β : Type} (f : α → List β) (es : Nat) (xs : List α) (h : ∀ x ∈ xs, (f x).length = es) : (xs.flatMap f).length = xs.length * es := by
  induction xs with
  | nil => simp
  | cons y l ih => rw [List.flatMap_cons, List.length_append, h y (by simp), ih (fun z hz => h z (by simp [hz])), List.length_cons, Nat.succ_mul]; omega

theorem mul_le_of_lt {i n es : Nat} (h : i < n) : i * es + es ≤ n * es := by
  have : (i + 1) * es ≤ n * es := Nat.mul_le_mul_right es h
  rwa [Nat.succ_mul] at this

/-- Elements lie in a block, from base on. -/
structure CellsAt (h : Array Obj) (F : Nat → Prop) (G : Gh) (base es : Nat) (xs : List V) (c : Array Value) : Prop where
  len : ∀ x ∈ xs, x.cells.length = es
  cell : ∀ x ∈ xs, ∀ y ∈ x.cells, y.isCell = true
  fit : base + xs.length * es ≤ c.size
  rep : ∀ (k : Nat) (v : V) (u : Value), (xs.flatMap V.cells)[k]? = some v → c[base + k]? = some u → RepV h F G v u

structure CellsAtD (h : Array Obj) (F : Nat → Prop) (base es : Nat) (xs : List D) (c : Array Value) : Prop where
  len : ∀ x ∈ xs, x.cells.length = es
  cell : ∀ x ∈ xs, ∀ y ∈ x.cells, y.isCell = true
  fit : base + xs.length * es ≤ c.size
  rep : ∀ (k : Nat) (v : D) (u : Value), (xs.flatMap D.cells)[k]? = some v → c[base + k]? = some u → RepD h F v u

theorem flatMap_d (ds : List D) : (ds.map V.d).flatMap V.cells = (ds.flatMap D.cells).map V.d := by
  induction ds with
  | nil => rfl
  | cons x l ih => simp [List.flatMap_cons, V.cells, ih]

theorem CellsAtD.toV {h : Array Obj} {F : Nat → Prop} {G : Gh} {base es : Nat} {ds : List D} {c : Array Value} (r : CellsAtD h F base es ds c) :
    CellsAt h F G base es (ds.map .d) c := by
  refine ⟨?_, ?_, by simpa using r.fit, ?_⟩
  · intro x hx; obtain ⟨y, hy, rfl⟩ := List.mem_map.1 hx; simpa [V.cells] using r.len y hy
  · intro x hx z hz
    obtain ⟨y, hy, rfl⟩ := List.mem_map.1 hx
    simp only [V.cells, List.mem_map] at hz
    obtain ⟨q, hq, rfl⟩ := hz
    exact r.cell y hy q hq
  · intro k v u hk hu
    rw [flatMap_d, List.getElem?_map] at hk
    cases hd : (ds.flatMap D.cells)[k]? with
    | none => rw [hd] at hk; simp at hk
    | some y => rw [hd] at hk; simp at hk; subst hk; exact .d _ _ (r.rep k y u hd hu)

theorem CellsAt.toD {h : Array Obj} {F : Nat → Prop} {G : Gh} {base es : Nat} {ds : List D} {c : Array Value} (r : CellsAt h F G base es (ds.map .d) c) :
    CellsAtD h F base es ds c := by
  refine ⟨?_, ?_, by simpa using r.fit, ?_⟩
  · intro x hx; simpa [V.cells] using r.len (.d x) (List.mem_map.2 ⟨x, hx, rfl⟩)
  · intro x hx y hy
    exact r.cell (.d x) (List.mem_map.2 ⟨x, hx, rfl⟩) (.d y) (by simp [V.cells, hy])
  · intro k v u hk hu
    exact (r.rep k (.d v) u (by rw [flatMap_d, List.getElem?_map, hk]; rfl) hu).inv_d

theorem CellsAt.mono {h h' : Array Obj} {F F' : Nat → Prop} {G G' : Gh} {base es : Nat} {xs : List V} {c : Array Value} (k : Keeps h h' F F' G G')
    (r : CellsAt h F G base es xs c) : CellsAt h' F' G' base es xs c :=
  ⟨r.len, r.cell, r.fit, fun i v u a b => (r.rep i v u a b).mono k⟩

theorem CellsAtD.mono {h h' : Array Obj} {F F' : Nat → Prop} {G G' : Gh} {base es : Nat} {xs : List D} {c : Array Value} (k : Keeps h h' F F' G G')
    (r : CellsAtD h F base es xs c) : CellsAtD h' F' base es xs c :=
  ⟨r.len, r.cell, r.fit, fun i v u a b => (r.rep i v u a b).mono k.f k.blk⟩

/-- The part of an element that lies in a block. -/
theorem CellsAtD.part {h : Array Obj} {F : Nat → Prop} {base es : Nat} {xs : List D} {c : Array Value} (r : CellsAtD h F base es xs c)
    {i off n : Nat} {g : Bool} {x y : D} (hx : xs[i]? = some x) (hp : partD off n g x = some y) (h1 : g = false → n = 1) :
    base + i * es + off + n ≤ c.size ∧
    (g = true → RepD h F y (.agg (c.extract (base + i * es + off) (base + i * es + off + n)))) ∧
    (g = false → ∃ u, c[base + i * es + off]? = some u ∧ RepD h F y u) := by
  have hi := lt_of_someL hx
  have hm : x ∈ xs := List.mem_of_getElem? hx
  have hl := r.len x hm
  have hle : i * es + es ≤ xs.length * es := mul_le_of_lt hi
  have hfit := r.fit
  have one : ∀ (k : Nat) (z : D), x.cells[k]? = some z → ∃ u, c[base + i * es + k]? = some u ∧ RepD h F z u := by
    intro k z hz
    have hk : k < es := by have := lt_of_someL hz; omega
    have hf := flat_get D.cells es xs i k x r.len hx hk
    have hlt : base + (i * es + k) < c.size := by omega
    refine ⟨c[base + (i * es + k)], ?_, r.rep (i * es + k) z _ (by rw [hf]; exact hz) (by simp [hlt])⟩
    rw [show base + i * es + k = base + (i * es + k) by omega]; simp [hlt]
  cases g with
  | true =>
    cases x with
    | agg cs =>
      simp only [partD] at hp
      split at hp
      · rename_i hle2
        simp only [Option.some.injEq] at hp
        subst hp
        simp only [D.cells] at hl one
        refine ⟨by omega, fun _ => ?_, fun e => by simp at e⟩
        refine .agg _ _ (fun z hz => r.cell _ hm z (List.mem_of_mem_drop (List.mem_of_mem_take hz))) (by simp; omega) ?_
        intro j v u hv hu
        have hj : j < n := by have := lt_of_someL hv; simp at this; omega
        rw [List.getElem?_take, if_pos hj, List.getElem?_drop] at hv
        rw [Array.getElem?_extract, if_pos (by omega)] at hu
        obtain ⟨u', hu', rr⟩ := one (off + j) v hv
        rw [show base + i * es + (off + j) = base + i * es + off + j by omega, hu] at hu'
        simp only [Option.some.injEq] at hu'
        subst hu'
        exact rr
      · simp at hp
    | _ => simp [partD] at hp
  | false =>
    have hn := h1 rfl
    subst hn
    have hc : x.cells[off]? = some y := by
      cases x with
      | agg cs => simpa [partD, D.cells] using hp
      | junk => simp [partD] at hp
      | _ =>
        simp only [partD] at hp
        split at hp
        · rename_i e; subst e; simp at hp; subst hp; rfl
        · simp at hp
    have hk : off < es := by have := lt_of_someL hc; omega
    refine ⟨by omega, fun e => by simp at e, fun _ => one off y hc⟩

theorem CellsAt.part {h : Array Obj} {F : Nat → Prop} {G : Gh} {base es : Nat} {xs : List V} {c : Array Value} (r : CellsAt h F G base es xs c)
    {i off n : Nat} {g : Bool} {x y : V} (hx : xs[i]? = some x) (hp : vPart off n g x = some y) (h1 : g = false → n = 1) :
    base + i * es + off + n ≤ c.size ∧
    (g = true → RepV h F G y (.agg (c.extract (base + i * es + off) (base + i * es + off + n)))) ∧
    (g = false → ∃ u, c[base + i * es + off]? = some u ∧ RepV h F G y u) := by
  have hi := lt_of_someL hx
  have hm : x ∈ xs := List.mem_of_getElem? hx
  have hl := r.len x hm
  have hle : i * es + es ≤ xs.length * es := mul_le_of_lt hi
  have hfit := r.fit
  have one : ∀ (k : Nat) (z : V), x.cells[k]? = some z → ∃ u, c[base + i * es + k]? = some u ∧ RepV h F G z u := by
    intro k z hz
    have hk : k < es := by have := lt_of_someL hz; omega
    have hf := flat_get V.cells es xs i k x r.len hx hk
    have hlt : base + (i * es + k) < c.size := by omega
    refine ⟨c[base + (i * es + k)], ?_, r.rep (i * es + k) z _ (by rw [hf]; exact hz) (by simp [hlt])⟩
    rw [show base + i * es + k = base + (i * es + k) by omega]; simp [hlt]
  -- an aggregate's part
  have aggP : ∀ cs : List V, x.cells = cs → off + n ≤ cs.length → 
      base + i * es + off + n ≤ c.size ∧ RepV h F G (mkAgg ((cs.drop off).take n)) (.agg (c.extract (base + i * es + off) (base + i * es + off + n))) := by
    intro cs e hle2
    rw [e] at hl one
    refine ⟨by omega, Reps.agg ⟨by simp; omega, ?_⟩ (fun z hz => r.cell x hm z (by rw [e]; exact List.mem_of_mem_drop (List.mem_of_mem_take hz)))⟩
    intro j v u hv hu
    have hj : j < n := by have := lt_of_someL hv; simp at this; omega
    rw [List.getElem?_take, if_pos hj, List.getElem?_drop] at hv
    rw [Array.getElem?_extract, if_pos (by omega)] at hu
    obtain ⟨u', hu', rr⟩ := one (off + j) v hv
    rw [show base + i * es + (off + j) = base + i * es + off + j by omega, hu] at hu'
    simp only [Option.some.injEq] at hu'
    subst hu'
    exact rr
  have cellP : n = 1 → x.cells[off]? = some y → base + i * es + off + n ≤ c.size ∧ ∃ u, c[base + i * es + off]? = some u ∧ RepV h F G y u := by
    intro hn hc
    subst hn
    have hk : off < es := by have := lt_of_someL hc; omega
    exact ⟨by omega, one off y hc⟩
  cases x with
  | d x =>
    simp only [vPart] at hp
    cases hq : partD off n g x with
    | none => rw [hq] at hp; simp at hp
    | some z =>
      rw [hq] at hp
      simp only [Option.some.injEq] at hp
      subst hp
      cases g with
      | true =>
        cases x with
        | agg cs =>
          simp only [partD] at hq
          split at hq
          · rename_i hle2
            simp only [Option.some.injEq] at hq
            subst hq
            have := aggP (cs.map .d) rfl (by simpa using hle2)
            refine ⟨this.1, fun _ => ?_, fun e => by simp at e⟩
            have h2 := this.2
            rw [← List.map_drop, ← List.map_take, mkAgg, allD_map] at h2
            exact h2
          · simp at hq
        | _ => simp [partD] at hq
      | false =>
        have hc : x.cells[off]? = some z := by
          cases x with
          | agg cs => simpa [partD, D.cells] using hq
          | junk => simp [partD] at hq
          | _ =>
            simp only [partD] at hq
            split at hq
            · rename_i e; subst e; simp at hq; subst hq; rfl
            · simp at hq
        have := cellP (h1 rfl) (by simp [V.cells, hc])
        exact ⟨this.1, fun e => by simp at e, fun _ => this.2⟩
  | agg cs =>
    cases g with
    | true =>
      simp only [vPart, cond_true] at hp
      split at hp
      · rename_i hle2
        simp only [Option.some.injEq] at hp
        subst hp
        have := aggP cs rfl hle2
        exact ⟨this.1, fun _ => this.2, fun e => by simp at e⟩
      · simp at hp
    | false =>
      simp only [vPart, cond_false] at hp
      have := cellP (h1 rfl) (by simpa [V.cells] using hp)
      exact ⟨this.1, fun e => by simp at e, fun _ => this.2⟩
  | tup vs => simp [vPart] at hp
  | _ =>
    cases g with
    | true => simp [vPart] at hp
    | false =>
      simp only [vPart, cond_false] at hp
      split at hp
      · rename_i e; subst e
        simp only [Option.some.injEq] at hp
        subst hp
        have := cellP (h1 rfl) (by simp [V.cells])
        exact ⟨this.1, fun e => by simp at e, fun _ => this.2⟩
      · simp at hp

end Go.AM
namespace Go.AM
open Go

/-- A row of the memory as it lies. -/
inductive RowOk (P : Program) (h : Array Obj) (F : Nat → Prop) (G : Gh) (id : Nat) : Row → Prop
  | nil (t : TypeId) : RowOk P h F G id (.cells 0 t [])
  | cells (e : Nat) (t : TypeId) (xs : List V) (gb : GB) (c : Array Value) (fr : Nat × Nat) (he : e ≠ 0) (hg : G id e = some gb)
      (hb : h[gb.blk]? = some (.cells c t fr)) (ht : tySize P t = some gb.es) (h0 : gb.es ≠ 0) (hcap : xs.length ≤ gb.cap)
      (hfit : gb.base + gb.cap * gb.es ≤ c.size) (hfr : ∀ j, gb.base ≤ j → j < gb.base + gb.cap * gb.es → ¬ (fr.1 ≤ j ∧ j < fr.2))
      (hb1 : e = 1 → gb.base = 0 ∧ fr.1 = fr.2) (hc : CellsAt h F G gb.base gb.es xs c) : RowOk P h F G id (.cells e t xs)
  | fz (e : Nat) (t : TypeId) (ds : List D) (gb : GB) (c : Array Value) (fr : Nat × Nat) (he : e ≠ 0) (hg : G id e = some gb) (hF : F gb.blk)
      (hb : h[gb.blk]? = some (.cells c t fr)) (ht : tySize P t = some gb.es) (h0 : gb.es ≠ 0) (hcap : ds.length ≤ gb.cap)
      (hc : CellsAtD h F gb.base gb.es ds c) : RowOk P h F G id (.fz e t ds)
  | part (e : Nat) (t : TypeId) (n : Nat) (xs : List V) (gb : GB) (c : Array Value) (fr : Nat × Nat) (he : e ≠ 0) (hg : G id e = some gb)
      (hb : h[gb.blk]? = some (.cells c t fr)) (ht : tySize P t = some gb.es) (h0 : gb.es ≠ 0) (hcap : xs.length ≤ gb.cap)
      (hfit : gb.base + gb.cap * gb.es ≤ c.size) (hfr : fr.2 ≤ gb.base + n * gb.es)
      (hc : CellsAt h F G gb.base gb.es xs c) : RowOk P h F G id (.part e t n xs)
  | map (kvs : List (D × V)) (b : Nat) (es : Array MapEntry) (clock : Nat) (hg : G id 0 = some ⟨b, 0, 0, 0⟩) (hb : h[b]? = some (.map es clock))
      (hl : es.size = kvs.length) (hr : ∀ (i : Nat) (k : D) (v : V) (m : MapEntry), kvs[i]? = some (k, v) → es[i]? = some m → RepD h F k m.key ∧ RepV h F G v m.val) :
      RowOk P h F G id (.map kvs)
  | iter (s : List UInt8) (pos b : Nat) (hg : G id 0 = some ⟨b, 0, 0, 0⟩) (hb : h[b]? = some (.stringIter ⟨s.toArray⟩ pos)) : RowOk P h F G id (.iter s pos)

/-- The block that a row owns. -/
def ownB (G : Gh) (id : Nat) : Row → Option Nat
  | .cells e _ _ => if e = 0 then none else (G id e).map (·.blk)
  | .fz _ _ _ => none
  | .part e _ _ _ => if e = 0 then none else (G id e).map (·.blk)
  | .map _ => (G id 0).map (·.blk)
  | .iter _ _ => (G id 0).map (·.blk)

def owns (rows : List (Nat × Row)) (G : Gh) (b : Nat) : Prop := ∃ id r, find rows id = some r ∧ ownB G id r = some b

structure Inv (P : Program) (w : World) (F : Nat → Prop) (G : Gh) (rows : List (Nat × Row)) (next : Nat) : Prop where
  fresh : ∀ id r, find rows id = some r → id < next
  gfresh : ∀ id e gb, G id e = some gb → id < next
  row : ∀ id r, find rows id = some r → RowOk P w.heap F G id r
  sep : ∀ id id' r r' b, find rows id = some r → find rows id' = some r' → ownB G id r = some b → ownB G id' r' = some b → id = id'
  fb : ∀ b, F b → b < w.heap.size
  nf : ∀ b, owns rows G b → ¬ F b
  stamp : ∀ id e t xs, find rows id = some (.cells e t xs) → ∀ e' gb, G id e' = some gb → e' ≤ e

/-- What a step does to the world: only what is owned, and what is new. -/
structure Ext (w w' : World) (F F' : Nat → Prop) (G G' : Gh) (own : Nat → Prop) : Prop where
  size : w.heap.size ≤ w'.heap.size
  keep : ∀ b, b < w.heap.size → ¬ own b → w'.heap[b]? = w.heap[b]?
  os : w'.os = w.os
  tape : w'.tape = w.tape
  output : w'.output = w.output
  f : ∀ b, F b → F' b
  f' : ∀ b, F' b → F b ∨ own b ∨ w.heap.size ≤ b
  g : ∀ id e gb, G id e = some gb → G' id e = some gb

theorem Ext.refl (w : World) (F : Nat → Prop) (G : Gh) (own : Nat → Prop) : Ext w w F F G G own :=
  ⟨Nat.le_refl _, fun _ _ _ => rfl, rfl, rfl, rfl, fun _ h => h, fun _ h => .inl h, fun _ _ _ h => h⟩

theorem Ext.trans {w w₁ w₂ : World} {F F₁ F₂ : Nat → Prop} {G G₁ G₂ : Gh} {own own₁ : Nat → Prop} (a : Ext w w₁ F F₁ G G₁ own) (b : Ext w₁ w₂ F₁ F₂ G₁ G₂ own₁)
    (ho : ∀ x, own₁ x → own x ∨ w.heap.size ≤ x) : Ext w w₂ F F₂ G G₂ own := by
  refine ⟨Nat.le_trans a.size b.size, ?_, b.os.trans a.os, b.tape.trans a.tape, b.output.trans a.output, fun x h => b.f x (a.f x h), ?_, fun i e gb h => b.g _ _ _ (a.g _ _ _ h)⟩
  · intro x hx hn
    rw [b.keep x (Nat.lt_of_lt_of_le hx a.size) (fun h => (ho x h).elim hn (fun h => by omega)), a.keep x hx hn]
  · intro x hx
    rcases b.f' x hx with h | h | h
    · exact a.f' x h
    · exact (ho x h).elim (fun h => .inr (.inl h)) (fun h => .inr (.inr h))
    · exact .inr (.inr (Nat.le_trans a.size h))

theorem Ext.keeps {w w' : World} {F F' : Nat → Prop} {G G' : Gh} {own : Nat → Prop} (e : Ext w w' F F' G G' own) (hf : ∀ b, F b → b < w.heap.size) (hn : ∀ b, own b → ¬ F b) :
    Keeps w.heap w'.heap F F' G G' :=
  ⟨e.f, fun b hb => e.keep b (hf b hb) (fun h => hn b h hb), e.g⟩

theorem beq_ne {a b : Nat} (h : a ≠ b) : Nat.beq a b = false := by
  cases hb : Nat.beq a b with
  | false => rfl
  | true => exact absurd (Nat.eq_of_beq_eq_true hb) h

theorem beq_self (a : Nat) : Nat.beq a a = true := by simp

theorem find_put (rows : List (Nat × Row)) (id : Nat) (r : Row) (j : Nat) : find (put rows id r) j = if j = id then some r else find rows j := by
  induction rows with
  | nil =>
    simp only [put, find]
    by_cases h : j = id
    · subst h; simp [beq_self]
    · rw [if_neg h]; simp [beq_ne (a := id) (b := j) (by omega)]
  | cons p l ih =>
    obtain ⟨k, q⟩ := p
    simp only [put]
    by_cases hk : k = id
    · subst hk
      simp only [beq_self, cond_true, find]
      by_cases h : j = k
      · subst h; simp [beq_self]
      · rw [if_neg h]; simp [beq_ne (a := k) (b := j) (by omega)]
    · rw [beq_ne (a := k) (b := id) (by omega)]
      simp only [cond_false, find, ih]
      by_cases h : j = id
      · subst h; rw [beq_ne (a := k) (b := j) (by omega)]; simp
      · simp [h]

theorem find_cons (rows : List (Nat × Row)) (id : Nat) (r : Row) (j : Nat) : find ((id, r) :: rows) j = if j = id then some r else find rows j := by
  simp only [find]
  by_cases h : j = id
  · subst h; simp [beq_self]
  · rw [if_neg h, beq_ne (a := id) (b := j) (by omega)]; rfl

section
variable {P : Program} {w : World} {F : Nat → Prop} {G : Gh} {rows : List (Nat × Row)} {next : Nat}

theorem lookGhost {id e i off : Nat} {u : Value} (r : RepV w.heap F G (.ptr id e i off) u) :
    ∃ gb, G id e = some gb ∧ u = .pointer (some ⟨gb.blk, gb.base + i * gb.es + off, none⟩) := by
  cases r with
  | ptr _ _ _ _ gb hg => exact ⟨gb, hg, rfl⟩

/-- Loads. -/
theorem load_snd (hi : Inv P w F G rows next) {t n : Nat} {g : Bool} (hn : tySize P t = some n) (hg : tyAgg P t = some g) (h1 : g = false → n = 1)
    {st st' : St} (hst : st.rows = rows) {p v : V} {up : Value} (rp : RepV w.heap F G p up) (hr : (loadP n g p).run st = some (v, st')) :
    st' = st ∧ ∃ u, (Instr.loadAt t up).run P w = .ok u w ∧ RepV w.heap F G v u := by
  -- a place in a block
  have main : ∀ (b o : Nat) (c : Array Value) (t' : TypeId) (fr : Nat × Nat), w.heap[b]? = some (.cells c t' fr) → o + n ≤ c.size →
      (g = true → RepV w.heap F G v (.agg (c.extract o (o + n)))) → (g = false → ∃ u, c[o]? = some u ∧ RepV w.heap F G v u) →
      ∃ u, (Instr.loadAt t (.pointer (some ⟨b, o, none⟩))).run P w = .ok u w ∧ RepV w.heap F G v u := by
    intro b o c t' fr hb hfit ha hc
    have hag : (isAgg t).run P w = .ok g w := by
      unfold tyAgg at hg
      unfold isAgg underlying
      simp only [Sem.run_bind, run_program, Result.andThen_ok]
      cases hu : P.underlying t with
      | none => rw [hu] at hg; simp at hg
      | some d => rw [hu] at hg; cases d <;> simp at hg <;> subst hg <;> simp
    have hsz : (sizeOf t).run P w = .ok n w := by
      unfold tySize at hn
      unfold sizeOf typeInfo
      simp only [Sem.run_bind, run_program, Result.andThen_ok]
      cases hu : P.info? t with
      | none => rw [hu] at hn; simp at hn
      | some d => rw [hu] at hn; simp at hn; simp [hn]
    simp only [Instr.loadAt, Instr.sureAddr, loadVar, Sem.run_bind, Sem.run_pure, Result.andThen_ok, hag]
    cases g with
    | true =>
      simp only [if_true, Sem.run_bind, hsz, Result.andThen_ok, run_load_blk P w b o n c t' fr hb hfit, Sem.run_pure]
      exact ⟨_, rfl, ha rfl⟩
    | false =>
      obtain ⟨u, hu, ru⟩ := hc rfl
      simp only [Bool.false_eq_true, if_false, run_load, cell_of_row w b _ c t' fr hb, hu]
      exact ⟨u, rfl, ru⟩
  cases p with
  | d x =>
    cases x with
    | rop xs i off =>
      simp only [loadP] at hr
      cases hx : xs[i]? with
      | none => rw [hx] at hr; simp [Pg.run] at hr
      | some x =>
        rw [hx] at hr
        cases hq : partD off n g x with
        | none => simp only [hq, Pg.run] at hr; simp at hr
        | some y =>
          simp only [hq, Pg.run, Option.some.injEq, Prod.mk.injEq] at hr
          obtain ⟨rfl, rfl⟩ := hr
          refine ⟨rfl, ?_⟩
          cases rp.inv_d with
          | rop _ _ _ b base es c t' fr f1 f2 f3 f4 f5 f6 =>
            have hc : CellsAtD w.heap F base es xs c := ⟨f3, f5, f4, f6⟩
            obtain ⟨q1, q2, q3⟩ := hc.part hx hq h1
            exact main b _ c t' fr f2 q1 (fun e => .d _ _ (q2 e)) (fun e => let ⟨u, a, b⟩ := q3 e; ⟨u, a, .d _ _ b⟩)
    | _ => simp [loadP, Pg.run] at hr
  | ptr id e i off =>
    obtain ⟨gb, hgb, rfl⟩ := lookGhost rp
    simp only [loadP, Pg.run] at hr
    rw [hst] at hr
    cases hf : find rows id with
    | none => rw [hf] at hr; simp at hr
    | some r =>
      rw [hf] at hr
      have hrow := hi.row id r hf
      cases r with
      | cells e' t' xs =>
        simp only at hr
        cases he : Nat.beq e e' with
        | false => rw [he] at hr; simp [Pg.run] at hr
        | true =>
          rw [he] at hr
          have he' : e = e' := Nat.eq_of_beq_eq_true he
          subst he'
          simp only [cond_true] at hr
          cases hx : xs[i]? with
          | none => rw [hx] at hr; simp [Pg.run] at hr
          | some x =>
            rw [hx] at hr
            cases hq : vPart off n g x with
            | none => simp only [hq, Pg.ofO, Pg.run] at hr; simp at hr
            | some y =>
              simp only [hq, Pg.ofO, Pg.run, Option.some.injEq, Prod.mk.injEq] at hr
              obtain ⟨rfl, rfl⟩ := hr
              refine ⟨rfl, ?_⟩
              cases hrow with
              | nil => simp at hx
              | cells _ _ _ gb' c fr he0 hg' hb ht h0 hcap hfit hfr hb1 hc =>
                rw [hg'] at hgb
                simp only [Option.some.injEq] at hgb
                subst hgb
                obtain ⟨q1, q2, q3⟩ := hc.part hx hq h1
                exact main _ _ c _ fr hb q1 q2 q3
      | fz e' t' xs =>
        simp only at hr
        cases he : Nat.beq e e' with
        | false => rw [he] at hr; simp [Pg.run] at hr
        | true =>
          rw [he] at hr
          have he' : e = e' := Nat.eq_of_beq_eq_true he
          subst he'
          simp only [cond_true] at hr
          cases hx : xs[i]? with
          | none => rw [hx] at hr; simp [Pg.run] at hr
          | some x =>
            rw [hx] at hr
            cases hq : partD off n g x with
            | none => simp only [hq, Pg.run] at hr; simp at hr
            | some y =>
              simp only [hq, Pg.run, Option.some.injEq, Prod.mk.injEq] at hr
              obtain ⟨rfl, rfl⟩ := hr
              refine ⟨rfl, ?_⟩
              cases hrow with
              | fz _ _ _ gb' c fr he0 hg' hF hb ht h0 hcap hc =>
                rw [hg'] at hgb
                simp only [Option.some.injEq] at hgb
                subst hgb
                obtain ⟨q1, q2, q3⟩ := hc.part hx hq h1
                exact main _ _ c _ fr hb q1 (fun e => .d _ _ (q2 e)) (fun e => let ⟨u, a, b⟩ := q3 e; ⟨u, a, .d _ _ b⟩)
      | _ => simp [Pg.run] at hr
  | _ => simp [loadP, Pg.run] at hr

end
end Go.AM
namespace Go.AM
open Go

theorem RowOk.mono {P : Program} {h h' : Array Obj} {F F' : Nat → Prop} {G G' : Gh} {id : Nat} {r : Row} (k : Keeps h h' F F' G G')
    (ho : ∀ b, ownB G id r = some b → h'[b]? = h[b]?) (hr : RowOk P h F G id r) : RowOk P h' F' G' id r := by
  cases hr with
  | nil t => exact .nil t
  | cells e t xs gb c fr he hg hb ht h0 hcap hfit hfr hb1 hc =>
    exact .cells e t xs gb c fr he (k.g _ _ _ hg) ((ho gb.blk (by simp [ownB, he, hg])).trans hb) ht h0 hcap hfit hfr hb1 (hc.mono k)
  | fz e t ds gb c fr he hg hF hb ht h0 hcap hc =>
    exact .fz e t ds gb c fr he (k.g _ _ _ hg) (k.f _ hF) ((k.blk _ hF).trans hb) ht h0 hcap (hc.mono k)
  | part e t n xs gb c fr he hg hb ht h0 hcap hfit hfr hc =>
    exact .part e t n xs gb c fr he (k.g _ _ _ hg) ((ho gb.blk (by simp [ownB, he, hg])).trans hb) ht h0 hcap hfit hfr (hc.mono k)
  | map kvs b es clock hg hb hl hr =>
    exact .map kvs b es clock (k.g _ _ _ hg) ((ho b (by simp [ownB, hg])).trans hb) hl (fun i a v m h1 h2 => ⟨(hr i a v m h1 h2).1.mono k.f k.blk, (hr i a v m h1 h2).2.mono k⟩)
  | iter s pos b hg hb => exact .iter s pos b (k.g _ _ _ hg) ((ho b (by simp [ownB, hg])).trans hb)

theorem ownB_lt {P : Program} {h : Array Obj} {F : Nat → Prop} {G : Gh} {id : Nat} {r : Row} (hr : RowOk P h F G id r) {b : Nat} (ho : ownB G id r = some b) : b < h.size := by
  cases hr with
  | nil t => simp [ownB] at ho
  | cells e t xs gb c fr he hg hb => simp [ownB, he, hg] at ho; subst ho; exact lt_of_some hb
  | fz => simp [ownB] at ho
  | part e t n xs gb c fr he hg hb => simp [ownB, he, hg] at ho; subst ho; exact lt_of_some hb
  | map kvs b' es clock hg hb => simp [ownB, hg] at ho; subst ho; exact lt_of_some hb
  | iter s pos b' hg hb => simp [ownB, hg] at ho; subst ho; exact lt_of_some hb

theorem ownB_mono {P : Program} {h : Array Obj} {F : Nat → Prop} {G G' : Gh} {id : Nat} {r : Row} (hr : RowOk P h F G id r) (k : ∀ e gb, G id e = some gb → G' id e = some gb) :
    ownB G' id r = ownB G id r := by
  cases hr with
  | nil t => simp [ownB]
  | cells e t xs gb c fr he hg hb => simp [ownB, he, hg, k _ _ hg]
  | fz => simp [ownB]
  | part e t n xs gb c fr he hg hb => simp [ownB, he, hg, k _ _ hg]
  | map kvs b' es clock hg hb => simp [ownB, hg, k _ _ hg]
  | iter s pos b' hg hb => simp [ownB, hg, k _ _ hg]

section
variable {P : Program} {w w' : World} {F F' : Nat → Prop} {G G' : Gh} {rows : List (Nat × Row)} {next : Nat}

/-- A step on one row. -/
theorem Inv.step1 (hi : Inv P w F G rows next) {id : Nat} {r0 r' : Row} (hf : find rows id = some r0)
    (hsize : w.heap.size ≤ w'.heap.size) (hkeep : ∀ b, b < w.heap.size → ownB G id r0 ≠ some b → w'.heap[b]? = w.heap[b]?)
    (hos : w'.os = w.os) (htape : w'.tape = w.tape) (hout : w'.output = w.output)
    (hF : ∀ b, F b → F' b) (hF' : ∀ b, F' b → F b ∨ ownB G id r0 = some b)
    (hG : ∀ e gb, G id e = some gb → G' id e = some gb) (hGo : ∀ j e, j ≠ id → G' j e = G j e)
    (hrow : RowOk P w'.heap F' G' id r') (hown : ∀ b, ownB G' id r' = some b → (ownB G id r0 = some b ∧ ¬ F' b) ∨ w.heap.size ≤ b)
    (hstamp : ∀ e t xs, r' = .cells e t xs → ∀ e' gb, G' id e' = some gb → e' ≤ e) :
    Inv P w' F' G' (put rows id r') next ∧ Ext w w' F F' G G' (owns rows G) ∧ (∀ b, owns (put rows id r') G' b → owns rows G b ∨ w.heap.size ≤ b) := by
  have hGm : ∀ j e gb, G j e = some gb → G' j e = some gb := by
    intro j e gb h
    by_cases hj : j = id
    · subst hj; exact hG _ _ h
    · rw [hGo _ _ hj]; exact h
  have hext : Ext w w' F F' G G' (owns rows G) := by
    refine ⟨hsize, ?_, hos, htape, hout, hF, ?_, hGm⟩
    · intro b hb hn
      exact hkeep b hb (fun h => hn ⟨id, r0, hf, h⟩)
    · intro b hb
      rcases hF' b hb with h | h
      · exact .inl h
      · exact .inr (.inl ⟨id, r0, hf, h⟩)
  have hk : Keeps w.heap w'.heap F F' G G' := hext.keeps hi.fb hi.nf
  have hlt := hi.fresh id r0 hf
  have hfind : ∀ j r, find (put rows id r') j = some r → (j = id ∧ r = r') ∨ (j ≠ id ∧ find rows j = some r) := by
    intro j r h
    rw [find_put] at h
    split at h
    · rename_i e; exact .inl ⟨e, by simpa using h.symm⟩
    · rename_i e; exact .inr ⟨e, h⟩
  have hownj : ∀ j r, j ≠ id → find rows j = some r → ownB G' j r = ownB G j r := fun j r _ h => ownB_mono (hi.row j r h) (hGm j)
  have hrowj : ∀ j r, j ≠ id → find rows j = some r → RowOk P w'.heap F' G' j r := by
    intro j r hj h
    refine (hi.row j r h).mono hk (fun b hb => ?_)
    have hb1 := ownB_lt (hi.row j r h) hb
    exact hkeep b hb1 (fun hh => hj (hi.sep j id r r0 b h hf hb hh))
  refine ⟨⟨?_, ?_, ?_, ?_, ?_, ?_, ?_⟩, hext, ?_⟩
  · intro j r h
    rcases hfind j r h with ⟨rfl, _⟩ | ⟨_, h⟩
    · exact hlt
    · exact hi.fresh j r h
  · intro j e gb h
    by_cases hj : j = id
    · subst hj; exact hlt
    · rw [hGo _ _ hj] at h; exact hi.gfresh j e gb h
  · intro j r h
    rcases hfind j r h with ⟨rfl, rfl⟩ | ⟨hj, h⟩
    · exact hrow
    · exact hrowj j r hj h
  · intro j j' r r'' b h1 h2 o1 o2
    rcases hfind j r h1 with ⟨rfl, rfl⟩ | ⟨hj, k1⟩ <;> rcases hfind j' r'' h2 with ⟨rfl, rfl⟩ | ⟨hj', k2⟩
    · rfl
    · rw [hownj j' r'' hj' k2] at o2
      rcases hown b o1 with ⟨h, _⟩ | h
      · exact hi.sep _ _ _ _ b hf k2 h o2
      · have := ownB_lt (hi.row j' r'' k2) o2; omega
    · rw [hownj j r hj k1] at o1
      rcases hown b o2 with ⟨h, _⟩ | h
      · exact hi.sep _ _ _ _ b k1 hf o1 h
      · have := ownB_lt (hi.row j r k1) o1; omega
    · rw [hownj j r hj k1] at o1
      rw [hownj j' r'' hj' k2] at o2
      exact hi.sep _ _ _ _ b k1 k2 o1 o2
  · intro b hb
    rcases hF' b hb with h | h
    · exact Nat.lt_of_lt_of_le (hi.fb b h) hsize
    · exact Nat.lt_of_lt_of_le (ownB_lt (hi.row id r0 hf) h) hsize
  · rintro b ⟨j, r, h1, o1⟩ hFb
    rcases hfind j r h1 with ⟨rfl, rfl⟩ | ⟨hj, h1⟩
    · rcases hown b o1 with ⟨_, h⟩ | h
      · exact h hFb
      · rcases hF' b hFb with h' | h'
        · have := hi.fb b h'; omega
        · have := ownB_lt (hi.row _ r0 hf) h'; omega
    · rw [hownj j r hj h1] at o1
      rcases hF' b hFb with h' | h'
      · exact hi.nf b ⟨j, r, h1, o1⟩ h'
      · exact hj (hi.sep _ _ _ _ b h1 hf o1 h')
  · intro j e t xs h e' gb hg
    rcases hfind j _ h with ⟨rfl, k⟩ | ⟨hj, k⟩
    · exact hstamp e t xs k.symm e' gb hg
    · rw [hGo _ _ hj] at hg; exact hi.stamp j e t xs k e' gb hg
  · rintro b ⟨j, r, h1, o1⟩
    rcases hfind j r h1 with ⟨rfl, rfl⟩ | ⟨hj, h1⟩
    · rcases hown b o1 with ⟨h, _⟩ | h
      · exact .inl ⟨_, r0, hf, h⟩
      · exact .inr h
    · rw [hownj j r hj h1] at o1
      exact .inl ⟨j, r, h1, o1⟩

/-- A new row. -/
theorem Inv.newRow (hi : Inv P w F G rows next) {r' : Row}
    (hsize : w.heap.size ≤ w'.heap.size) (hkeep : ∀ b, b < w.heap.size → w'.heap[b]? = w.heap[b]?)
    (hos : w'.os = w.os) (htape : w'.tape = w.tape) (hout : w'.output = w.output) (hGo : ∀ j e, j ≠ next → G' j e = G j e)
    (hrow : RowOk P w'.heap F G' next r') (hown : ∀ b, ownB G' next r' = some b → w.heap.size ≤ b)
    (hstamp : ∀ e t xs, r' = .cells e t xs → ∀ e' gb, G' next e' = some gb → e' ≤ e) :
    Inv P w' F G' ((next, r') :: rows) (next + 1) ∧ Ext w w' F F G G' (owns rows G) ∧ (∀ b, owns ((next, r') :: rows) G' b → owns rows G b ∨ w.heap.size ≤ b) := by
  have hGm : ∀ j e gb, G j e = some gb → G' j e = some gb := by
    intro j e gb h
    have := hi.gfresh j e gb h
    rw [hGo _ _ (by omega)]; exact h
  have hext : Ext w w' F F G G' (owns rows G) := ⟨hsize, fun b hb _ => hkeep b hb, hos, htape, hout, fun _ h => h, fun _ h => .inl h, hGm⟩
  have hk : Keeps w.heap w'.heap F F G G' := hext.keeps hi.fb hi.nf
  have hne : ∀ j r, find rows j = some r → j ≠ next := fun j r h => by have := hi.fresh j r h; omega
  have hfind : ∀ j r, find ((next, r') :: rows) j = some r → (j = next ∧ r = r') ∨ (j ≠ next ∧ find rows j = some r) := by
    intro j r h
    rw [find_cons] at h
    split at h
    · rename_i e; exact .inl ⟨e, by simpa using h.symm⟩
    · rename_i e; exact .inr ⟨e, h⟩
  have hownj : ∀ j r, find rows j = some r → ownB G' j r = ownB G j r := fun j r h => ownB_mono (hi.row j r h) (hGm j)
  refine ⟨⟨?_, ?_, ?_, ?_, ?_, ?_, ?_⟩, hext, ?_⟩
  · intro j r h
    rcases hfind j r h with ⟨rfl, _⟩ | ⟨_, h⟩
    · omega
    · have := hi.fresh j r h; omega
  · intro j e gb h
    by_cases hj : j = next
    · omega
    · rw [hGo _ _ hj] at h; have := hi.gfresh j e gb h; omega
  · intro j r h
    rcases hfind j r h with ⟨rfl, rfl⟩ | ⟨_, h⟩
    · exact hrow
    · exact (hi.row j r h).mono hk (fun b hb => hkeep b (ownB_lt (hi.row j r h) hb))
  · intro j j' r r'' b h1 h2 o1 o2
    rcases hfind j r h1 with ⟨rfl, rfl⟩ | ⟨hj, k1⟩ <;> rcases hfind j' r'' h2 with ⟨rfl, rfl⟩ | ⟨hj', k2⟩
    · rfl
    · rw [hownj j' r'' k2] at o2
      have := hown b o1; have := ownB_lt (hi.row j' r'' k2) o2; omega
    · rw [hownj j r k1] at o1
      have := hown b o2; have := ownB_lt (hi.row j r k1) o1; omega
    · rw [hownj j r k1] at o1
      rw [hownj j' r'' k2] at o2
      exact hi.sep _ _ _ _ b k1 k2 o1 o2
  · intro b hb; exact Nat.lt_of_lt_of_le (hi.fb b hb) hsize
  · rintro b ⟨j, r, h1, o1⟩ hFb
    rcases hfind j r h1 with ⟨rfl, rfl⟩ | ⟨hj, h1⟩
    · have := hown b o1; have := hi.fb b hFb; omega
    · rw [hownj j r h1] at o1; exact hi.nf b ⟨j, r, h1, o1⟩ hFb
  · intro j e t xs h e' gb hg
    rcases hfind j _ h with ⟨rfl, k⟩ | ⟨hj, k⟩
    · exact hstamp e t xs k.symm e' gb hg
    · rw [hGo _ _ hj] at hg; exact hi.stamp j e t xs k e' gb hg
  · rintro b ⟨j, r, h1, o1⟩
    rcases hfind j r h1 with ⟨rfl, rfl⟩ | ⟨hj, h1⟩
    · exact .inr (hown b o1)
    · rw [hownj j r h1] at o1; exact .inl ⟨j, r, h1, o1⟩

end
end Go.AM
namespace Go.AM
open Go

section
variable {P : Program}

theorem manyOf_rep {h : Array Obj} {F : Nat → Prop} {rec : Value → Option D} (hrec : ∀ v x, rec v = some x → RepD h F x v) :
    ∀ (l : List Value) (xs : List D), D.manyOf rec l = some xs → RepDs h F xs l.toArray
  | [], xs, e => by simp [D.manyOf] at e; subst e; exact ⟨rfl, fun i v u h1 _ => by simp at h1⟩
  | v :: l, xs, e => by
    simp only [D.manyOf] at e
    cases h1 : rec v with
    | none => rw [h1] at e; simp at e
    | some x =>
      cases h2 : D.manyOf rec l with
      | none => rw [h1, h2] at e; simp at e
      | some r =>
        rw [h1, h2] at e
        simp at e
        subst e
        have ih := manyOf_rep hrec l r h2
        refine ⟨by simpa using ih.1, fun i y u a b => ?_⟩
        cases i with
        | zero => simp at a b; subst a; subst b; exact hrec _ _ h1
        | succ i => exact ih.2 i y u (by simpa using a) (by simpa using b)

theorem ofValueN_rep {h : Array Obj} {F : Nat → Prop} : ∀ (n : Nat) (v : Value) (x : D), D.ofValueN n v = some x → RepD h F x v
  | 0, v, x, e => by simp [D.ofValueN] at e
  | n + 1, v, x, e => by
    have ih := ofValueN_rep (h := h) (F := F) n
    unfold D.ofValueN at e
    split at e
    · simp at e; subst e; exact .bool _
    · simp at e; subst e; exact .int _ _
    · rename_i s
      simp only [Option.some.injEq] at e; subst e
      exact RepD.str s.data.toList
    · simp at e; subst e; exact .nilp
    · simp at e; subst e; exact .snil
    · simp at e; subst e; exact .mapn
    · simp at e; subst e; exact .fnil
    · simp at e; subst e; exact .inil
    · rename_i cs
      cases hm : D.manyOf (D.ofValueN n) cs.toList with
      | none => rw [hm] at e; simp at e
      | some l =>
        rw [hm] at e
        simp only at e
        cases hc : l.all D.isCell with
        | false => rw [hc] at e; simp at e
        | true =>
          rw [hc] at e
          simp only [cond_true, Option.some.injEq] at e
          subst e
          have := manyOf_rep ih cs.toList l hm
          exact .agg l cs (fun y hy => by simpa using (List.all_eq_true.1 hc) y hy) this.1 this.2
    · rename_i t v'
      cases hv : D.ofValueN n v' with
      | none => rw [hv] at e; simp at e
      | some y => rw [hv] at e; simp at e; subst e; exact .ifc _ _ _ (ih _ _ hv)
    · simp at e

theorem ofValue_rep {h : Array Obj} {F : Nat → Prop} {v : Value} {x : D} (e : D.ofValue v = some x) : RepD h F x v := ofValueN_rep 8 v x e

theorem zero_run {t : TypeId} {z : D} (e : tyZero P t = some z) (w : World) : ∃ zv, (zeroValue t).run P w = .ok zv w ∧ ∀ h F, RepD h F z zv := by
  unfold tyZero at e
  unfold zeroValue typeInfo
  simp only [Sem.run_bind, run_program, Result.andThen_ok]
  cases hi : P.info? t with
  | none => rw [hi] at e; simp at e
  | some i =>
    rw [hi] at e
    simp only at e
    cases hz : i.zero with
    | none => rw [hz] at e; simp at e
    | some zv =>
      rw [hz] at e
      simp only at e
      simp only [Sem.run_pure, Result.andThen_ok, hz]
      exact ⟨zv, rfl, fun h F => ofValue_rep e⟩

theorem size_run {t n : Nat} (hn : tySize P t = some n) (w : World) : (sizeOf t).run P w = .ok n w := by
  unfold tySize at hn
  unfold sizeOf typeInfo
  simp only [Sem.run_bind, run_program, Result.andThen_ok]
  cases hu : P.info? t with
  | none => rw [hu] at hn; simp at hn
  | some d => rw [hu] at hn; simp at hn; simp [hn]

theorem und_run {t : TypeId} {d : TypeDesc} (h : P.underlying t = some d) (w : World) : (underlying t).run P w = .ok d w := by
  unfold underlying
  simp only [Sem.run_bind, run_program, Result.andThen_ok, h, Sem.run_pure]

/-- What a step of memory leaves. -/
def Post (P : Program) (w : World) (F : Nat → Prop) (G : Gh) (st : St) (s : Sem Value) (v : V) (st' : St) : Prop :=
  ∃ u w' F' G', s.run P w = .ok u w' ∧ Inv P w' F' G' st'.rows st'.next ∧ Ext w w' F F' G G' (owns st.rows G) ∧
    (∀ b, owns st'.rows G' b → owns st.rows G b ∨ w.heap.size ≤ b) ∧ RepV w'.heap F' G' v u ∧ st'.dfr = st.dfr ∧ st'.rc = st.rc

theorem Post.same {w : World} {F : Nat → Prop} {G : Gh} {st : St} {s : Sem Value} {v : V} (hi : Inv P w F G st.rows st.next) {u : Value}
    (hr : s.run P w = .ok u w) (r : RepV w.heap F G v u) : Post P w F G st s v st :=
  ⟨u, w, F, G, hr, hi, Ext.refl _ _ _ _, fun _ h => .inl h, r, rfl, rfl⟩

/-- The ghosts with one more. -/
def gset (G : Gh) (id e : Nat) (gb : GB) : Gh := fun j k => if j = id ∧ k = e then some gb else G j k

theorem gset_same (G : Gh) (id e : Nat) (gb : GB) : gset G id e gb id e = some gb := by simp [gset]
theorem gset_other (G : Gh) (id e : Nat) (gb : GB) {j k : Nat} (h : ¬ (j = id ∧ k = e)) : gset G id e gb j k = G j k := by simp [gset, h]

/-- A new row of cells in a new block. -/
theorem new_cells {w w' : World} {F : Nat → Prop} {G : Gh} {rows : List (Nat × Row)} {next : Nat} (hi : Inv P w F G rows next) {t es : Nat} (hes : tySize P t = some es) (h0 : es ≠ 0)
    {e : Nat} (he : e ≠ 0) (xs : List V) (c : Array Value) (fr : Nat × Nat) (cap : Nat) (hcap : xs.length ≤ cap) (hfit : cap * es ≤ c.size) (hfr : c.size ≤ fr.1 ∨ fr.2 ≤ fr.1) (hf1 : e = 1 → fr.1 = fr.2)
    (hw : w'.heap = w.heap.push (.cells c t fr)) (hos : w'.os = w.os) (htape : w'.tape = w.tape) (hout : w'.output = w.output)
    (hlen : ∀ x ∈ xs, x.cells.length = es) (hcell : ∀ x ∈ xs, ∀ y ∈ x.cells, y.isCell = true)
    (hrep : ∀ (k : Nat) (v : V) (u : Value), (xs.flatMap V.cells)[k]? = some v → c[k]? = some u → RepV w.heap F G v u) :
    let G' := gset G next e ⟨w.heap.size, 0, es, cap⟩
    Inv P w' F G' ((next, .cells e t xs) :: rows) (next + 1) ∧ Ext w w' F F G G' (owns rows G) ∧ (∀ b, owns ((next, .cells e t xs) :: rows) G' b → owns rows G b ∨ w.heap.size ≤ b) := by
  intro G'
  have hold : ∀ b, b < w.heap.size → w'.heap[b]? = w.heap[b]? := fun b hb => by rw [hw, Array.getElem?_push]; simp; omega
  have hnew : w'.heap[w.heap.size]? = some (.cells c t fr) := by rw [hw]; simp
  have hno : ∀ e', G next e' = none := fun e' => by
    cases hg : G next e' with
    | none => rfl
    | some gb => have := hi.gfresh _ _ _ hg; omega
  have hk : Keeps w.heap w'.heap F F G G' := ⟨fun _ h => h, fun b hb => hold b (hi.fb b hb), fun j k gb h => by
    rw [show G' = gset G next e _ from rfl, gset_other]
    · exact h
    · rintro ⟨rfl, rfl⟩; rw [hno] at h; simp at h⟩
  refine hi.newRow (G' := G') (r' := .cells e t xs) (by rw [hw]; simp) hold hos htape hout ?_ ?_ ?_ ?_
  · intro j k hj; exact gset_other _ _ _ _ (fun h => hj h.1)
  · refine .cells e t xs ⟨w.heap.size, 0, es, cap⟩ c fr he (gset_same _ _ _ _) hnew hes h0 hcap (by simpa using hfit) ?_ (fun h => ⟨rfl, hf1 h⟩) ⟨hlen, hcell, ?_, ?_⟩
    · intro j _ hj h
      simp at hj
      rcases hfr with h1 | h1 <;> omega
    · have : xs.length * es ≤ cap * es := Nat.mul_le_mul_right es hcap
      simp; omega
    · intro k v u h1 h2
      exact (hrep k v u h1 (by simpa using h2)).mono hk
  · intro b hb
    have : G' next e = some ⟨w.heap.size, 0, es, cap⟩ := gset_same _ _ _ _
    simp [ownB, he, this] at hb
    omega
  · intro e1 t1 xs1 heq e' gb hg
    simp only [Row.cells.injEq] at heq
    obtain ⟨rfl, _, _⟩ := heq
    by_cases h : e' = e
    · omega
    · rw [show G' = gset G next e _ from rfl, gset_other _ _ _ _ (fun hh => h hh.2), hno] at hg
      simp at hg

theorem box_snd {w : World} {F : Nat → Prop} {G : Gh} {st st' : St} (hi : Inv P w F G st.rows st.next) {t n : Nat} (hn : tySize P t = some n) (h0 : n ≠ 0) {v p : V} {uv : Value}
    (rv : RepV w.heap F G v uv) (hr : (boxP t n v).run st = some (p, st')) : Post P w F G st (Instr.box t uv) p st' := by
  unfold boxP at hr
  split at hr
  · rename_i hl
    simp only [Pg.run, Option.some.injEq, Prod.mk.injEq] at hr
    obtain ⟨rfl, rfl⟩ := hr
    have hne : v.cells ≠ [] := by intro h; rw [h] at hl; simp at hl; omega
    have rc := rv.cells hne
    have hrun : (Instr.box t uv).run P w = .ok (.pointer (some ⟨w.heap.size, 0, none⟩)) { w with heap := w.heap.push (.cells uv.cells t) } := by
      simp [Instr.box, newVar, newRow]
    obtain ⟨i1, i2, i3⟩ := new_cells (w' := { w with heap := w.heap.push (.cells uv.cells t) }) hi hn h0 (e := 1) (by omega) [v] uv.cells (0, 0) 1 (by simp) (by rw [rc.1, hl]; omega) (.inr (by simp)) (fun _ => rfl) rfl rfl rfl rfl
      (by intro x hx; simp at hx; subst hx; exact hl) (by intro x hx; simp at hx; subst hx; exact V.cells_isCell rv) (by intro k y u h1 h2; simp at h1; exact rc.2 k y u h1 h2)
    refine ⟨_, _, F, _, hrun, i1, i2, i3, ?_, rfl, rfl⟩
    have := RepV.ptr (h := (w.heap.push (.cells uv.cells t))) (F := F) (G := gset G st.next 1 ⟨w.heap.size, 0, n, 1⟩) st.next 1 0 0 ⟨w.heap.size, 0, n, 1⟩ (gset_same _ _ _ _)
    simpa using this
  · simp [Pg.run] at hr

end
end Go.AM
namespace Go.AM
open Go

theorem flat_inv {α β : Type} (f : α → List β) (es : Nat) : ∀ (xs : List α) (k : Nat) (y : β), (∀ x ∈ xs, (f x).length = es) → (xs.flatMap f)[k]? = some y →
    ∃ i x r, xs[i]? = some x ∧ (f x)[r]? = some y ∧ k = i * es + r ∧ r < es
  | [], k, y, _, h => by simp at h
  | x :: l, k, y, hl, h => by
    have hx := hl x (by simp)
    rw [List.flatMap_cons] at h
    by_cases hk : k < es
    · rw [List.getElem?_append_left (by omega)] at h
      exact ⟨0, x, k, by simp, h, by omega, hk⟩
    · rw [List.getElem?_append_right (by omega)] at h
      obtain ⟨i, z, r, h1, h2, h3, h4⟩ := flat_inv f es l (k - (f x).length) y (fun z hz => hl z (by simp [hz])) h
      exact ⟨i + 1, z, r, by simpa using h1, h2, by rw [Nat.succ_mul]; omega, h4⟩

section
variable {P : Program} {h : Array Obj} {F : Nat → Prop} {G : Gh}

theorem CellsAt.get2 {base es : Nat} {xs : List V} {c : Array Value} (r : CellsAt h F G base es xs c) {i k : Nat} {x y : V} (hx : xs[i]? = some x) (hy : x.cells[k]? = some y) :
    ∃ u, c[base + i * es + k]? = some u ∧ RepV h F G y u := by
  have hi := lt_of_someL hx
  have hl := r.len x (List.mem_of_getElem? hx)
  have hk : k < es := by have := lt_of_someL hy; omega
  have hle : i * es + es ≤ xs.length * es := mul_le_of_lt hi
  have hfit := r.fit
  have hf := flat_get V.cells es xs i k x r.len hx hk
  have hlt : base + (i * es + k) < c.size := by omega
  refine ⟨c[base + (i * es + k)], ?_, r.rep (i * es + k) y _ (by rw [hf]; exact hy) (by simp [hlt])⟩
  rw [show base + i * es + k = base + (i * es + k) by omega]; simp [hlt]

theorem CellsAt.mk2 {base es : Nat} {xs : List V} {c : Array Value} (len : ∀ x ∈ xs, x.cells.length = es) (cell : ∀ x ∈ xs, ∀ y ∈ x.cells, y.isCell = true)
    (fit : base + xs.length * es ≤ c.size) (rep : ∀ i k x y u, xs[i]? = some x → x.cells[k]? = some y → c[base + i * es + k]? = some u → RepV h F G y u) : CellsAt h F G base es xs c := by
  refine ⟨len, cell, fit, ?_⟩
  intro k v u h1 h2
  obtain ⟨i, x, r, a, b, e, _⟩ := flat_inv V.cells es xs k v len h1
  subst e
  exact rep i r x v u a b (by rw [show base + i * es + r = base + (i * es + r) by omega]; exact h2)

theorem mkAgg_cells (l : List V) : (mkAgg l).cells = l := by
  unfold mkAgg
  cases e : allD l with
  | none => rfl
  | some ds => rw [allD_eq e]; rfl

theorem splice_cells {x v : V} {off n : Nat} (h1 : off + n ≤ x.cells.length) (h2 : v.cells.length = n) (h0 : n ≠ 0) :
    (if off = 0 ∧ n = x.cells.length then v else vSplice x off v.cells).cells = x.cells.take off ++ v.cells ++ x.cells.drop (off + n) := by
  split
  · rename_i h
    obtain ⟨rfl, h⟩ := h
    rw [h]; simp
  · rename_i h
    have hlen : x.cells.length ≠ 1 := by intro h3; apply h; omega
    cases x with
    | d x =>
      cases x with
      | agg cs => simp only [vSplice, mkAgg_cells, h2]
      | junk => simp [V.cells, D.cells] at h1; omega
      | _ => simp [V.cells, D.cells] at hlen
    | agg cs => simp only [vSplice, mkAgg_cells, h2]; rfl
    | tup vs => simp [V.cells] at h1; omega
    | _ => simp [V.cells] at hlen

theorem splice_get {x v : V} {off n k : Nat} (h1 : off + n ≤ x.cells.length) (h2 : v.cells.length = n) :
    (x.cells.take off ++ v.cells ++ x.cells.drop (off + n))[k]? = if off ≤ k ∧ k < off + n then v.cells[k - off]? else x.cells[k]? := by
  have ht : (x.cells.take off).length = off := by simp; omega
  by_cases hk : k < off
  · rw [if_neg (by omega), List.append_assoc, List.getElem?_append_left (by omega), List.getElem?_take, if_pos hk]
  · by_cases hk2 : k < off + n
    · rw [if_pos (by omega), List.append_assoc, List.getElem?_append_right (by omega), ht, List.getElem?_append_left (by omega)]
    · rw [if_neg (by omega), List.getElem?_append_right (by simp; omega)]
      rw [List.getElem?_drop]
      congr 1
      simp; omega

/-- A row with an element's cells set. -/
theorem cells_set {base es : Nat} {xs : List V} {c : Array Value} (r : CellsAt h F G base es xs c) {i off n : Nat} {x v : V} {vs : Array Value} (h0 : n ≠ 0) (hx : xs[i]? = some x)
    (h1 : off + n ≤ x.cells.length) (h2 : v.cells.length = n) (rv : Reps h F G v.cells vs) (hcell : ∀ y ∈ v.cells, y.isCell = true) :
    CellsAt h F G base es (xs.set i (if off = 0 ∧ n = x.cells.length then v else vSplice x off v.cells)) (patch c (base + i * es + off) vs.toList) := by
  generalize hx' : (if off = 0 ∧ n = x.cells.length then v else vSplice x off v.cells) = x'
  have hc : x'.cells = x.cells.take off ++ v.cells ++ x.cells.drop (off + n) := by rw [← hx']; exact splice_cells h1 h2 h0
  have hi := lt_of_someL hx
  have hl := r.len x (List.mem_of_getElem? hx)
  have hle : i * es + es ≤ xs.length * es := mul_le_of_lt hi
  have hfit := r.fit
  have hvs : vs.size = n := by rw [rv.1, h2]
  have hp : base + i * es + off + vs.toList.length ≤ c.size := by simp; omega
  refine CellsAt.mk2 ?_ ?_ (by simpa using hfit) ?_
  · intro y hy
    rcases List.mem_or_eq_of_mem_set hy with hy | rfl
    · exact r.len y hy
    · rw [hc]; simp; omega
  · intro y hy z hz
    rcases List.mem_or_eq_of_mem_set hy with hy | rfl
    · exact r.cell y hy z hz
    · rw [hc] at hz
      simp only [List.mem_append] at hz
      rcases hz with (hz | hz) | hz
      · exact r.cell x (List.mem_of_getElem? hx) z (List.mem_of_mem_take hz)
      · exact hcell z hz
      · exact r.cell x (List.mem_of_getElem? hx) z (List.mem_of_mem_drop hz)
  · intro j k y z u hy hz hu
    rw [patch_get c _ _ hp] at hu
    rw [List.getElem?_set] at hy
    have hkes : k < es := by
      have hzl := lt_of_someL hz
      split at hy
      · simp at hy; obtain ⟨_, rfl⟩ := hy; rw [hc] at hzl; simp at hzl; omega
      · rw [r.len y (List.mem_of_getElem? hy)] at hzl; exact hzl
    split at hy
    · rename_i e
      subst e
      simp only [hi, if_true, Option.some.injEq] at hy
      subst hy
      rw [hc, splice_get h1 h2] at hz
      by_cases hk : off ≤ k ∧ k < off + n
      · rw [if_pos hk] at hz
        rw [if_pos (by simp; omega)] at hu
        exact rv.2 (k - off) z u hz (by simpa [show base + i * es + k - (base + i * es + off) = k - off by omega] using hu)
      · rw [if_neg hk] at hz
        rw [if_neg (by simp; omega)] at hu
        obtain ⟨u', a, b⟩ := r.get2 hx hz
        rw [a] at hu; simp at hu; subst hu; exact b
    · rename_i e
      have hj := lt_of_someL hy
      rw [if_neg ?_] at hu
      · obtain ⟨u', a, b⟩ := r.get2 hy hz
        rw [a] at hu; simp at hu; subst hu; exact b
      · simp only [Array.length_toList, hvs]
        intro ⟨p1, p2⟩
        rcases Nat.lt_or_gt_of_ne e with h | h
        · have : i * es + es ≤ j * es := by have := Nat.mul_le_mul_right es h; rwa [Nat.succ_mul] at this
          omega
        · have : j * es + es ≤ i * es := by have := Nat.mul_le_mul_right es h; rwa [Nat.succ_mul] at this
          omega

end

section
variable {P : Program}

theorem store_snd {w : World} {F : Nat → Prop} {G : Gh} {st st' : St} (hi : Inv P w F G st.rows st.next) {t n : Nat} (hn : tySize P t = some n) (h0 : n ≠ 0) {p v d : V} {up uv : Value}
    (rp : RepV w.heap F G p up) (rv : RepV w.heap F G v uv) (hr : (storeP n p v).run st = some (d, st')) :
    Post P w F G st (do Instr.storeAt t up uv; pure undef) (.d .junk) st' ∧ d = .d .junk := by
  cases p with
  | ptr id e i off =>
    obtain ⟨gb, hgb, rfl⟩ := lookGhost rp
    simp only [storeP, Pg.run] at hr
    cases hf : find st.rows id with
    | none => rw [hf] at hr; simp at hr
    | some r =>
      rw [hf] at hr
      have hrow := hi.row id r hf
      cases r with
      | cells e' t' xs =>
        simp only at hr
        cases he : Nat.beq e e' with
        | false => rw [he] at hr; simp [Pg.run] at hr
        | true =>
          rw [he] at hr
          have he' : e = e' := Nat.eq_of_beq_eq_true he
          subst he'
          simp only [cond_true] at hr
          cases hx : xs[i]? with
          | none => rw [hx] at hr; simp [Pg.run] at hr
          | some x =>
            rw [hx] at hr
            simp only at hr
            split at hr
            · rename_i hcond
              obtain ⟨h1, h2⟩ := hcond
              simp only [Pg.run, Option.some.injEq, Prod.mk.injEq] at hr
              obtain ⟨rfl, rfl⟩ := hr
              refine ⟨?_, rfl⟩
              cases hrow with
              | nil => simp at hx
              | cells _ _ _ gb' c fr he0 hg' hb ht h00 hcap hfit hfr hb1 hc =>
                rw [hg'] at hgb
                simp only [Option.some.injEq] at hgb
                subst hgb
                have hne : v.cells ≠ [] := by intro h; rw [h] at h2; simp at h2; omega
                have rc := rv.cells hne
                have hcl := V.cells_isCell rv
                have hsz : uv.cells.size = n := by rw [rc.1, h2]
                have hi' := lt_of_someL hx
                have hl := hc.len x (List.mem_of_getElem? hx)
                have hle : i * gb'.es + gb'.es ≤ xs.length * gb'.es := mul_le_of_lt hi'
                have hle2 : xs.length * gb'.es ≤ gb'.cap * gb'.es := Nat.mul_le_mul_right _ hcap
                have h1c : ∀ u ∈ uv.cells.toList, u.oneCell' = true := by
                  intro u hu
                  obtain ⟨k, hk, rfl⟩ := List.getElem_of_mem hu
                  have hkl : k < v.cells.length := by simp at hk; omega
                  exact (rc.2 k v.cells[k] _ (by simp [hkl]) (by simp at hk; simp [hk])).cellV (hcl _ (List.getElem_mem hkl))
                have hrun : (do Instr.storeAt t (.pointer (some ⟨gb'.blk, gb'.base + i * gb'.es + off, none⟩)) uv; pure undef : Sem Value).run P w =
                    .ok undef (setBlk w gb'.blk (.cells (patch c (gb'.base + i * gb'.es + off) uv.cells.toList) t' fr)) := by
                  simp only [Instr.storeAt, Instr.sureAddr, storeVar, Sem.run_bind, Sem.run_pure, Result.andThen_ok, size_run hn w, hsz, ne_eq, not_true_eq_false, if_false]
                  rw [run_store_blk P w gb'.blk _ c t' fr _ hb (by simp; omega) (fun j a b => hfr j (by omega) (by simp at b; omega)) h1c]
                  rfl
                have hblt := lt_of_some hb
                have hnew := cells_set hc h0 hx h1 h2 rc hcl
                have hkeep : ∀ b, b < w.heap.size → ownB G id (.cells e t' xs) ≠ some b → (setBlk w gb'.blk (.cells (patch c (gb'.base + i * gb'.es + off) uv.cells.toList) t' fr)).heap[b]? = w.heap[b]? := by
                  intro b hb' hno
                  rw [setBlk_get _ _ _ hblt, if_neg]
                  intro hh; subst hh; exact hno (by simp [ownB, he0, hg'])
                have hown : owns st.rows G gb'.blk := ⟨id, _, hf, by simp [ownB, he0, hg']⟩
                have hkeeps : Keeps w.heap (setBlk w gb'.blk (.cells (patch c (gb'.base + i * gb'.es + off) uv.cells.toList) t' fr)).heap F F G G :=
                  ⟨fun _ h => h, fun b hb' => by
                    rw [setBlk_get _ _ _ hblt, if_neg]
                    intro hh; subst hh; exact hi.nf _ hown hb', fun _ _ _ h => h⟩
                obtain ⟨i1, i2, i3⟩ := hi.step1 (w' := setBlk w gb'.blk (.cells (patch c (gb'.base + i * gb'.es + off) uv.cells.toList) t' fr)) (F' := F) (G' := G) hf (r' := .cells e t' (xs.set i (if off = 0 ∧ n = x.cells.length then v else vSplice x off v.cells)))
                  (by rw [setBlk_size]; exact Nat.le_refl _) hkeep rfl rfl rfl (fun _ h => h) (fun _ h => .inl h) (fun _ _ h => h) (fun _ _ _ => rfl)
                  (.cells e t' _ gb' _ fr he0 hg' (by rw [setBlk_get _ _ _ hblt, if_pos rfl]) ht h00 (by simpa using hcap) (by simpa using hfit) hfr hb1 (hnew.mono hkeeps))
                  (by
                    intro b hb'
                    simp [ownB, he0, hg'] at hb'
                    subst hb'
                    exact .inl ⟨by simp [ownB, he0, hg'], hi.nf _ hown⟩)
                  (by
                    intro e1 t1 xs1 heq e' gb hg1
                    simp only [Row.cells.injEq] at heq
                    obtain ⟨rfl, _, _⟩ := heq
                    exact hi.stamp id _ _ _ hf e' gb hg1)
                exact ⟨_, _, F, G, hrun, i1, i2, i3, .d _ _ (.junk _), rfl, rfl⟩
            · simp [Pg.run] at hr
      | _ => simp [Pg.run] at hr
  | _ => simp [storeP, Pg.run] at hr

end
end Go.AM
namespace Go.AM
open Go

theorem lenAll_spec {n : Nat} : ∀ {l : List V}, lenAll n l = true → ∀ x ∈ l, x.cells.length = n
  | [], _, x, hx => by simp at hx
  | v :: l, h, x, hx => by
    simp only [lenAll, Bool.and_eq_true] at h
    rcases List.mem_cons.1 hx with rfl | hx
    · exact Nat.eq_of_beq_eq_true h.1
    · exact lenAll_spec h.2 x hx

theorem lenAllD_spec {n : Nat} : ∀ {l : List D}, lenAllD n l = true → ∀ x ∈ l, x.cells.length = n
  | [], _, x, hx => by simp at hx
  | v :: l, h, x, hx => by
    simp only [lenAllD, Bool.and_eq_true] at h
    rcases List.mem_cons.1 hx with rfl | hx
    · exact Nat.eq_of_beq_eq_true h.1
    · exact lenAllD_spec h.2 x hx

theorem flatMap_bytes (s : List UInt8) : (s.map fun b : UInt8 => V.d (.int .u8 b.toNat)).flatMap V.cells = s.map fun b : UInt8 => V.d (.int .u8 b.toNat) := by
  induction s with
  | nil => rfl
  | cons a l ih => simp only [List.map_cons, List.flatMap_cons, ih]; rfl

section
variable {P : Program}

/-- What is known of a slice, or a text, whose elements these are: the first cells are theirs. -/
structure Elems (P : Program) (w : World) (F : Nat → Prop) (G : Gh) (n : Nat) (u : Value) (ys : List V) : Prop where
  len : (Builtin.lenOf u).run P w = .ok ys.length w
  cells : ∀ m, m ≤ ys.length → ∃ c, (∀ w' : World, w'.heap = w.heap → (Builtin.firstCells n m u).run P w' = .ok c w') ∧ c.size = m * n ∧
    ∀ (k : Nat) (v : V) (x : Value), (ys.flatMap V.cells)[k]? = some v → c[k]? = some x → RepV w.heap F G v x
  clen : ∀ y ∈ ys, y.cells.length = n
  cell : ∀ y ∈ ys, ∀ z ∈ y.cells, z.isCell = true

/-- Elements that lie in a block. -/
theorem elems_blk {w : World} {F : Nat → Prop} {G : Gh} {n : Nat} {b o : Nat} {c : Array Value} {t : TypeId} {fr : Nat × Nat} {ys : List V} (hb : w.heap[b]? = some (.cells c t fr))
    (hc : CellsAt w.heap F G o n ys c) (cap : Nat) (len : Nat) (hl : len = ys.length) : Elems P w F G n (.slice (some ⟨b, o, none⟩) len cap) ys := by
  subst hl
  refine ⟨by simp [Builtin.lenOf], fun m hm => ?_, hc.len, hc.cell⟩
  have hfit := hc.fit
  have hmn : m * n ≤ ys.length * n := Nat.mul_le_mul_right n hm
  refine ⟨c.extract o (o + m * n), ?_, by simp; omega, ?_⟩
  · intro w' hw'
    simp only [Builtin.firstCells]
    exact run_load_blk P w' b o (m * n) c t fr (by rw [hw']; exact hb) (by omega)
  · intro k v x h1 h2
    rw [Array.getElem?_extract] at h2
    split at h2
    · exact hc.rep k v x h1 h2
    · simp at h2

theorem sub_cells {h : Array Obj} {F : Nat → Prop} {G : Gh} {base es : Nat} {xs : List V} {c : Array Value} (r : CellsAt h F G base es xs c) (off len : Nat) (hl : off + len ≤ xs.length) :
    CellsAt h F G (base + off * es) es ((xs.drop off).take len) c := by
  have h1 : off * es + len * es ≤ xs.length * es := by rw [← Nat.add_mul]; exact Nat.mul_le_mul_right es hl
  have hfit := r.fit
  refine CellsAt.mk2 (fun x hx => r.len x (List.mem_of_mem_drop (List.mem_of_mem_take hx))) (fun x hx => r.cell x (List.mem_of_mem_drop (List.mem_of_mem_take hx)))
    (by rw [List.length_take, List.length_drop, Nat.min_eq_left (by omega)]; omega) ?_
  intro i k x y u hx hy hu
  rw [List.getElem?_take] at hx
  split at hx
  · rw [List.getElem?_drop] at hx
    obtain ⟨u', a, b⟩ := r.get2 hx hy
    rw [show base + off * es + i * es + k = base + (off + i) * es + k by rw [Nat.add_mul]; omega, a] at hu
    simp at hu; subst hu; exact b
  · simp at hx

theorem elems_nil {w : World} {F : Nat → Prop} {G : Gh} {n : Nat} (a : Option Addr) (cap : Nat) : Elems P w F G n (.slice a 0 cap) [] := by
  refine ⟨by simp [Builtin.lenOf], fun m hm => ?_, by simp, by simp⟩
  have : m = 0 := by simpa using hm
  subst this
  cases a with
  | none => exact ⟨#[], by intro w' _; simp [Builtin.firstCells], by simp, by simp⟩
  | some a => exact ⟨#[], by intro w' _; simp [Builtin.firstCells, loadCells, loadCellsFrom], by simp, by simp⟩

theorem elems_snd {w : World} {F : Nat → Prop} {G : Gh} {st st' : St} (hi : Inv P w F G st.rows st.next) {n : Nat} (h0 : n ≠ 0) {x : V} {ux : Value} {ys : List V} (rx : RepV w.heap F G x ux)
    (hr : (elemsP n x).run st = some (ys, st')) : st' = st ∧ Elems P w F G n ux ys := by
  cases x with
  | d x =>
    cases x with
    | snil =>
      simp only [elemsP, Pg.run, Option.some.injEq, Prod.mk.injEq] at hr
      obtain ⟨rfl, rfl⟩ := hr
      cases rx.inv_d
      exact ⟨rfl, elems_nil none 0⟩
    | str s =>
      simp only [elemsP] at hr
      cases hn : Nat.beq n 1 with
      | false => rw [hn] at hr; simp [Pg.run] at hr
      | true =>
        have hn' : n = 1 := Nat.eq_of_beq_eq_true hn
        subst hn'
        rw [hn] at hr
        simp only [cond_true, Pg.run, Option.some.injEq, Prod.mk.injEq] at hr
        obtain ⟨rfl, rfl⟩ := hr
        cases rx.inv_d
        have hsz : (⟨s.toArray⟩ : ByteArray).size = s.length := rfl
        refine ⟨rfl, ⟨by simp [Builtin.lenOf, hsz], fun m hm => ?_, ?_, ?_⟩⟩
        · simp only [List.length_map] at hm
          refine ⟨(ByteArray.extract ⟨s.toArray⟩ 0 m).data.map fun b => .int .u8 b.toNat, by intro w' _; simp only [Builtin.firstCells, Sem.run_pure], ?_, ?_⟩
          · simp; omega
          · intro k v x h1 h2
            have hfm := flatMap_bytes s
            rw [hfm, List.getElem?_map] at h1
            cases hs : s[k]? with
            | none => rw [hs] at h1; simp at h1
            | some b =>
              rw [hs] at h1
              simp only [Option.map_some, Option.some.injEq] at h1
              subst h1
              simp only [Array.getElem?_map] at h2
              have hb : (ByteArray.extract ⟨s.toArray⟩ 0 m).data[k]? = some b ∨ (ByteArray.extract ⟨s.toArray⟩ 0 m).data[k]? = none := by
                rw [ByteArray.data_extract, Array.getElem?_extract]
                split
                · left; simpa using hs
                · right; rfl
              rcases hb with hb | hb
              · rw [hb] at h2
                simp only [Option.map_some, Option.some.injEq] at h2
                subst h2
                exact .d _ _ (.int _ _)
              · rw [hb] at h2; simp at h2
        · intro y hy; obtain ⟨b, _, rfl⟩ := List.mem_map.1 hy; rfl
        · intro y hy z hz; obtain ⟨b, _, rfl⟩ := List.mem_map.1 hy; simp [V.cells, D.cells] at hz; subst hz; rfl
    | ro xs tight =>
      simp only [elemsP] at hr
      cases hn : lenAllD n xs with
      | false => rw [hn] at hr; simp [Pg.run] at hr
      | true =>
        rw [hn] at hr
        simp only [cond_true, Pg.run, Option.some.injEq, Prod.mk.injEq] at hr
        obtain ⟨rfl, rfl⟩ := hr
        refine ⟨rfl, ?_⟩
        have hlen := lenAllD_spec hn
        cases rx.inv_d with
        | ro _ _ b base es cap c t' fr f1 f2 f3 f4 f5 f6 f7 f8 =>
          cases xs with
          | nil => exact elems_nil _ _
          | cons y l =>
            have hes : es = n := by rw [← f3 y (by simp), hlen y (by simp)]
            subst hes
            exact elems_blk f2 (CellsAtD.toV ⟨f3, f5, f4, f6⟩) cap _ (by simp)
        | roe _ a cap ht => exact elems_nil _ _
    | _ => simp [elemsP, Pg.run] at hr
  | sl id e off len =>
    simp only [elemsP, Pg.run] at hr
    cases hf : find st.rows id with
    | none => rw [hf] at hr; simp at hr
    | some r =>
      rw [hf] at hr
      have hrow := hi.row id r hf
      cases r with
      | cells e' t' xs =>
        simp only at hr
        cases he : Nat.beq e e' with
        | false => rw [he] at hr; simp [Pg.run] at hr
        | true =>
          rw [he] at hr
          have he' : e = e' := Nat.eq_of_beq_eq_true he
          subst he'
          simp only [cond_true] at hr
          split at hr
          · rename_i hle
            cases hn : lenAll n xs with
            | false => rw [hn] at hr; simp [Pg.run] at hr
            | true =>
              rw [hn] at hr
              simp only [cond_true, Pg.run, Option.some.injEq, Prod.mk.injEq] at hr
              obtain ⟨rfl, rfl⟩ := hr
              refine ⟨rfl, ?_⟩
              cases rx with
              | sl0 => 
                cases hrow with
                | nil => exact elems_nil _ _
                | cells _ _ _ _ _ _ he0 => exact absurd rfl he0
              | sl _ _ _ _ gb a hg he0 hfit ha =>
                cases hrow with
                | nil => exact absurd rfl he0
                | cells _ _ _ gb' c fr _ hg' hb ht h00 hcap hfit' hfr hb1 hc =>
                  rw [hg'] at hg
                  simp only [Option.some.injEq] at hg
                  subst hg
                  by_cases hz : len = 0
                  · subst hz; simp only [List.take_zero]; exact elems_nil _ _
                  · have ha' := ha (by omega)
                    subst ha'
                    have hes : gb'.es = n := by
                      have hx : xs ≠ [] := by intro h; subst h; simp at hle; omega
                      obtain ⟨y, hy⟩ := List.exists_mem_of_ne_nil xs hx
                      rw [← hc.len y hy, lenAll_spec hn y hy]
                    have := sub_cells hc off len hle
                    rw [hes] at this
                    rw [show gb'.base + off * gb'.es = gb'.base + off * n by rw [hes]]
                    exact elems_blk hb this _ _ (by simp; omega)
          · simp [Pg.run] at hr
      | fz e' t' xs =>
        simp only at hr
        cases he : Nat.beq e e' with
        | false => rw [he] at hr; simp [Pg.run] at hr
        | true =>
          rw [he] at hr
          have he' : e = e' := Nat.eq_of_beq_eq_true he
          subst he'
          simp only [cond_true] at hr
          split at hr
          · rename_i hle
            cases hn : lenAllD n xs with
            | false => rw [hn] at hr; simp [Pg.run] at hr
            | true =>
              rw [hn] at hr
              simp only [cond_true, Pg.run, Option.some.injEq, Prod.mk.injEq] at hr
              obtain ⟨rfl, rfl⟩ := hr
              refine ⟨rfl, ?_⟩
              cases hrow with
              | fz _ _ _ gb' c fr he0 hg' hF hb ht h00 hcap hc =>
                cases rx with
                | sl0 => exact absurd rfl he0
                | sl _ _ _ _ gb a hg _ hfit ha =>
                  rw [hg'] at hg
                  simp only [Option.some.injEq] at hg
                  subst hg
                  by_cases hz : len = 0
                  · subst hz; simp only [List.take_zero, List.map_nil]; exact elems_nil _ _
                  · have ha' := ha (by omega)
                    subst ha'
                    have hes : gb'.es = n := by
                      have hx : xs ≠ [] := by intro h; subst h; simp at hle; omega
                      obtain ⟨y, hy⟩ := List.exists_mem_of_ne_nil xs hx
                      rw [← hc.len y hy, lenAllD_spec hn y hy]
                    have := sub_cells (hc.toV (G := G)) off len (by simpa using hle)
                    rw [hes, ← List.map_drop, ← List.map_take] at this
                    rw [show gb'.base + off * gb'.es = gb'.base + off * n by rw [hes]]
                    exact elems_blk hb this _ _ (by simp; omega)
          · simp [Pg.run] at hr
      | _ => simp [Pg.run] at hr
  | _ => simp [elemsP, Pg.run] at hr

end
end Go.AM
namespace Go.AM
open Go

theorem growBy_le (need : Nat) : ∀ (r c : Nat), c < need → Builtin.growBy need r c ≤ 2 * need + 192
  | 0, c, h => by simp [Builtin.growBy]; omega
  | r + 1, c, h => by
    unfold Builtin.growBy
    split
    · omega
    · by_cases h2 : c + (c + 768) / 4 < need
      · exact growBy_le need r _ h2
      · cases r with
        | zero => simp [Builtin.growBy]; omega
        | succ r => unfold Builtin.growBy; rw [if_pos (by omega)]; omega

theorem nextcap_le (need c : Nat) (h : c < need) : Builtin.nextslicecap need c ≤ 2 * need + 192 := by
  unfold Builtin.nextslicecap
  split
  · omega
  · split
    · omega
    · exact growBy_le need 4 c h

section
variable {P : Program}

/-- The types of an append. -/
structure AppT (P : Program) (ts : Array TypeId) (e es bytes : Nat) : Prop where
  t0 : ∃ sT, ts[0]? = some sT ∧ P.underlying sT = some (.slice e)
  t1 : ∃ uT d, ts[1]? = some uT ∧ P.underlying uT = some d ∧ (∀ k, d ≠ .int k)
  info : ∃ i, P.info? e = some i ∧ i.size = es ∧ i.bytes = bytes
  zero : ∃ z zv, tyZero P e = some z ∧ z.cells.length = es ∧ (∀ w, (zeroValue e).run P w = .ok zv w) ∧ zv.cells.size = es
  es0 : es ≠ 0
  by0 : bytes ≠ 0
  by1 : bytes ≤ 1048576

theorem zeroCells_size (z : Array Value) (n : Nat) : (Builtin.zeroCells z n).size = n * z.size := by simp [Builtin.zeroCells]

theorem append_fits {ts : Array TypeId} {e es bytes : Nat} (T : AppT P ts e es bytes) {w : World} {F : Nat → Prop} {G : Gh} {x : Value} {ys : List V} (hx : Elems P w F G es x ys)
    (a : Addr) (len cap : Nat) (hfit : len + ys.length ≤ cap) (ty : TypeId) {w' : World} {c : Array Value} (hc : (Builtin.firstCells es ys.length x).run P w = .ok c w)
    (hst : (storeCells (a.add (len * es)) c.toList).run P w = .ok () w') :
    (Builtin.append_ ts ty #[.slice (some a) len cap, x]).run P w = .ok (.slice (some a) (len + ys.length) cap) w' := by
  obtain ⟨sT, h0, hu0⟩ := T.t0
  obtain ⟨uT, d, h1, hu1, hd⟩ := T.t1
  obtain ⟨i, hi, hs, hb⟩ := T.info
  have hsz : (sizeOf e).run P w = .ok es w := size_run (by simp [tySize, hi, hs]) w
  have hm : (match d with | TypeDesc.int _ => true | _ => false) = false := by
    cases d <;> first | rfl | exact absurd rfl (hd _)
  unfold Builtin.append_
  simp only [h0, h1, List.getElem?_toArray, List.getElem?_cons_zero, List.getElem?_cons_succ]
  simp only [Sem.run_bind, und_run hu0, und_run hu1, Result.andThen_ok, hsz, Sem.run_pure, hm, Bool.false_eq_true, if_false, hx.len, Sem.run_ite, hfit, if_true, hc, Bool.not_false, hst]

theorem append_grows {ts : Array TypeId} {e es bytes : Nat} (T : AppT P ts e es bytes) {w : World} {F : Nat → Prop} {G : Gh} {x s : Value} {ys xs : List V} (hx : Elems P w F G es x ys)
    (base : Option Addr) (cap : Nat) (hs : Elems P w F G es (.slice base xs.length cap) xs) (hfit : cap < xs.length + ys.length) (hroom : (xs.length + ys.length) * bytes ≤ mostCells) (ty : TypeId) :
    ∃ newCap c w', (Builtin.append_ ts ty #[.slice base xs.length cap, x]).run P w = .ok (.slice (some ⟨w.heap.size, 0, none⟩) (xs.length + ys.length) newCap) w' ∧
      w' = { w with heap := w.heap.push (.cells c e), drawn := w.drawn + 1 } ∧ xs.length + ys.length ≤ newCap ∧ c.size = newCap * es ∧
      ∀ (k : Nat) (v : V) (u : Value), ((xs ++ ys).flatMap V.cells)[k]? = some v → c[k]? = some u → RepV w.heap F G v u := by
  obtain ⟨sT, h0, hu0⟩ := T.t0
  obtain ⟨uT, d, h1, hu1, hd⟩ := T.t1
  obtain ⟨i, hi, hsz0, hb⟩ := T.info
  obtain ⟨z, zv, _, _, hzr, hzs⟩ := T.zero
  have hsz : ∀ w, (sizeOf e).run P w = .ok es w := fun w => size_run (by simp [tySize, hi, hsz0]) w
  have hti : ∀ w, (typeInfo e).run P w = .ok i w := by
    intro w
    simp [typeInfo, hi]
  have hm : (match d with | TypeDesc.int _ => true | _ => false) = false := by
    cases d <;> first | rfl | exact absurd rfl (hd _)
  have hby0 := T.by0
  have hby1 := T.by1
  have hn1 : ¬ (((xs.length + ys.length : Nat) : Int) > IntKind.i64.max ∧ (False ∨ i.bytes = 0)) := by
    rintro ⟨_, h | h⟩
    · exact h
    · omega
  have hn2 : ¬ (Builtin.nextslicecap (xs.length + ys.length) cap * i.bytes > 2 ^ 48) := by
    have h1 := nextcap_le (xs.length + ys.length) cap hfit
    have h2 : Builtin.nextslicecap (xs.length + ys.length) cap * i.bytes ≤ (2 * (xs.length + ys.length) + 192) * i.bytes := Nat.mul_le_mul_right _ h1
    rw [hb] at h2 ⊢
    unfold mostCells at hroom
    rw [Nat.add_mul, Nat.mul_assoc] at h2
    omega
  obtain ⟨co, hco, hcos, hcor⟩ := hs.cells xs.length (Nat.le_refl _)
  obtain ⟨cn, hcn, hcns, hcnr⟩ := hx.cells ys.length (Nat.le_refl _)
  let q := Question.appendCap (xs.length + ys.length) cap e
  let newCap := q.cut (w.tape w.drawn q)
  have hcap : xs.length + ys.length ≤ newCap := by simp [newCap, q, Question.cut]
  let w1 : World := { w with drawn := w.drawn + 1 }
  have hco1 : (Builtin.firstCells es xs.length (.slice base xs.length cap)).run P w1 = .ok co w1 := hco w1 rfl
  have hcn1 : (Builtin.firstCells es ys.length x).run P w1 = .ok cn w1 := hcn w1 rfl
  refine ⟨newCap, co ++ cn ++ Builtin.zeroCells zv.cells (newCap - (xs.length + ys.length)), { w with heap := w.heap.push (.cells (co ++ cn ++ Builtin.zeroCells zv.cells (newCap - (xs.length + ys.length))) e), drawn := w.drawn + 1 }, ?_, rfl, hcap, ?_, ?_⟩
  · unfold Builtin.append_
    simp only [h0, h1, List.getElem?_toArray, List.getElem?_cons_zero, List.getElem?_cons_succ]
    simp only [Sem.run_bind, und_run hu0, und_run hu1, Result.andThen_ok, hsz, Sem.run_pure, hm, Bool.false_eq_true, if_false, hx.len, Sem.run_ite, Nat.not_le.2 hfit, hti, hn1, hn2]
    simp only [run_choose, Question.forced, Bool.false_eq_true, if_false, Result.andThen_ok, run_askRoom]
    rw [show ({ w with drawn := w.drawn + 1 } : World) = w1 from rfl, hco1]
    simp only [Result.andThen_ok, Bool.not_false, if_true, hcn1, hzr, newRow, Sem.run_bind, run_newObj, Sem.run_pure]
    rfl
  · simp [zeroCells_size, hcos, hcns, hzs]
    rw [← Nat.add_mul, ← Nat.add_mul]; congr 1; omega
  · intro k v u h1 h2
    rw [List.flatMap_append] at h1
    have l1 := flat_len V.cells es xs hs.clen
    have l2 := flat_len V.cells es ys hx.clen
    by_cases hk : k < xs.length * es
    · rw [List.getElem?_append_left (by omega)] at h1
      rw [Array.append_assoc, Array.getElem?_append_left (by omega)] at h2
      exact hcor k v u h1 h2
    · rw [List.getElem?_append_right (by omega), l1] at h1
      have hk2 := lt_of_someL h1
      rw [Array.append_assoc, Array.getElem?_append_right (by omega), hcos, Array.getElem?_append_left (by omega)] at h2
      exact hcnr _ v u h1 h2

end
end Go.AM
namespace Go.AM
open Go

theorem Pg.run_bind {α β : Type} (p : Pg α) (f : α → Pg β) (st : St) : (p.bind f).run st = match p.run st with
    | some (a, st') => (f a).run st'
    | none => none := by
  induction p generalizing st with
  | ret a => rfl
  | fail => rfl
  | getR id k ih =>
    simp only [Pg.bind, Pg.run]
    cases find st.rows id with
    | none => rfl
    | some r => exact ih r st
  | setR id r k ih => simp only [Pg.bind, Pg.run]; exact ih _
  | new r k ih => simp only [Pg.bind, Pg.run]; exact ih _ _

theorem Pg.bind_some {α β : Type} {p : Pg α} {f : α → Pg β} {st st' : St} {b : β} (h : (p.bind f).run st = some (b, st')) :
    ∃ a st1, p.run st = some (a, st1) ∧ (f a).run st1 = some (b, st') := by
  rw [Pg.run_bind] at h
  cases hp : p.run st with
  | none => rw [hp] at h; simp at h
  | some r => obtain ⟨a, st1⟩ := r; rw [hp] at h; exact ⟨a, st1, rfl, h⟩

section
variable {P : Program} {h : Array Obj} {F : Nat → Prop} {G : Gh}

/-- Elements laid over a row's, from one of its places on. -/
theorem cells_over {base es : Nat} {xs ys : List V} {c cn : Array Value} (r : CellsAt h F G base es xs c) (p : Nat) (hp : p ≤ xs.length) (hfit : base + (p + ys.length) * es ≤ c.size)
    (hlen : ∀ y ∈ ys, y.cells.length = es) (hcell : ∀ y ∈ ys, ∀ z ∈ y.cells, z.isCell = true) (hcs : cn.size = ys.length * es)
    (hrep : ∀ (k : Nat) (v : V) (x : Value), (ys.flatMap V.cells)[k]? = some v → cn[k]? = some x → RepV h F G v x) :
    CellsAt h F G base es (xs.take p ++ ys ++ xs.drop (p + ys.length)) (patch c (base + p * es) cn.toList) := by
  have hb := r.fit
  have hpm : (p + ys.length) * es = p * es + ys.length * es := Nat.add_mul _ _ _
  have hpl : base + p * es + cn.toList.length ≤ c.size := by simp; omega
  have hmem : ∀ x ∈ xs.take p ++ ys ++ xs.drop (p + ys.length), x ∈ xs ∨ x ∈ ys := by
    intro x hx
    simp only [List.mem_append] at hx
    rcases hx with (hx | hx) | hx
    · exact .inl (List.mem_of_mem_take hx)
    · exact .inr hx
    · exact .inl (List.mem_of_mem_drop hx)
  have hL : (xs.take p ++ ys ++ xs.drop (p + ys.length)).length = p + ys.length + (xs.length - (p + ys.length)) := by simp; omega
  refine CellsAt.mk2 ?_ ?_ ?_ ?_
  · intro x hx; rcases hmem x hx with h | h
    · exact r.len x h
    · exact hlen x h
  · intro x hx; rcases hmem x hx with h | h
    · exact r.cell x h
    · exact hcell x h
  · rw [patch_size, hL]
    rcases Nat.le_total (p + ys.length) xs.length with h1 | h1
    · rw [show p + ys.length + (xs.length - (p + ys.length)) = xs.length by omega]; exact hb
    · rw [show p + ys.length + (xs.length - (p + ys.length)) = p + ys.length by omega]; exact hfit
  · intro i k x y u hx hy hu
    have hkes : k < es := by
      have := lt_of_someL hy
      rcases hmem x (List.mem_of_getElem? hx) with h | h
      · rw [r.len x h] at this; exact this
      · rw [hlen x h] at this; exact this
    rw [patch_get c _ _ hpl] at hu
    have htp : (xs.take p).length = p := by simp; omega
    by_cases h1 : i < p
    · have hle : i * es + es ≤ p * es := mul_le_of_lt h1
      rw [if_neg (by omega)] at hu
      rw [List.append_assoc, List.getElem?_append_left (by omega), List.getElem?_take, if_pos h1] at hx
      obtain ⟨u', a, b⟩ := r.get2 hx hy
      rw [a] at hu; simp at hu; subst hu; exact b
    · by_cases h2 : i < p + ys.length
      · have hle : (i - p) * es + es ≤ ys.length * es := mul_le_of_lt (by omega)
        have hip : i * es = p * es + (i - p) * es := by rw [← Nat.add_mul]; congr 1; omega
        rw [if_pos (by simp; omega)] at hu
        rw [List.append_assoc, List.getElem?_append_right (by omega), htp, List.getElem?_append_left (by omega)] at hx
        have hf := flat_get V.cells es ys (i - p) k x hlen hx hkes
        refine hrep ((i - p) * es + k) y u (by rw [hf]; exact hy) ?_
        rw [Array.getElem?_toList] at hu
        rw [← hu]; congr 1; omega
      · have hle : (p + ys.length) * es ≤ i * es := Nat.mul_le_mul_right _ (by omega)
        rw [if_neg (by simp; omega)] at hu
        rw [List.getElem?_append_right (by simp; omega), List.getElem?_drop] at hx
        have : p + ys.length + (i - (xs.take p ++ ys).length) = i := by simp; omega
        rw [this] at hx
        obtain ⟨u', a, b⟩ := r.get2 hx hy
        rw [a] at hu; simp at hu; subst hu; exact b

end

section
variable {P : Program}

theorem append_nil {ts : Array TypeId} {e es bytes : Nat} (T : AppT P ts e es bytes) {w : World} {F : Nat → Prop} {G : Gh} {x : Value} (hx : Elems P w F G es x [])
    (base : Option Addr) (len cap : Nat) (hfit : len ≤ cap) (ty : TypeId) :
    (Builtin.append_ ts ty #[.slice base len cap, x]).run P w = .ok (.slice base len cap) w := by
  obtain ⟨c, hc, hcs, _⟩ := hx.cells 0 (by simp)
  have hc0 : c.toList = [] := by
    have : c.size = 0 := by simpa using hcs
    exact List.length_eq_zero_iff.1 (by simpa using this)
  cases base with
  | some a =>
    have := append_fits T hx a len cap (by simpa using hfit) ty (w' := w) (c := c) (by simpa using hc w rfl) (by rw [hc0]; rfl)
    simpa using this
  | none =>
    obtain ⟨sT, h0, hu0⟩ := T.t0
    obtain ⟨uT, d, h1, hu1, hd⟩ := T.t1
    obtain ⟨i, hi, hs, hb⟩ := T.info
    have hsz : (sizeOf e).run P w = .ok es w := size_run (by simp [tySize, hi, hs]) w
    have hm : (match d with | TypeDesc.int _ => true | _ => false) = false := by
      cases d <;> first | rfl | exact absurd rfl (hd _)
    have hl := hx.len
    have hcw := hc w rfl
    simp only [List.length_nil] at hl
    unfold Builtin.append_
    simp only [h0, h1, List.getElem?_toArray, List.getElem?_cons_zero, List.getElem?_cons_succ]
    simp only [Sem.run_bind, und_run hu0, und_run hu1, Result.andThen_ok, hsz, Sem.run_pure, hm, Bool.false_eq_true, if_false, hl, Sem.run_ite, Nat.add_zero, hfit, if_true, Bool.not_false, hcw]

theorem elems_one {w : World} {F : Nat → Prop} {G : Gh} {n : Nat} {u : Value} {ys : List V} (hx : Elems P w F G n u ys) {cn : Array Value} (hcs : cn.size = ys.length * n)
    (hr : ∀ (k : Nat) (v : V) (x : Value), (ys.flatMap V.cells)[k]? = some v → cn[k]? = some x → RepV w.heap F G v x) : ∀ u ∈ cn.toList, u.oneCell' = true := by
  intro u hu
  obtain ⟨k, hk, rfl⟩ := List.getElem_of_mem hu
  have hl := flat_len V.cells n ys hx.clen
  have hk2 : k < (ys.flatMap V.cells).length := by rw [hl]; simp at hk; omega
  have hm := List.getElem_mem hk2
  obtain ⟨y, hy, hz⟩ := List.mem_flatMap.1 hm
  exact (hr k _ _ (List.getElem?_eq_getElem hk2) (by simp at hk; simp [hk])).cellV (hx.cell y hy _ hz)

/-- A row's block set anew: as many cells, other elements. -/
theorem set_cells {w : World} {F : Nat → Prop} {G : Gh} {rows : List (Nat × Row)} {next : Nat} (hi : Inv P w F G rows next) {id e : Nat} {t : TypeId} {xs xs' : List V} {gb : GB} {c c' : Array Value} {fr : Nat × Nat}
    (hf : find rows id = some (.cells e t xs)) (he : e ≠ 0) (hg : G id e = some gb) (hb : w.heap[gb.blk]? = some (.cells c t fr)) (ht : tySize P t = some gb.es) (h0 : gb.es ≠ 0)
    (hfit : gb.base + gb.cap * gb.es ≤ c.size) (hfr : ∀ j, gb.base ≤ j → j < gb.base + gb.cap * gb.es → ¬ (fr.1 ≤ j ∧ j < fr.2)) (hb1 : e = 1 → gb.base = 0 ∧ fr.1 = fr.2) (hcap : xs'.length ≤ gb.cap)
    (hc : CellsAt w.heap F G gb.base gb.es xs' c') (hs : c'.size = c.size) :
    Inv P (setBlk w gb.blk (.cells c' t fr)) F G (put rows id (.cells e t xs')) next ∧ Ext w (setBlk w gb.blk (.cells c' t fr)) F F G G (owns rows G) ∧
      (∀ b, owns (put rows id (.cells e t xs')) G b → owns rows G b ∨ w.heap.size ≤ b) := by
  have hblt := lt_of_some hb
  have hown : owns rows G gb.blk := ⟨id, _, hf, by simp [ownB, he, hg]⟩
  have hkeeps : Keeps w.heap (setBlk w gb.blk (.cells c' t fr)).heap F F G G :=
    ⟨fun _ h => h, fun b hb' => by
      rw [setBlk_get _ _ _ hblt, if_neg]
      intro hh; subst hh; exact hi.nf _ hown hb', fun _ _ _ h => h⟩
  refine hi.step1 (F' := F) (G' := G) hf (by rw [setBlk_size]; exact Nat.le_refl _) ?_ rfl rfl rfl (fun _ h => h) (fun _ h => .inl h) (fun _ _ h => h) (fun _ _ _ => rfl)
    (.cells e t xs' gb c' fr he hg (by rw [setBlk_get _ _ _ hblt, if_pos rfl]) ht h0 hcap (by rw [hs]; exact hfit) hfr hb1 (hc.mono hkeeps)) ?_ ?_
  · intro b hb' hno
    rw [setBlk_get _ _ _ hblt, if_neg]
    intro hh; subst hh; exact hno (by simp [ownB, he, hg])
  · intro b hb'
    simp [ownB, he, hg] at hb'
    subst hb'
    exact .inl ⟨by simp [ownB, he, hg], hi.nf _ hown⟩
  · intro e1 t1 xs1 heq e' gb' hg1
    simp only [Row.cells.injEq] at heq
    obtain ⟨rfl, _, _⟩ := heq
    exact hi.stamp id _ _ _ hf e' gb' hg1

/-- A row in whose place a new block stands. -/
theorem move_cells {w w' : World} {F : Nat → Prop} {G : Gh} {rows : List (Nat × Row)} {next : Nat} (hi : Inv P w F G rows next) {t es : Nat} (hes : tySize P t = some es) (h0 : es ≠ 0)
    {id e e' : Nat} {xs0 : List V} {t0 : TypeId} (hf : find rows id = some (.cells e t0 xs0)) (he : e < e') (xs : List V) (c : Array Value) (cap : Nat) (hcap : xs.length ≤ cap) (hfit : cap * es ≤ c.size)
    (hw : w'.heap = w.heap.push (.cells c t)) (hos : w'.os = w.os) (htape : w'.tape = w.tape) (hout : w'.output = w.output)
    (hlen : ∀ x ∈ xs, x.cells.length = es) (hcell : ∀ x ∈ xs, ∀ y ∈ x.cells, y.isCell = true)
    (hrep : ∀ (k : Nat) (v : V) (u : Value), (xs.flatMap V.cells)[k]? = some v → c[k]? = some u → RepV w.heap F G v u) :
    let G' := gset G id e' ⟨w.heap.size, 0, es, cap⟩
    Inv P w' F G' (put rows id (.cells e' t xs)) next ∧ Ext w w' F F G G' (owns rows G) ∧ (∀ b, owns (put rows id (.cells e' t xs)) G' b → owns rows G b ∨ w.heap.size ≤ b) := by
  intro G'
  have hold : ∀ b, b < w.heap.size → w'.heap[b]? = w.heap[b]? := fun b hb => by rw [hw, Array.getElem?_push]; simp; omega
  have hnew : w'.heap[w.heap.size]? = some (.cells c t (0, 0)) := by rw [hw]; simp
  have hno : G id e' = none := by
    cases hg : G id e' with
    | none => rfl
    | some gb => have := hi.stamp id _ _ _ hf _ _ hg; omega
  have hGm : ∀ j k gb, G j k = some gb → G' j k = some gb := fun j k gb h => by
    rw [show G' = gset G id e' _ from rfl, gset_other]
    · exact h
    · rintro ⟨rfl, rfl⟩; rw [hno] at h; simp at h
  have hk : Keeps w.heap w'.heap F F G G' := ⟨fun _ h => h, fun b hb => hold b (hi.fb b hb), hGm⟩
  refine hi.step1 (G' := G') (F' := F) hf (by rw [hw]; simp) (fun b hb _ => hold b hb) hos htape hout (fun _ h => h) (fun _ h => .inl h) (hGm id) (fun j k hj => gset_other _ _ _ _ (fun h => hj h.1)) ?_ ?_ ?_
  · refine .cells e' t xs ⟨w.heap.size, 0, es, cap⟩ c (0, 0) (by omega) (gset_same _ _ _ _) hnew hes h0 hcap (by simpa using hfit) (by intro j _ _ h; simp at h) (fun _ => ⟨rfl, rfl⟩) ⟨hlen, hcell, ?_, ?_⟩
    · have : xs.length * es ≤ cap * es := Nat.mul_le_mul_right es hcap
      simp; omega
    · intro k v u h1 h2
      exact (hrep k v u h1 (by simpa using h2)).mono hk
  · intro b hb
    have : G' id e' = some ⟨w.heap.size, 0, es, cap⟩ := gset_same _ _ _ _
    simp [ownB, this] at hb
    exact .inr (by omega)
  · intro e1 t1 xs1 heq e2 gb hg
    simp only [Row.cells.injEq] at heq
    obtain ⟨rfl, _, _⟩ := heq
    by_cases h : e2 = e'
    · omega
    · rw [show G' = gset G id e' _ from rfl, gset_other _ _ _ _ (fun hh => h hh.2)] at hg
      have := hi.stamp id _ _ _ hf _ _ hg
      omega

/-- An append within a row. -/
theorem app_in {ts : Array TypeId} {e es bytes : Nat} (T : AppT P ts e es bytes) {w : World} {F : Nat → Prop} {G : Gh} {st : St} (hi : Inv P w F G st.rows st.next) {ua ub : Value} (ty : TypeId)
    {id e' off len : Nat} {xs ys : List V} (hf : find st.rows id = some (.cells e' e xs)) (ra : RepV w.heap F G (.sl id e' off len) ua) (hx : Elems P w F G es ub ys) (hyl : 0 < ys.length)
    (hin : off + len + ys.length ≤ xs.length) :
    Post P w F G st (Builtin.append_ ts ty #[ua, ub]) (.sl id e' off (len + ys.length))
      { st with rows := put st.rows id (.cells e' e (xs.take (off + len) ++ ys ++ xs.drop (off + len + ys.length))) } := by
  obtain ⟨i, hinf, hisz, hiby⟩ := T.info
  have hes : tySize P e = some es := by simp [tySize, hinf, hisz]
  have hrow := hi.row id _ hf
  cases ra with
  | sl0 =>
    cases hrow with
    | nil => simp only [List.length_nil] at hin; omega
    | cells _ _ _ _ _ _ he0 => exact absurd rfl he0
  | sl _ _ _ _ gb a hg he hfit ha =>
    cases hrow with
    | nil => exact absurd rfl he
    | cells _ _ _ gb' c fr he0 hg' hb ht h00 hcap hfit' hfr hb1 hc =>
      rw [hg'] at hg
      simp only [Option.some.injEq] at hg
      subst hg
      rw [hes] at ht
      simp only [Option.some.injEq] at ht
      have ha' := ha (by omega)
      subst ha'
      have hblt := lt_of_some hb
      obtain ⟨cn, hcn, hcns, hcnr⟩ := hx.cells ys.length (Nat.le_refl _)
      have hpe : (off + len + ys.length) * es ≤ gb'.cap * es := Nat.mul_le_mul_right _ (by omega)
      have hsplit : (off + len + ys.length) * es = off * es + len * es + ys.length * es := by rw [Nat.add_mul, Nat.add_mul]
      have hcl : ∀ u ∈ cn.toList, u.oneCell' = true := elems_one hx hcns hcnr
      have hst := run_store_blk P w gb'.blk (gb'.base + off * es + len * es) c e fr cn.toList hb (by simp; rw [← ht] at hfit'; omega) (fun j a b => hfr j (by omega) (by simp at b; rw [← ht]; omega)) hcl
      have hrun := append_fits T hx ⟨gb'.blk, gb'.base + off * gb'.es, none⟩ len (gb'.cap - off) (by omega) ty (hcn w rfl) (by rw [addr_add, ← ht]; exact hst)
      have hover := cells_over hc (off + len) (by omega) (ys := ys) (cn := cn) (by rw [← ht]; rw [← ht] at hfit'; omega) (by rw [← ht]; exact hx.clen) hx.cell (by rw [← ht]; exact hcns) hcnr
      rw [← ht, Nat.add_mul, ← Nat.add_assoc] at hover
      obtain ⟨i1, i2, i3⟩ := set_cells (xs' := xs.take (off + len) ++ ys ++ xs.drop (off + len + ys.length)) hi hf he0 hg' hb (by rw [hes, ht]) h00 hfit' hfr hb1 (by rw [List.length_append, List.length_append, List.length_take, List.length_drop]; omega) (by rw [← ht]; exact hover) (patch_size _ _ _)
      refine ⟨_, _, F, G, hrun, i1, i2, i3, ?_, rfl, rfl⟩
      have := RepV.sl (h := (setBlk w gb'.blk (.cells (patch c (gb'.base + off * es + len * es) cn.toList) e fr)).heap) (F := F) (G := G) id e' off (len + ys.length) gb' ⟨gb'.blk, gb'.base + off * gb'.es, none⟩ hg' he0 (by omega) (fun _ => rfl)
      exact this

/-- An append within a row of which a beginning is frozen. -/
theorem app_part {ts : Array TypeId} {e es bytes : Nat} (T : AppT P ts e es bytes) {w : World} {F : Nat → Prop} {G : Gh} {st : St} (hi : Inv P w F G st.rows st.next) {ua ub : Value} (ty : TypeId)
    {id e' off len k : Nat} {xs ys : List V} (hf : find st.rows id = some (.part e' e k xs)) (ra : RepV w.heap F G (.sl id e' off len) ua) (hx : Elems P w F G es ub ys) (hyl : 0 < ys.length)
    (hin : off + len + ys.length ≤ xs.length) (hk : k ≤ off + len) :
    Post P w F G st (Builtin.append_ ts ty #[ua, ub]) (.sl id e' off (len + ys.length))
      { st with rows := put st.rows id (.part e' e k (xs.take (off + len) ++ ys ++ xs.drop (off + len + ys.length))) } := by
  obtain ⟨i, hinf, hisz, hiby⟩ := T.info
  have hes : tySize P e = some es := by simp [tySize, hinf, hisz]
  have hrow := hi.row id _ hf
  cases ra with
  | sl0 =>
    cases hrow with
    | part _ _ _ _ _ _ _ he0 => exact absurd rfl he0
  | sl _ _ _ _ gb a hg he hfit ha =>
    cases hrow with
    | part _ _ _ _ gb' c fr he0 hg' hb ht h00 hcap hfit' hfr hc =>
      rw [hg'] at hg
      simp only [Option.some.injEq] at hg
      subst hg
      rw [hes] at ht
      simp only [Option.some.injEq] at ht
      have ha' := ha (by omega)
      subst ha'
      have hblt := lt_of_some hb
      obtain ⟨cn, hcn, hcns, hcnr⟩ := hx.cells ys.length (Nat.le_refl _)
      have hpe : (off + len + ys.length) * es ≤ gb'.cap * es := Nat.mul_le_mul_right _ (by omega)
      have hpk : k * es ≤ (off + len) * es := Nat.mul_le_mul_right _ hk
      have hsplit : (off + len + ys.length) * es = off * es + len * es + ys.length * es := by rw [Nat.add_mul, Nat.add_mul]
      have hsplit2 : (off + len) * es = off * es + len * es := by rw [Nat.add_mul]
      have hcl : ∀ u ∈ cn.toList, u.oneCell' = true := elems_one hx hcns hcnr
      have hst := run_store_blk P w gb'.blk (gb'.base + off * es + len * es) c e fr cn.toList hb (by simp; rw [← ht] at hfit'; omega) (fun j a b => by rw [← ht] at hfr; omega) hcl
      have hrun := append_fits T hx ⟨gb'.blk, gb'.base + off * gb'.es, none⟩ len (gb'.cap - off) (by omega) ty (hcn w rfl) (by rw [addr_add, ← ht]; exact hst)
      have hover := cells_over hc (off + len) (by omega) (ys := ys) (cn := cn) (by rw [← ht]; rw [← ht] at hfit'; omega) (by rw [← ht]; exact hx.clen) hx.cell (by rw [← ht]; exact hcns) hcnr
      rw [← ht, Nat.add_mul, ← Nat.add_assoc] at hover
      have hown : owns st.rows G gb'.blk := ⟨id, _, hf, by simp [ownB, he0, hg']⟩
      have hkeeps : Keeps w.heap (setBlk w gb'.blk (.cells (patch c (gb'.base + off * es + len * es) cn.toList) e fr)).heap F F G G :=
        ⟨fun _ h => h, fun b hb' => by
          rw [setBlk_get _ _ _ hblt, if_neg]
          intro hh; subst hh; exact hi.nf _ hown hb', fun _ _ _ h => h⟩
      obtain ⟨i1, i2, i3⟩ := hi.step1 (w' := setBlk w gb'.blk (.cells (patch c (gb'.base + off * es + len * es) cn.toList) e fr)) (F' := F) (G' := G) hf (r' := .part e' e k (xs.take (off + len) ++ ys ++ xs.drop (off + len + ys.length)))
        (by rw [setBlk_size]; exact Nat.le_refl _) (fun b hb' hno => by
          rw [setBlk_get _ _ _ hblt, if_neg]
          intro hh; subst hh; exact hno (by simp [ownB, he0, hg'])) rfl rfl rfl (fun _ h => h) (fun _ h => .inl h) (fun _ _ h => h) (fun _ _ _ => rfl)
        (.part e' e k _ gb' _ fr he0 hg' (by rw [setBlk_get _ _ _ hblt, if_pos rfl]) (by rw [hes, ht]) h00 (by rw [List.length_append, List.length_append, List.length_take, List.length_drop]; omega) (by rw [patch_size]; exact hfit') hfr (CellsAt.mono hkeeps (by rw [← ht]; exact hover)))
        (by
          intro b hb'
          simp [ownB, he0, hg'] at hb'
          subst hb'
          exact .inl ⟨by simp [ownB, he0, hg'], hi.nf _ hown⟩) (by intro e1 t1 xs1 heq; simp at heq)
      refine ⟨_, _, F, G, hrun, i1, i2, i3, ?_, rfl, rfl⟩
      have := RepV.sl (h := (setBlk w gb'.blk (.cells (patch c (gb'.base + off * es + len * es) cn.toList) e fr)).heap) (F := F) (G := G) id e' off (len + ys.length) gb' ⟨gb'.blk, gb'.base + off * gb'.es, none⟩ hg' he0 (by omega) (fun _ => rfl)
      exact this

/-- An append that goes on behind a row. -/
theorem app_out {ts : Array TypeId} {e es bytes : Nat} (T : AppT P ts e es bytes) {w : World} {F : Nat → Prop} {G : Gh} {st : St} (hi : Inv P w F G st.rows st.next) {ua ub : Value} (ty : TypeId)
    {id e' off len : Nat} {xs ys : List V} (hf : find st.rows id = some (.cells e' e xs)) (ra : RepV w.heap F G (.sl id e' off len) ua) (hx : Elems P w F G es ub ys) (hyl : 0 < ys.length)
    (hout : ¬ off + len + ys.length ≤ xs.length) (hroom : (len + ys.length) * bytes ≤ mostCells) (hle : off + len ≤ xs.length) :
    Post P w F G st (Builtin.append_ ts ty #[ua, ub]) (.sl id (e' + ys.length) 0 (len + ys.length))
      { st with rows := put st.rows id (.cells (e' + ys.length) e ((xs.drop off).take len ++ ys)) } := by
  obtain ⟨i, hinf, hisz, hiby⟩ := T.info
  have hes : tySize P e = some es := by simp [tySize, hinf, hisz]
  have hrow := hi.row id _ hf
  have hl0 : ((xs.drop off).take len).length = len := by simp; omega
  -- a new block
  have grow : ∀ (base : Option Addr) (cap : Nat), ua = .slice base len cap → cap < len + ys.length → Elems P w F G es (.slice base ((xs.drop off).take len).length cap) ((xs.drop off).take len) →
      Post P w F G st (Builtin.append_ ts ty #[ua, ub]) (.sl id (e' + ys.length) 0 (len + ys.length)) { st with rows := put st.rows id (.cells (e' + ys.length) e ((xs.drop off).take len ++ ys)) } := by
    intro base cap hua hcap hs
    subst hua
    obtain ⟨newCap, c, w', hrun, hw', hcap', hcs, hrep⟩ := append_grows (s := .nilFunc) T hx base cap hs (by omega) (by rw [hl0]; exact hroom) ty
    rw [hl0] at hrun hcap'
    obtain ⟨i1, i2, i3⟩ := move_cells (w' := w') hi hes T.es0 (e' := e' + ys.length) hf (by omega) ((xs.drop off).take len ++ ys) c newCap (by rw [List.length_append, hl0]; exact hcap') (by omega) (by rw [hw']) (by rw [hw']) (by rw [hw']) (by rw [hw'])
      (by intro x hx'; rcases List.mem_append.1 hx' with h | h; exact hs.clen x h; exact hx.clen x h) (by intro x hx'; rcases List.mem_append.1 hx' with h | h; exact hs.cell x h; exact hx.cell x h) hrep
    refine ⟨_, w', F, _, hrun, i1, i2, i3, ?_, rfl, rfl⟩
    have := RepV.sl (h := w'.heap) (F := F) (G := gset G id (e' + ys.length) ⟨w.heap.size, 0, es, newCap⟩) id (e' + ys.length) 0 (len + ys.length) ⟨w.heap.size, 0, es, newCap⟩ ⟨w.heap.size, 0, none⟩ (gset_same _ _ _ _) (by omega) (by simpa using hcap') (by simp)
    simpa using this
  cases ra with
  | sl0 => exact grow none 0 rfl (by omega) (elems_nil none 0)
  | sl _ _ _ _ gb a hg he hfit ha =>
    cases hrow with
    | nil => exact absurd rfl he
    | cells _ _ _ gb' c fr he0 hg' hb ht h00 hcap hfit' hfr hb1 hc =>
      rw [hg'] at hg
      simp only [Option.some.injEq] at hg
      subst hg
      rw [hes] at ht
      simp only [Option.some.injEq] at ht
      by_cases hin : off + len + ys.length ≤ gb'.cap
      · have ha' := ha (by omega)
        subst ha'
        have hblt := lt_of_some hb
        obtain ⟨cn, hcn, hcns, hcnr⟩ := hx.cells ys.length (Nat.le_refl _)
        have hpe : (off + len + ys.length) * es ≤ gb'.cap * es := Nat.mul_le_mul_right _ (by omega)
        have hsplit : (off + len + ys.length) * es = off * es + len * es + ys.length * es := by rw [Nat.add_mul, Nat.add_mul]
        have hcl : ∀ u ∈ cn.toList, u.oneCell' = true := elems_one hx hcns hcnr
        have hst := run_store_blk P w gb'.blk (gb'.base + off * es + len * es) c e fr cn.toList hb (by simp; rw [← ht] at hfit'; omega) (fun j a b => hfr j (by omega) (by simp at b; rw [← ht]; omega)) hcl
        have hrun := append_fits T hx ⟨gb'.blk, gb'.base + off * gb'.es, none⟩ len (gb'.cap - off) (by omega) ty (hcn w rfl) (by rw [addr_add, ← ht]; exact hst)
        have hover := cells_over hc (off + len) (by omega) (ys := ys) (cn := cn) (by rw [← ht]; rw [← ht] at hfit'; omega) (by rw [← ht]; exact hx.clen) hx.cell (by rw [← ht]; exact hcns) hcnr
        rw [← ht, Nat.add_mul, ← Nat.add_assoc] at hover
        have hsub := sub_cells hover off (len + ys.length) (by simp; omega)
        have hB : xs.drop (off + len + ys.length) = [] := List.drop_eq_nil_of_le (by omega)
        have hlist : ((xs.take (off + len) ++ ys ++ xs.drop (off + len + ys.length)).drop off).take (len + ys.length) = (xs.drop off).take len ++ ys := by
          rw [hB, List.append_nil, List.drop_append_of_le_length (by simp; omega), List.drop_take, show off + len - off = len by omega]
          exact List.take_of_length_le (by simp; omega)
        rw [hlist] at hsub
        rw [← ht] at hfit'
        have hGno : G id (e' + ys.length) = none := by
          cases hg2 : G id (e' + ys.length) with
          | none => rfl
          | some gb2 => have := hi.stamp id _ _ _ hf _ _ hg2; omega
        have hown : owns st.rows G gb'.blk := ⟨id, _, hf, by simp [ownB, he0, hg']⟩
        let w' := setBlk w gb'.blk (.cells (patch c (gb'.base + off * es + len * es) cn.toList) e fr)
        let gb2 : GB := ⟨gb'.blk, gb'.base + off * es, es, gb'.cap - off⟩
        let G' := gset G id (e' + ys.length) gb2
        have hGm : ∀ j k gb, G j k = some gb → G' j k = some gb := fun j k gb h => by
          rw [show G' = gset G id (e' + ys.length) gb2 from rfl, gset_other]
          · exact h
          · rintro ⟨rfl, rfl⟩; rw [hGno] at h; simp at h
        have hkeeps : Keeps w.heap w'.heap F F G G' :=
          ⟨fun _ h => h, fun b hb' => by
            rw [setBlk_get _ _ _ hblt, if_neg]
            intro hh; subst hh; exact hi.nf _ hown hb', hGm⟩
        have hg2 : G' id (e' + ys.length) = some gb2 := gset_same _ _ _ _
        have hcapm : off * es + (gb'.cap - off) * es = gb'.cap * es := by rw [← Nat.add_mul]; congr 1; omega
        obtain ⟨i1, i2, i3⟩ := hi.step1 (w' := w') (F' := F) (G' := G') hf (r' := .cells (e' + ys.length) e ((xs.drop off).take len ++ ys)) (by rw [setBlk_size]; exact Nat.le_refl _)
          (fun b hb' hno => by
            rw [setBlk_get _ _ _ hblt, if_neg]
            intro hh; subst hh; exact hno (by simp [ownB, he0, hg'])) rfl rfl rfl (fun _ h => h) (fun _ h => .inl h) (hGm id) (fun j k hj => gset_other _ _ _ _ (fun h => hj h.1))
          (.cells (e' + ys.length) e _ gb2 _ fr (by omega) hg2 (by rw [setBlk_get _ _ _ hblt, if_pos rfl]) hes T.es0 (by rw [List.length_append, hl0]; simp [gb2]; omega)
            (by rw [patch_size]; simp only [gb2]; omega) (fun j h1 h2 => hfr j (by simp only [gb2] at h1; omega) (by simp only [gb2] at h2; rw [← ht]; omega)) (fun h => by omega) (hsub.mono hkeeps))
          (by
            intro b hb'
            simp [ownB, hg2, gb2] at hb'
            rw [← hb'.2]
            exact .inl ⟨by simp [ownB, he0, hg'], hi.nf _ hown⟩)
          (by
            intro e1 t1 xs1 heq e2 gb hg1
            simp only [Row.cells.injEq] at heq
            obtain ⟨rfl, _, _⟩ := heq
            by_cases h : e2 = e' + ys.length
            · omega
            · rw [show G' = gset G id (e' + ys.length) gb2 from rfl, gset_other _ _ _ _ (fun hh => h hh.2)] at hg1
              have := hi.stamp id _ _ _ hf _ _ hg1
              omega)
        refine ⟨_, w', F, G', hrun, i1, i2, i3, ?_, rfl, rfl⟩
        have := RepV.sl (h := w'.heap) (F := F) (G := G') id (e' + ys.length) 0 (len + ys.length) gb2 ⟨gb'.blk, gb'.base + off * gb'.es, none⟩ hg2 (by omega) (by simp [gb2]; omega) (fun _ => by simp [gb2, ht])
        simpa [gb2] using this
      · by_cases hz : len = 0
        · subst hz
          exact grow (some a) (gb'.cap - off) rfl (by omega) (elems_nil _ _)
        · have ha' := ha (by omega)
          subst ha'
          have hsub := sub_cells hc off len (by omega)
          rw [← ht] at hsub
          exact grow _ (gb'.cap - off) rfl (by omega) (by rw [← ht]; exact elems_blk hb hsub _ _ rfl)

theorem app_snd {ts : Array TypeId} {e es bytes : Nat} (T : AppT P ts e es bytes) {w : World} {F : Nat → Prop} {G : Gh} {st st' : St} (hi : Inv P w F G st.rows st.next) {a b v : V} {ua ub : Value} (ty : TypeId)
    (ra : RepV w.heap F G a ua) (rb : RepV w.heap F G b ub) (hr : (appP e bytes es a b).run st = some (v, st')) : Post P w F G st (Builtin.append_ ts ty #[ua, ub]) v st' := by
  obtain ⟨ys, st1, hr1, hr2⟩ := Pg.bind_some hr
  obtain ⟨rfl, hx⟩ := elems_snd hi T.es0 rb hr1
  obtain ⟨i, hinf, hisz, hiby⟩ := T.info
  have hes : tySize P e = some es := by simp [tySize, hinf, hisz]
  cases ys with
  | nil =>
    simp only [appendP] at hr2
    cases a with
    | d x =>
      cases x with
      | snil =>
        simp only [Pg.run, Option.some.injEq, Prod.mk.injEq] at hr2
        obtain ⟨rfl, rfl⟩ := hr2
        cases ra.inv_d
        exact Post.same hi (append_nil T hx none 0 0 (Nat.le_refl _) ty) (.d _ _ .snil)
      | ro xs tight =>
        simp only [Pg.run, Option.some.injEq, Prod.mk.injEq] at hr2
        obtain ⟨rfl, rfl⟩ := hr2
        have rd := ra.inv_d
        cases ra.inv_d with
        | ro _ _ b' base es' cap c t fr _ _ _ _ _ _ hcap _ => exact Post.same hi (append_nil T hx _ _ _ hcap ty) ra
        | roe _ a' cap _ => exact Post.same hi (append_nil T hx _ _ _ (Nat.zero_le _) ty) ra
      | _ => simp [Pg.run] at hr2
    | sl id e' off len =>
      have hst : st' = st1 ∧ v = .sl id e' off len := by
        simp only [Pg.run] at hr2
        cases hf : find st1.rows id with
        | none => rw [hf] at hr2; simp at hr2
        | some r =>
          rw [hf] at hr2
          cases r with
          | cells e2 _ _ =>
            simp only at hr2
            cases hb : Nat.beq e' e2 with
            | false => rw [hb] at hr2; simp [Pg.run] at hr2
            | true => rw [hb] at hr2; simp only [cond_true, Pg.run, Option.some.injEq, Prod.mk.injEq] at hr2; exact ⟨hr2.2.symm, hr2.1.symm⟩
          | fz e2 _ _ =>
            simp only at hr2
            cases hb : Nat.beq e' e2 with
            | false => rw [hb] at hr2; simp [Pg.run] at hr2
            | true => rw [hb] at hr2; simp only [cond_true, Pg.run, Option.some.injEq, Prod.mk.injEq] at hr2; exact ⟨hr2.2.symm, hr2.1.symm⟩
          | _ => simp [Pg.run] at hr2
      obtain ⟨rfl, rfl⟩ := hst
      cases ra with
      | sl0 => exact Post.same hi (append_nil T hx none 0 0 (Nat.le_refl _) ty) (.sl0 _)
      | sl _ _ _ _ gb a' hg he hfit ha => exact Post.same hi (append_nil T hx _ _ _ (by omega) ty) (.sl _ _ _ _ gb a' hg he hfit ha)
    | _ => simp [Pg.run] at hr2
  | cons y0 yl =>
    generalize hys : y0 :: yl = ys at *
    have hyl : 0 < ys.length := by rw [← hys]; simp
    have hsimp : appendP e bytes es a ys = appendP e bytes es a (y0 :: yl) := by rw [hys]
    rw [hsimp] at hr2
    simp only [appendP] at hr2
    rw [hys] at hr2
    cases a with
    | d x =>
      cases x with
      | snil =>
        simp only at hr2
        split at hr2
        · rename_i hroom
          simp only [Pg.run, Option.some.injEq, Prod.mk.injEq] at hr2
          obtain ⟨rfl, rfl⟩ := hr2
          cases ra.inv_d
          obtain ⟨newCap, c, w', hrun, hw', hcap, hcs, hrep⟩ := append_grows (xs := []) (s := .nilFunc) T hx none 0 (elems_nil none 0) (by simp; omega) (by simpa using hroom) ty
          simp only [List.length_nil, Nat.zero_add, List.nil_append] at hrun hcap hrep
          obtain ⟨i1, i2, i3⟩ := new_cells (w' := w') hi hes T.es0 (e := ys.length) (by omega) ys c (0, 0) newCap hcap (by omega) (.inr (by simp)) (fun _ => rfl) (by rw [hw']) (by rw [hw']) (by rw [hw']) (by rw [hw']) hx.clen hx.cell hrep
          refine ⟨_, w', F, _, hrun, i1, i2, i3, ?_, rfl, rfl⟩
          have := RepV.sl (h := w'.heap) (F := F) (G := gset G st1.next ys.length ⟨w.heap.size, 0, es, newCap⟩) st1.next ys.length 0 ys.length ⟨w.heap.size, 0, es, newCap⟩ ⟨w.heap.size, 0, none⟩ (gset_same _ _ _ _) (by omega) (by simpa using hcap) (by simp)
          simpa using this
        · simp [Pg.run] at hr2
      | ro xs tight =>
        cases tight with
        | false => simp [Pg.run] at hr2
        | true =>
          simp only at hr2
          split at hr2
          · rename_i hroom
            obtain ⟨hroom, hlen⟩ := hroom
            simp only [Pg.run, Option.some.injEq, Prod.mk.injEq] at hr2
            obtain ⟨rfl, rfl⟩ := hr2
            have hlen' := lenAllD_spec hlen
            have main : ∀ (base : Option Addr) (cap : Nat), cap = xs.length → Elems P w F G es (.slice base (xs.map V.d).length cap) (xs.map .d) →
                Post P w F G st1 (Builtin.append_ ts ty #[.slice base xs.length cap, ub]) (.sl st1.next (xs.length + ys.length) 0 (xs.length + ys.length)) { st1 with next := st1.next + 1, rows := (st1.next, .cells (xs.length + ys.length) e (xs.map .d ++ ys)) :: st1.rows } := by
              intro base cap hcap0 hs
              obtain ⟨newCap, c, w', hrun, hw', hcap, hcs, hrep⟩ := append_grows (xs := xs.map .d) (s := .nilFunc) T hx base cap hs (by simp; omega) (by simpa using hroom) ty
              simp only [List.length_map] at hrun hcap
              obtain ⟨i1, i2, i3⟩ := new_cells (w' := w') hi hes T.es0 (e := xs.length + ys.length) (by omega) (xs.map .d ++ ys) c (0, 0) newCap (by simpa using hcap) (by omega) (.inr (by simp)) (fun _ => rfl) (by rw [hw']) (by rw [hw']) (by rw [hw']) (by rw [hw'])
                (by intro x hx'; rcases List.mem_append.1 hx' with h | h; exact hs.clen x h; exact hx.clen x h) (by intro x hx'; rcases List.mem_append.1 hx' with h | h; exact hs.cell x h; exact hx.cell x h) hrep
              refine ⟨_, w', F, _, hrun, i1, i2, i3, ?_, rfl, rfl⟩
              have := RepV.sl (h := w'.heap) (F := F) (G := gset G st1.next (xs.length + ys.length) ⟨w.heap.size, 0, es, newCap⟩) st1.next (xs.length + ys.length) 0 (xs.length + ys.length) ⟨w.heap.size, 0, es, newCap⟩ ⟨w.heap.size, 0, none⟩ (gset_same _ _ _ _) (by omega) (by simpa using hcap) (by simp)
              simpa using this
            cases ra.inv_d with
            | ro _ _ b' base es' cap c t fr f1 f2 f3 f4 f5 f6 f7 f8 =>
              have hc0 := f8 rfl
              refine main _ _ hc0 ?_
              cases xs with
              | nil => exact elems_nil _ _
              | cons z l =>
                have : es' = es := by rw [← f3 z (by simp), hlen' z (by simp)]
                subst this
                exact elems_blk f2 (CellsAtD.toV ⟨f3, f5, f4, f6⟩) cap _ (by simp)
            | roe _ a' cap h8 => exact main _ _ (h8 rfl) (elems_nil _ _)
          · simp [Pg.run] at hr2
      | _ => simp [Pg.run] at hr2
    | sl id e' off len =>
      simp only [Pg.run] at hr2
      cases hf : find st1.rows id with
      | none => rw [hf] at hr2; simp at hr2
      | some r =>
        rw [hf] at hr2
        have hrow := hi.row id r hf
        cases r with
        | cells e2 t2 xs =>
          simp only at hr2
          cases hbq : (Nat.beq e' e2 && Nat.beq e t2) with
          | false => rw [hbq] at hr2; simp [Pg.run] at hr2
          | true =>
            rw [hbq] at hr2
            simp only [Bool.and_eq_true] at hbq
            have q1 : e' = e2 := Nat.eq_of_beq_eq_true hbq.1
            have q2 : e = t2 := Nat.eq_of_beq_eq_true hbq.2
            subst q1; subst q2
            simp only [cond_true] at hr2
            split at hr2
            · rename_i hin
              simp only [Pg.run, Option.some.injEq, Prod.mk.injEq] at hr2
              obtain ⟨rfl, rfl⟩ := hr2
              exact app_in T hi ty hf ra hx hyl hin
            · rename_i hout
              split at hr2
              · rename_i hroom
                simp only [Pg.run, Option.some.injEq, Prod.mk.injEq] at hr2
                obtain ⟨rfl, rfl⟩ := hr2
                exact app_out T hi ty hf ra hx hyl hout hroom.1 hroom.2
              · simp [Pg.run] at hr2
        | part e2 t2 k xs =>
          simp only at hr2
          cases hbq : (Nat.beq e' e2 && Nat.beq e t2) with
          | false => rw [hbq] at hr2; simp [Pg.run] at hr2
          | true =>
            rw [hbq] at hr2
            simp only [Bool.and_eq_true] at hbq
            have q1 : e' = e2 := Nat.eq_of_beq_eq_true hbq.1
            have q2 : e = t2 := Nat.eq_of_beq_eq_true hbq.2
            subst q1; subst q2
            simp only [cond_true] at hr2
            split at hr2
            · rename_i hin
              simp only [Pg.run, Option.some.injEq, Prod.mk.injEq] at hr2
              obtain ⟨rfl, rfl⟩ := hr2
              exact app_part T hi ty hf ra hx hyl hin.1 hin.2
            · simp [Pg.run] at hr2
        | _ => simp [Pg.run] at hr2
    | _ => simp [Pg.run] at hr2

end
end Go.AM
namespace Go.AM
open Go

section
variable {P : Program}

theorem wrap_small {n : Int} (h0 : 0 ≤ n) (h1 : n ≤ 35184372088832) : IntKind.i64.wrap n = n := by
  have h : n % 18446744073709551616 = n := Int.emod_eq_of_lt h0 (by omega)
  simp [IntKind.wrap, IntKind.bits, IntKind.signed, h]
  omega

/-- Cells of a zero value, over and over. -/
theorem rep_zero {h : Array Obj} {F : Nat → Prop} {G : Gh} {es m n : Nat} {z : D} {zv : Value} (h0 : es ≠ 0) (hzl : z.cells.length = es) (hr : RepDs h F z.cells zv.cells)
    (k : Nat) (v : V) (u : Value) (h1 : ((List.replicate m (V.d z)).flatMap V.cells)[k]? = some v)
    (h2 : ((Array.range (n * es)).map (zv.cells[· % zv.cells.size]!))[k]? = some u) : RepV h F G v u := by
  have hzc : zv.cells.size = es := by rw [hr.1, hzl]
  obtain ⟨i, x, r, a, b, e, hres⟩ := flat_inv V.cells es _ k v (by intro x hx; rw [List.eq_of_mem_replicate hx]; simpa [V.cells] using hzl) h1
  have hx := List.eq_of_mem_replicate (List.mem_of_getElem? a)
  subst hx
  simp only [V.cells, List.getElem?_map] at b
  cases hd : z.cells[r]? with
  | none => rw [hd] at b; simp at b
  | some y =>
    rw [hd] at b
    simp only [Option.map_some, Option.some.injEq] at b
    subst b
    have hk : k % es = r := by rw [e, Nat.mul_add_mod_self_right]; exact Nat.mod_eq_of_lt hres
    rw [Array.getElem?_map] at h2
    have hlt : k < (Array.range (n * es)).size := by
      cases hq : (Array.range (n * es))[k]? with
      | none => rw [hq] at h2; simp at h2
      | some q => exact lt_of_some hq
    have hrg : (Array.range (n * es))[k]? = some k := by simp at hlt; simp [hlt]
    rw [hrg] at h2
    simp only [Option.map_some, Option.some.injEq] at h2
    rw [hzc, hk] at h2
    have hrs : r < zv.cells.size := by omega
    rw [getElem!_pos zv.cells r hrs] at h2
    exact .d _ _ (hr.2 r y u hd (by rw [← h2]; simp [hrs]))

/-- make of a slice. -/
theorem mkslice_snd {w : World} {F : Nat → Prop} {G : Gh} {st st' : St} (hi : Inv P w F G st.rows st.next) {t e : TypeId} {i : TypeInfo} (ht : P.underlying t = some (.slice e)) (hinf : P.info? e = some i)
    (h0 : i.size ≠ 0) (hb0 : i.bytes ≠ 0) {z : D} (hz : tyZero P e = some z) (hzl : z.cells.length = i.size) {a b v : V} {ua ub : Value}
    (ra : RepV w.heap F G a ua) (rb : RepV w.heap F G b ub) (hr : (mkSliceP e i.bytes z a b).run st = some (v, st')) : Post P w F G st (Instr.makeSlice t ua ub) v st' := by
  unfold mkSliceP at hr
  split at hr
  · rename_i k m
    split at hr
    · rename_i k2 n
      cases ra.inv_d
      cases rb.inv_d
      unfold makeSliceP at hr
      split at hr
      · rename_i hc
        obtain ⟨c1, c2, c3⟩ := hc
        simp only [Pg.run, Option.some.injEq, Prod.mk.injEq] at hr
        obtain ⟨rfl, rfl⟩ := hr
        unfold mostCells at c3
        have hn : n ≤ 35184372088832 := by
          have h1 : n * 1 ≤ n * (i.bytes : Int) := Int.mul_le_mul_of_nonneg_left (by omega) (by omega)
          omega
        have hm := wrap_small c1 (by omega)
        have hn2 := wrap_small (n := n) (by omega) hn
        obtain ⟨zv, hzr, hzrep⟩ := zero_run hz w
        have hti : (typeInfo e).run P w = .ok i w := by simp [typeInfo, hinf]
        have hsz : (sizeOf e).run P w = .ok i.size w := size_run (by simp [tySize, hinf]) w
        have hc1 : (decide (n < 0) || decide ((i.bytes : Int) * n > 2 ^ 48)) = false := by
          have : (i.bytes : Int) * n ≤ 35184372088832 := by rw [Int.mul_comm]; exact c3
          simp; constructor <;> omega
        have hzc : zv.cells.size = i.size := by
          have := (hzrep w.heap F).cells (by intro h; rw [h] at hzl; simp at hzl; omega)
          rw [this.1, hzl]
        have hrun : (Instr.makeSlice t (.int k m) (.int k2 n)).run P w = .ok (.slice (some ⟨w.heap.size, 0, none⟩) m.toNat n.toNat)
            { w with heap := w.heap.push (.cells ((Array.range (n.toNat * i.size)).map ((if n.toNat * i.size = 0 then #[] else zv.cells)[· % (if n.toNat * i.size = 0 then #[] else zv.cells).size]!)) e) } := by
          unfold Instr.makeSlice
          simp only [Sem.run_bind, und_run ht, Result.andThen_ok, asInt, asIntOf, Sem.run_pure, hti, hm, hn2, hc1, Bool.false_eq_true, if_false, Sem.run_ite]
          rw [if_neg (by simp; omega)]
          simp only [Result.andThen_ok, run_askRoom, hsz]
          split
          · simp [newRow]
          · simp [newRow, hzr]
        have hsz' : tySize P e = some i.size := by simp [tySize, hinf]
        have hzds := (hzrep w.heap F).cells (by intro h; rw [h] at hzl; simp at hzl; omega)
        have hzcell := D.cells_isCell (hzrep w.heap F)
        obtain ⟨i1, i2, i3⟩ := new_cells (w' := { w with heap := w.heap.push (.cells ((Array.range (n.toNat * i.size)).map ((if n.toNat * i.size = 0 then #[] else zv.cells)[· % (if n.toNat * i.size = 0 then #[] else zv.cells).size]!)) e) })
          hi hsz' h0 (e := 1) (by omega) (List.replicate m.toNat (.d z)) _ (0, 0) n.toNat (by simp; omega) (by simp) (.inr (by simp)) (fun _ => rfl) rfl rfl rfl rfl
          (by intro x hx; rw [List.eq_of_mem_replicate hx]; simpa [V.cells] using hzl)
          (by intro x hx y hy; rw [List.eq_of_mem_replicate hx] at hy; simp only [V.cells, List.mem_map] at hy; obtain ⟨q, hq, rfl⟩ := hy; exact hzcell q hq)
          (by
            intro k v u h1 h2
            by_cases hn0 : n.toNat * i.size = 0
            · have := lt_of_some h2; simp [hn0] at this
            · rw [if_neg hn0] at h2
              exact rep_zero h0 hzl hzds k v u h1 h2)
        refine ⟨_, _, F, _, hrun, i1, i2, i3, ?_, rfl, rfl⟩
        have := RepV.sl (h := ({ w with heap := w.heap.push (.cells ((Array.range (n.toNat * i.size)).map ((if n.toNat * i.size = 0 then #[] else zv.cells)[· % (if n.toNat * i.size = 0 then #[] else zv.cells).size]!)) e) } : World).heap) (F := F) (G := gset G st.next 1 ⟨w.heap.size, 0, i.size, n.toNat⟩) st.next 1 0 m.toNat ⟨w.heap.size, 0, i.size, n.toNat⟩ ⟨w.heap.size, 0, none⟩ (gset_same _ _ _ _) (by omega) (by simp; omega) (by simp)
        simpa using this
      · simp [Pg.run] at hr
    · simp [Pg.run] at hr
  · simp [Pg.run] at hr

end
end Go.AM
namespace Go.AM
open Go

theorem nth_eq : ∀ (s : List V) (i : Nat), nth s i = s[i]?
  | [], i => by simp [nth]
  | v :: l, 0 => rfl
  | v :: l, i + 1 => by
    show nth l i = _
    rw [nth_eq l i]; simp

theorem setN_eq : ∀ (s : List V) (i : Nat) (v : V), setN s i v = s.set i v
  | [], i, v => by simp [setN]
  | x :: l, 0, v => rfl
  | x :: l, i + 1, v => by
    show x :: setN l i v = _
    rw [setN_eq l i v]; rfl

theorem fold_patch : ∀ (vs : List Value) (off k : Nat) (c : Array Value), (vs.zipIdx k).foldl (fun cs (x : Value × Nat) => cs.setIfInBounds (off + x.2) x.1) c = patch c (off + k) vs
  | [], off, k, c => rfl
  | v :: l, off, k, c => by
    simp only [List.zipIdx_cons, List.foldl_cons, patch]
    rw [fold_patch l off (k + 1), Nat.add_assoc]

theorem fold_patchA (vs : Array Value) (off : Nat) (c : Array Value) : vs.zipIdx.foldl (fun cs (x : Value × Nat) => cs.setIfInBounds (off + x.2) x.1) c = patch c off vs.toList := by
  have := fold_patch vs.toList off 0 c
  rw [Nat.add_zero] at this
  rw [← this, ← Array.foldl_toList, Array.toList_zipIdx]

section
variable {P : Program}

/-- The arguments' places and values, as the made-ready code and as the machine have them. -/
inductive Parts (h : Array Obj) (F : Nat → Prop) (G : Gh) (s : List V) : List (Nat × CO) → List (Nat × Value) → Prop
  | nil : Parts h F G s [] []
  | cons (i : Nat) (o : CO) (v : V) (u : Value) (l : List (Nat × CO)) (l' : List (Nat × Value)) (ha : arg s o = some v) (r : RepV h F G v u) (hl : Parts h F G s l l') :
      Parts h F G s ((i, o) :: l) ((i, u) :: l')

theorem setAll_fill {h : Array Obj} {F : Nat → Prop} {G : Gh} {s : List V} {n : Nat} (h0 : n ≠ 0) : ∀ {ps : List (Nat × CO)} {ps' : List (Nat × Value)} (_ : Parts h F G s ps ps') {xs xs' : List V} {c : Array Value}
    (_ : CellsAt h F G 0 n xs c) (_ : ∀ p ∈ ps, p.1 < xs.length) (_ : setAll s n xs ps = some xs'),
    ∃ c', Instr.fill (fun i => some (i * n, n)) c ps' = some c' ∧ c'.size = c.size ∧ CellsAt h F G 0 n xs' c' ∧ xs'.length = xs.length := by
  intro ps ps' hp
  induction hp with
  | nil =>
    intro xs xs' c hc _ hs
    simp only [setAll, Option.some.injEq] at hs
    subst hs
    exact ⟨c, rfl, rfl, hc, rfl⟩
  | cons i o v u l l' ha r _ ih =>
    intro xs xs' c hc hi hs
    simp only [setAll, ha] at hs
    cases hl : Nat.beq v.cells.length n with
    | false => rw [hl] at hs; simp at hs
    | true =>
      rw [hl] at hs
      simp only [cond_true, setN_eq] at hs
      have hl' := Nat.eq_of_beq_eq_true hl
      have hne : v.cells ≠ [] := by intro hh; rw [hh] at hl'; simp at hl'; omega
      have rc := r.cells hne
      have hsz : u.cells.size = n := by rw [rc.1, hl']
      have hix : i < xs.length := hi (i, o) (by simp)
      obtain ⟨x, hx⟩ : ∃ x, xs[i]? = some x := ⟨xs[i], by simp [hix]⟩
      have hlen := hc.len x (List.mem_of_getElem? hx)
      have hfit := hc.fit
      have hle : i * n + n ≤ xs.length * n := mul_le_of_lt hix
      have hset := cells_set hc h0 hx (off := 0) (n := n) (v := v) (by omega) hl' rc (V.cells_isCell r)
      rw [if_pos (by omega)] at hset
      simp only [Nat.zero_add, Nat.add_zero] at hset
      obtain ⟨c', q1, q2, q3, q4⟩ := ih hset (by intro p hp; simpa using hi p (by simp [hp])) hs
      refine ⟨c', ?_, by rw [q2, patch_size], q3, by rw [q4]; simp⟩
      unfold Instr.fill
      simp only [hsz, ne_eq, not_true_eq_false, decide_false, Bool.false_or]
      rw [if_neg (by simp; omega), fold_patchA]
      exact q1

theorem zero_row {h : Array Obj} {F : Nat → Prop} {G : Gh} {es len : Nat} {z : D} {zv : Value} (h0 : es ≠ 0) (hzl : z.cells.length = es) (hr : RepD h F z zv) (hrs : RepDs h F z.cells zv.cells) :
    CellsAt h F G 0 es (List.replicate len (.d z)) ((Array.range (len * es)).map (zv.cells[· % zv.cells.size]!)) := by
  refine ⟨by intro x hx; rw [List.eq_of_mem_replicate hx]; simpa [V.cells] using hzl, ?_, by simp, ?_⟩
  · intro x hx y hy
    rw [List.eq_of_mem_replicate hx] at hy
    simp only [V.cells, List.mem_map] at hy
    obtain ⟨q, hq, rfl⟩ := hy
    exact D.cells_isCell hr q hq
  · intro k v u h1 h2
    exact rep_zero h0 hzl hrs k v u h1 (by simpa using h2)

/-- A new block that is frozen at once. -/
theorem new_frozen {w w' : World} {F : Nat → Prop} {G : Gh} {rows : List (Nat × Row)} {next : Nat} (hi : Inv P w F G rows next) (o : Obj)
    (hw : w'.heap = w.heap.push o) (hos : w'.os = w.os) (htape : w'.tape = w.tape) (hout : w'.output = w.output) :
    let F' := fun b => F b ∨ b = w.heap.size
    Inv P w' F' G rows next ∧ Ext w w' F F' G G (owns rows G) ∧ Keeps w.heap w'.heap F F' G G := by
  intro F'
  have hold : ∀ b, b < w.heap.size → w'.heap[b]? = w.heap[b]? := fun b hb => by rw [hw, Array.getElem?_push]; simp; omega
  have hk : Keeps w.heap w'.heap F F' G G := ⟨fun _ h => .inl h, fun b hb => hold b (hi.fb b hb), fun _ _ _ h => h⟩
  refine ⟨⟨hi.fresh, hi.gfresh, ?_, hi.sep, ?_, ?_, hi.stamp⟩, ⟨by rw [hw]; simp, fun b hb _ => hold b hb, hos, htape, hout, fun _ h => .inl h, ?_, fun _ _ _ h => h⟩, hk⟩
  · intro j r h
    exact (hi.row j r h).mono hk (fun b hb => hold b (ownB_lt (hi.row j r h) hb))
  · intro b hb
    rcases hb with hb | rfl
    · have := hi.fb b hb; rw [hw]; simp; omega
    · rw [hw]; simp
  · rintro b ⟨j, r, h1, o1⟩ hb
    rcases hb with hb | rfl
    · exact hi.nf b ⟨j, r, h1, o1⟩ hb
    · have := ownB_lt (hi.row j r h1) o1; omega
  · intro b hb
    rcases hb with hb | rfl
    · exact .inl hb
    · exact .inr (.inr (Nat.le_refl _))

theorem lit_snd {w : World} {F : Nat → Prop} {G : Gh} {st st' : St} (hi : Inv P w F G st.rows st.next) {t e : TypeId} {n len : Nat} (ht : P.underlying t = some (.slice e)) (hn : tySize P e = some n)
    (h0 : n ≠ 0) (hln : len * n ≤ 65536) {z : D} (hz : tyZero P e = some z) (hzl : z.cells.length = n) {s : List V} {ps : List (Nat × CO)} {ps' : Array (Nat × Value)} (hp : Parts w.heap F G s ps ps'.toList)
    (hpi : ∀ p ∈ ps, p.1 < len) {row : Bool} {v : V} (hr : (optP e len row (setAll s n (List.replicate len (.d z)) ps)).run st = some (v, st')) : Post P w F G st (Instr.buildSlice t len ps') v st' := by
  cases hs : setAll s n (List.replicate len (.d z)) ps with
  | none => rw [hs] at hr; simp [optP, Pg.run] at hr
  | some xs =>
    rw [hs] at hr
    simp only [optP] at hr
    obtain ⟨zv, hzr, hzrep⟩ := zero_run hz w
    have hzds := (hzrep w.heap F).cells (by intro h; rw [h] at hzl; simp at hzl; omega)
    obtain ⟨c, f1, f2, f3, f4⟩ := setAll_fill h0 hp (zero_row (len := len) h0 hzl (hzrep w.heap F) hzds (G := G)) (by simpa using hpi) hs
    simp only [List.length_replicate] at f4
    have hcs : c.size = len * n := by rw [f2]; simp
    have hrun : (Instr.buildSlice t len ps').run P w = .ok (.slice (some ⟨w.heap.size, 0, none⟩) len len) { w with heap := w.heap.push (.cells c e) } := by
      unfold Instr.buildSlice
      simp only [Sem.run_bind, und_run ht, Result.andThen_ok, size_run hn w, Sem.run_ite]
      rw [if_neg (by omega)]
      by_cases hl0 : len * n = 0
      · have hl00 : len = 0 := by rcases Nat.mul_eq_zero.1 hl0 with h | h; exact h; exact absurd h h0
        subst hl00
        have : ps'.toList = [] := by
          generalize ps'.toList = L at hp
          cases hp with
          | nil => rfl
          | cons i o v u l l' _ _ _ => have := hpi (i, o) (by simp); omega
        have hc0 : c = #[] := Array.size_eq_zero_iff.1 (by rw [hcs]; omega)
        have hr0 : Array.range 0 = #[] := Array.size_eq_zero_iff.1 (by simp)
        simp [this, Instr.fill, newRow, hc0, hr0]
      · simp only [hl0, if_false, Sem.run_bind, hzr, Result.andThen_ok, Sem.run_pure, f1, newRow, run_newObj]
    have newc : ∀ e', e' ≠ 0 → Post P w F G st (Instr.buildSlice t len ps') (.sl st.next e' 0 len) { st with next := st.next + 1, rows := (st.next, .cells e' e xs) :: st.rows } := by
      intro e' he'
      obtain ⟨i1, i2, i3⟩ := new_cells (w' := { w with heap := w.heap.push (.cells c e) }) hi hn h0 (e := e') he' xs c (0, 0) len (by omega) (by omega) (.inr (by simp)) (fun _ => rfl) rfl rfl rfl rfl f3.len f3.cell
        (fun k v u h1 h2 => f3.rep k v u h1 (by simpa using h2))
      refine ⟨_, _, F, _, hrun, i1, i2, i3, ?_, rfl, rfl⟩
      have := RepV.sl (h := ({ w with heap := w.heap.push (.cells c e) } : World).heap) (F := F) (G := gset G st.next e' ⟨w.heap.size, 0, n, len⟩) st.next e' 0 len ⟨w.heap.size, 0, n, len⟩ ⟨w.heap.size, 0, none⟩ (gset_same _ _ _ _) he' (by simp) (by simp)
      simpa using this
    unfold litP at hr
    cases row with
    | true =>
      simp only [cond_true, Pg.run, Option.some.injEq, Prod.mk.injEq] at hr
      obtain ⟨rfl, rfl⟩ := hr
      exact newc _ (by omega)
    | false =>
      simp only [cond_false] at hr
      cases hd : allD xs with
      | none =>
        rw [hd] at hr
        simp only [Pg.run, Option.some.injEq, Prod.mk.injEq] at hr
        obtain ⟨rfl, rfl⟩ := hr
        exact newc _ (by omega)
      | some ds =>
        rw [hd] at hr
        simp only [Pg.run, Option.some.injEq, Prod.mk.injEq] at hr
        obtain ⟨rfl, rfl⟩ := hr
        have hxs := allD_eq hd
        subst hxs
        obtain ⟨i1, i2, hk⟩ := new_frozen (w' := { w with heap := w.heap.push (.cells c e) }) hi _ rfl rfl rfl rfl
        refine ⟨_, _, _, G, hrun, i1, i2, fun b hb => .inl hb, .d _ _ ?_, rfl, rfl⟩
        have fd := f3.toD.mono hk
        have hl : ds.length = len := by simpa using f4
        have := RepD.ro (h := ({ w with heap := w.heap.push (.cells c e) } : World).heap) (F := fun b => F b ∨ b = w.heap.size) ds true w.heap.size 0 n len c e (0, 0) (.inr rfl) (by simp) fd.len fd.fit fd.cell fd.rep (by omega) (fun _ => hl.symm)
        rw [hl] at this
        exact this

end
end Go.AM
namespace Go.AM
open Go

section
variable {P : Program}

theorem take_flat (ys : List V) (m k n : Nat) (v : V) (hl : ∀ y ∈ ys, y.cells.length = n) (h : ((ys.take m).flatMap V.cells)[k]? = some v) : (ys.flatMap V.cells)[k]? = some v := by
  have : ys.flatMap V.cells = (ys.take m).flatMap V.cells ++ (ys.drop m).flatMap V.cells := by rw [← List.flatMap_append, List.take_append_drop]
  rw [this, List.getElem?_append_left (lt_of_someL h)]
  exact h

theorem copy_snd {w : World} {F : Nat → Prop} {G : Gh} {st st' : St} (hi : Inv P w F G st.rows st.next) {t0 e : TypeId} {ts : Array TypeId} (ht0 : ts[0]? = some t0) (ht : P.underlying t0 = some (.slice e)) {n : Nat}
    (hn : tySize P e = some n) (h0 : n ≠ 0) (ty : TypeId) {a b v : V} {ua ub : Value} (ra : RepV w.heap F G a ua) (rb : RepV w.heap F G b ub) (hr : (copyVP e n a b).run st = some (v, st')) :
    Post P w F G st (Builtin.copy_ ts ty #[ua, ub]) v st' := by
  obtain ⟨ys, st1, hr1, hr2⟩ := Pg.bind_some hr
  obtain ⟨rfl, hx⟩ := elems_snd hi h0 rb hr1
  have run0 : ∀ (base : Option Addr) (len cap m : Nat) (c : Array Value) (w' : World), m = Nat.min ys.length len → (Builtin.firstCells n m ub).run P w = .ok c w →
      (match base with | some a => (storeCells a c.toList).run P w | none => .ok () w) = .ok () w' →
      (Builtin.copy_ ts ty #[.slice base len cap, ub]).run P w = .ok (.int .i64 (m : Nat)) w' := by
    intro base len cap m c w' hm hc hs
    unfold Builtin.copy_
    simp only [ht0, List.getElem?_toArray, List.getElem?_cons_zero, List.getElem?_cons_succ, Sem.run_bind, und_run ht, Result.andThen_ok, hx.len, size_run hn w, ← hm, hc]
    cases base with
    | none => simp at hs; subst hs; simp [goInt]
    | some a => simp only at hs; simp [hs, goInt]
  have zero : ∀ (base : Option Addr) (len cap : Nat), Nat.min ys.length len = 0 → Post P w F G st1 (Builtin.copy_ ts ty #[.slice base len cap, ub]) (.d (.int .i64 0)) st1 := by
    intro base len cap hm
    obtain ⟨c, hc, hcs, _⟩ := hx.cells 0 (by simp)
    have hc0 : c.toList = [] := by
      have : c.size = 0 := by simpa using hcs
      exact List.length_eq_zero_iff.1 (by simpa using this)
    have := run0 base len cap 0 c w hm.symm (hc w rfl) (by cases base <;> simp [hc0, storeCells])
    exact Post.same hi this (.d _ _ (.int _ _))
  cases a with
  | d x =>
    cases x with
    | snil =>
      simp only [copyP, Pg.run, Option.some.injEq, Prod.mk.injEq] at hr2
      obtain ⟨rfl, rfl⟩ := hr2
      cases ra.inv_d
      exact zero none 0 0 (by simp)
    | _ => simp [copyP, Pg.run] at hr2
  | sl id e' off len =>
    simp only [copyP, Pg.run] at hr2
    cases hf : find st1.rows id with
    | none => rw [hf] at hr2; simp at hr2
    | some r =>
      rw [hf] at hr2
      have hrow := hi.row id r hf
      cases r with
      | cells e2 t2 xs =>
        simp only at hr2
        cases hbq : (Nat.beq e' e2 && Nat.beq e t2) with
        | false => rw [hbq] at hr2; simp [Pg.run] at hr2
        | true =>
          rw [hbq] at hr2
          simp only [Bool.and_eq_true] at hbq
          have q1 : e' = e2 := Nat.eq_of_beq_eq_true hbq.1
          have q2 : e = t2 := Nat.eq_of_beq_eq_true hbq.2
          subst q1; subst q2
          simp only [cond_true] at hr2
          split at hr2
          · rename_i hin
            split at hr2
            · rename_i hmin
              simp only [Pg.run, Option.some.injEq, Prod.mk.injEq] at hr2
              obtain ⟨rfl, rfl⟩ := hr2
              cases ra with
              | sl0 => exact zero _ _ _ (by simp)
              | sl => exact zero _ _ _ (by rw [Nat.min_comm] at hmin; exact hmin)
            · rename_i hmin
              simp only [Pg.run, Option.some.injEq, Prod.mk.injEq] at hr2
              obtain ⟨rfl, rfl⟩ := hr2
              cases ra with
              | sl0 => simp at hmin
              | sl _ _ _ _ gb a hg he hfit ha =>
                cases hrow with
                | nil => exact absurd rfl he
                | cells _ _ _ gb' c fr he0 hg' hb ht' h00 hcap hfit' hfr hb1 hc =>
                  rw [hg'] at hg
                  simp only [Option.some.injEq] at hg
                  subst hg
                  have ha' := ha (by omega)
                  subst ha'
                  rw [hn] at ht'
                  simp only [Option.some.injEq] at ht'
                  have hmm : Nat.min ys.length len = min len ys.length := by rw [Nat.min_comm]
                  generalize hm : min len ys.length = m at *
                  have htl : (ys.take len).length = m := by rw [List.length_take]; exact hm
                  have htk : ys.take len = ys.take m := by
                    rw [← hm]
                    rcases Nat.le_total len ys.length with h | h
                    · rw [Nat.min_eq_left h]
                    · rw [Nat.min_eq_right h, List.take_of_length_le h, List.take_length]
                  obtain ⟨cn, hcn, hcns, hcnr⟩ := hx.cells m (by omega)
                  have hpe : (off + len) * n ≤ gb'.cap * n := Nat.mul_le_mul_right _ (by omega)
                  have hpe2 : (off + m) * n ≤ (off + len) * n := Nat.mul_le_mul_right _ (by omega)
                  have hsp : (off + m) * n = off * n + m * n := Nat.add_mul _ _ _
                  have hclen : ∀ y ∈ ys.take len, y.cells.length = n := fun y hy => hx.clen y (List.mem_of_mem_take hy)
                  have hccell : ∀ y ∈ ys.take len, ∀ z ∈ y.cells, z.isCell = true := fun y hy => hx.cell y (List.mem_of_mem_take hy)
                  have hcrep : ∀ (k : Nat) (v : V) (x : Value), ((ys.take len).flatMap V.cells)[k]? = some v → cn[k]? = some x → RepV w.heap F G v x :=
                    fun k v x h1 h2 => hcnr k v x (take_flat ys len k n v hx.clen h1) h2
                  have hone : ∀ u ∈ cn.toList, u.oneCell' = true := by
                    intro u hu
                    obtain ⟨k, hk, rfl⟩ := List.getElem_of_mem hu
                    have hfl := flat_len V.cells n (ys.take len) hclen
                    have hk2 : k < ((ys.take len).flatMap V.cells).length := by rw [hfl, htl]; simp at hk; omega
                    obtain ⟨y, hy, hz⟩ := List.mem_flatMap.1 (List.getElem_mem hk2)
                    exact (hcrep k _ _ (List.getElem?_eq_getElem hk2) (by simp at hk; simp [hk])).cellV (hccell y hy _ hz)
                  rw [← ht'] at hfit'
                  have hst := run_store_blk P w gb'.blk (gb'.base + off * n) c e fr cn.toList hb (by simp; omega) (fun j a b => hfr j (by omega) (by simp at b; rw [← ht']; omega)) hone
                  have hrun := run0 (some ⟨gb'.blk, gb'.base + off * gb'.es, none⟩) len (gb'.cap - off) m cn _ hmm.symm (hcn w rfl) (by rw [← ht']; exact hst)
                  have hover := cells_over hc off (by omega) (ys := ys.take len) (cn := cn) (by rw [htl, ← ht']; omega) (by rw [← ht']; exact hclen) hccell (by rw [htl, ← ht']; exact hcns) hcrep
                  rw [htl, ← ht'] at hover
                  obtain ⟨i1, i2, i3⟩ := set_cells (xs' := xs.take off ++ ys.take len ++ xs.drop (off + m)) hi hf he0 hg' hb (by rw [hn, ht']) h00 (by rw [← ht']; exact hfit') hfr hb1
                    (by rw [List.length_append, List.length_append, List.length_take, List.length_drop, htl]; omega) (by rw [← ht']; exact hover) (patch_size _ _ _)
                  exact ⟨_, _, F, G, hrun, i1, i2, i3, .d _ _ (.int _ _), rfl, rfl⟩
          · simp [Pg.run] at hr2
      | _ => simp [Pg.run] at hr2
  | _ => simp [copyP, Pg.run] at hr2

/-- len. -/
theorem len_snd {w : World} {F : Nat → Prop} {G : Gh} {st st' : St} (hi : Inv P w F G st.rows st.next) {t0 : TypeId} {ts : Array TypeId} (ht0 : ts[0]? = some t0) {d : TypeDesc} (ht : P.underlying t0 = some d)
    {k : LenT} (hk : (k = .str ∧ d = .string) ∨ (k = .sl ∧ ∃ e, d = .slice e) ∨ (k = .map ∧ ∃ a b, d = .map a b)) (ty : TypeId) {a v : V} {ua : Value} (ra : RepV w.heap F G a ua)
    (hr : (lenP k a).run st = some (v, st')) : Post P w F G st (Builtin.len_ ts ty #[ua]) v st' := by
  rcases hk with ⟨rfl, rfl⟩ | ⟨rfl, e, rfl⟩ | ⟨rfl, q, b, rfl⟩
  · cases a with
    | d x =>
      cases x with
      | str s =>
        simp only [lenP, Pg.run, Option.some.injEq, Prod.mk.injEq] at hr
        obtain ⟨rfl, rfl⟩ := hr
        cases ra.inv_d
        have hsz : (⟨s.toArray⟩ : ByteArray).size = s.length := rfl
        refine Post.same hi (u := .int .i64 s.length) ?_ (.d _ _ (.int _ _))
        unfold Builtin.len_
        simp [ht0, und_run ht, goInt, hsz]
      | _ => simp [lenP, Pg.run] at hr
    | _ => simp [lenP, Pg.run] at hr
  · have run : ∀ b n c, (Builtin.len_ ts ty #[.slice b n c]).run P w = .ok (.int .i64 n) w := by
      intro b n c
      unfold Builtin.len_
      simp [ht0, und_run ht, goInt]
    cases a with
    | d x =>
      cases x with
      | snil =>
        simp only [lenP, Pg.run, Option.some.injEq, Prod.mk.injEq] at hr
        obtain ⟨rfl, rfl⟩ := hr
        cases ra.inv_d
        exact Post.same hi (run _ _ _) (.d _ _ (.int _ _))
      | ro xs tight =>
        simp only [lenP, Pg.run, Option.some.injEq, Prod.mk.injEq] at hr
        obtain ⟨rfl, rfl⟩ := hr
        cases ra.inv_d with
        | ro => exact Post.same hi (run _ _ _) (.d _ _ (.int _ _))
        | roe => exact Post.same hi (run _ _ _) (.d _ _ (.int _ _))
      | _ => simp [lenP, Pg.run] at hr
    | sl id e' off len =>
      simp only [lenP, Pg.run, Option.some.injEq, Prod.mk.injEq] at hr
      obtain ⟨rfl, rfl⟩ := hr
      cases ra with
      | sl0 => exact Post.same hi (run _ _ _) (.d _ _ (.int _ _))
      | sl => exact Post.same hi (run _ _ _) (.d _ _ (.int _ _))
    | _ => simp [lenP, Pg.run] at hr
  · cases a with
    | d x =>
      cases x with
      | mapn =>
        simp only [lenP, Pg.run, Option.some.injEq, Prod.mk.injEq] at hr
        obtain ⟨rfl, rfl⟩ := hr
        cases ra.inv_d
        refine Post.same hi (u := .int .i64 0) ?_ (.d _ _ (.int _ _))
        unfold Builtin.len_
        simp [ht0, und_run ht, goInt]
      | _ => simp [lenP, Pg.run] at hr
    | map id =>
      simp only [lenP, Pg.run] at hr
      cases hf : find st.rows id with
      | none => rw [hf] at hr; simp at hr
      | some r =>
        rw [hf] at hr
        have hrow := hi.row id r hf
        cases r with
        | map kvs =>
          simp only [Pg.run, Option.some.injEq, Prod.mk.injEq] at hr
          obtain ⟨rfl, rfl⟩ := hr
          cases hrow with
          | map _ b' es clock hg hb hl _ =>
            cases ra with
            | map _ gb hg' =>
              rw [hg] at hg'
              simp only [Option.some.injEq] at hg'
              subst hg'
              refine Post.same hi (u := .int .i64 kvs.length) ?_ (.d _ _ (.int _ _))
              unfold Builtin.len_
              simp [ht0, und_run ht, goInt, getObj, Sem.run, hb, hl]
        | _ => simp [Pg.run] at hr
    | _ => simp [lenP, Pg.run] at hr

/-- A nil slice that begins a row. -/
theorem nil_row {w : World} {F : Nat → Prop} {G : Gh} {rows : List (Nat × Row)} {next : Nat} (hi : Inv P w F G rows next) (e : TypeId) :
    Inv P w F G ((next, .cells 0 e []) :: rows) (next + 1) ∧ (∀ b, owns ((next, .cells 0 e []) :: rows) G b → owns rows G b ∨ w.heap.size ≤ b) := by
  obtain ⟨i1, _, i3⟩ := hi.newRow (w' := w) (G' := G) (r' := .cells 0 e []) (Nat.le_refl _) (fun _ _ => rfl) rfl rfl rfl (fun _ _ _ => rfl) (.nil e) (by intro b hb; simp [ownB] at hb)
    (by intro e1 t1 xs1 _ e' gb hg; have := hi.gfresh _ _ _ hg; omega)
  exact ⟨i1, i3⟩

end
end Go.AM
namespace Go.AM
open Go

section
variable {P : Program}

/-! ## Maps -/
theorem mkmap_snd {w : World} {F : Nat → Prop} {G : Gh} {st : St} (hi : Inv P w F G st.rows st.next) {t : TypeId} :
    Post P w F G st (Instr.makeMap t none) (.map st.next) { st with next := st.next + 1, rows := (st.next, .map []) :: st.rows } := by
  have hno : ∀ e', G st.next e' = none := fun e' => by
    cases hg : G st.next e' with
    | none => rfl
    | some gb => have := hi.gfresh _ _ _ hg; omega
  have hg0 : gset G st.next 0 ⟨w.heap.size, 0, 0, 0⟩ st.next 0 = some ⟨w.heap.size, 0, 0, 0⟩ := gset_same _ _ _ _
  obtain ⟨i1, i2, i3⟩ := hi.newRow (w' := { w with heap := w.heap.push (.map #[] 0) }) (G' := gset G st.next 0 ⟨w.heap.size, 0, 0, 0⟩) (r' := .map []) (by simp) (fun b hb => by simp [Array.getElem?_push]; omega) rfl rfl rfl
    (fun j k hj => gset_other _ _ _ _ (fun h => hj h.1)) (.map [] w.heap.size #[] 0 hg0 (by simp) rfl (by intro i k v m h; simp at h))
    (by intro b hb; simp [ownB, hg0] at hb; omega) (by intro e t xs h; simp at h)
  refine ⟨.map (some w.heap.size), _, F, _, by simp [Instr.makeMap], i1, i2, i3, ?_, rfl, rfl⟩
  exact RepV.map st.next ⟨w.heap.size, 0, 0, 0⟩ hg0

theorem bytes_beq (s x : List UInt8) : ((⟨s.toArray⟩ : ByteArray) == ⟨x.toArray⟩) = (s == x) := by
  show ((s.toArray == x.toArray) : Bool) = _
  simp

/-- The key's type as the map asks it. -/
def KeyOk (P : Program) (t : TypeId) : KeyT → Prop
  | .int k => P.underlying t = some (.int k)
  | .str => P.underlying t = some .string
  | .bool => P.underlying t = some .bool

theorem key_scalar {t : TypeId} {kt : KeyT} (hk : KeyOk P t kt) {key : D} (hq : keyKind kt key = true) {h : Array Obj} {F : Nat → Prop} {u : Value} (r : RepD h F key u) :
    (∀ (w : World) (n : Nat) (e : Bool), (Instr.checkKey e (n + 1) t u).run P w = .ok () w) ∧
    (∀ (x : D) (ux : Value) (b : Bool), RepD h F x ux → keyEq key x = some b → ∃ d, P.underlying t = some d ∧ Instr.sameNow d u ux = some b) ∧
    (∀ (x : D) (ux : Value), RepD h F x ux → keyEq key x = some true → Instr.sameBits 10000 ux u = true) := by
  cases kt with
  | int k =>
    cases key with
    | int k' n =>
      have hkk : k = k' := by simpa [keyKind] using hq
      subst hkk
      cases r
      refine ⟨fun w n' e => ?_, fun x ux b rx he => ?_, fun x ux rx he => ?_⟩
      · unfold Instr.checkKey
        simp [und_run hk]
      · cases x <;> simp [keyEq] at he
        obtain ⟨rfl, he⟩ := he
        cases rx
        exact ⟨_, hk, by simp [Instr.sameNow, he]⟩
      · cases x <;> simp [keyEq] at he
        obtain ⟨rfl, rfl⟩ := he
        cases rx
        simp [Instr.sameBits]
    | _ => simp [keyKind] at hq
  | str =>
    cases key with
    | str s =>
      cases r
      refine ⟨fun w n' e => ?_, fun x ux b rx he => ?_, fun x ux rx he => ?_⟩
      · unfold Instr.checkKey
        simp [und_run hk]
      · cases x <;> simp [keyEq] at he
        cases rx
        exact ⟨_, hk, by simp [Instr.sameNow]; rw [← he]; exact bytes_beq _ _⟩
      · cases x <;> simp [keyEq] at he
        cases rx
        subst he
        simp [Instr.sameBits, bytes_beq]
    | _ => simp [keyKind] at hq
  | bool =>
    cases key with
    | bool s =>
      cases r
      refine ⟨fun w n' e => ?_, fun x ux b rx he => ?_, fun x ux rx he => ?_⟩
      · unfold Instr.checkKey
        simp [und_run hk]
      · cases x <;> simp [keyEq] at he
        cases rx
        exact ⟨_, hk, by simp [Instr.sameNow, he]⟩
      · cases x <;> simp [keyEq] at he
        cases rx
        subst he
        simp [Instr.sameBits]
    | _ => simp [keyKind] at hq

/-! ## Ranges over texts -/
theorem range_snd {w : World} {F : Nat → Prop} {G : Gh} {st st' : St} (hi : Inv P w F G st.rows st.next) {t : TypeId} (ht : P.underlying t = some .string) {a v : V} {ua : Value}
    (ra : RepV w.heap F G a ua) (hr : (rangeP a).run st = some (v, st')) : Post P w F G st (Instr.range t ua) v st' := by
  cases a with
  | d x =>
    cases x with
    | str s =>
      simp only [rangeP, Pg.run, Option.some.injEq, Prod.mk.injEq] at hr
      obtain ⟨rfl, rfl⟩ := hr
      cases ra.inv_d
      have hg0 : gset G st.next 0 ⟨w.heap.size, 0, 0, 0⟩ st.next 0 = some ⟨w.heap.size, 0, 0, 0⟩ := gset_same _ _ _ _
      obtain ⟨i1, i2, i3⟩ := hi.newRow (w' := { w with heap := w.heap.push (.stringIter ⟨s.toArray⟩ 0) }) (G' := gset G st.next 0 ⟨w.heap.size, 0, 0, 0⟩) (r' := .iter s 0) (by simp) (fun b hb => by simp [Array.getElem?_push]; omega) rfl rfl rfl
        (fun j k hj => gset_other _ _ _ _ (fun h => hj h.1)) (.iter s 0 w.heap.size hg0 (by simp)) (by intro b hb; simp [ownB, hg0] at hb; omega) (by intro e t xs h; simp at h)
      refine ⟨.pointer (some ⟨w.heap.size, 0, none⟩), _, F, _, by simp [Instr.range, und_run ht], i1, i2, i3, ?_, rfl, rfl⟩
      have := RepV.ptr (h := (w.heap.push (.stringIter ⟨s.toArray⟩ 0))) (F := F) (G := gset G st.next 0 ⟨w.heap.size, 0, 0, 0⟩) st.next 0 0 0 ⟨w.heap.size, 0, 0, 0⟩ hg0
      simpa using this
    | _ => simp [rangeP, Pg.run] at hr
  | _ => simp [rangeP, Pg.run] at hr

theorem get!_bytes (s : List UInt8) (j : Nat) : (⟨s.toArray⟩ : ByteArray).get! j = s.getD j 0 := by
  show (s.toArray)[j]! = _
  by_cases h : j < s.length
  · rw [getElem!_pos _ _ (by simpa using h)]; simp [h]
  · rw [getElem!_neg _ _ (by simpa using h)]; simp [List.getElem?_eq_none (Nat.le_of_not_lt h)]; rfl

theorem decode_eq (s : List UInt8) (i : Nat) : Utf8.decode ⟨s.toArray⟩ i = decodeAt s i := by
  have hsz : (⟨s.toArray⟩ : ByteArray).size = s.length := rfl
  unfold Utf8.decode decodeAt
  have hcont : ∀ k, (decide (i + k < s.length) && (s.getD (i + k) 0).toNat / 64 == 2) = (Nat.blt (i + k) s.length && Nat.beq ((s.getD (i + k) 0).toNat / 64) 2) := by
    intro k
    rw [Bool.eq_iff_iff]; simp [Nat.blt_eq]
  simp only [get!_bytes, hsz, hcont]

theorem next_snd {w : World} {F : Nat → Prop} {G : Gh} {st st' : St} (hi : Inv P w F G st.rows st.next) {ty : TypeId} {a v : V} {ua : Value}
    (ra : RepV w.heap F G a ua) (hr : (nextP a).run st = some (v, st')) : Post P w F G st (Instr.next ua true ty) v st' := by
  unfold nextP at hr
  split at hr
  · rename_i id
    obtain ⟨gb, hgb, rfl⟩ := lookGhost ra
    simp only [Pg.run] at hr
    cases hf : find st.rows id with
    | none => rw [hf] at hr; simp at hr
    | some r =>
      rw [hf] at hr
      have hrow := hi.row id r hf
      cases r with
      | iter s pos =>
        cases hrow with
        | iter _ _ b hg hb =>
          rw [hg] at hgb
          simp only [Option.some.injEq] at hgb
          subst hgb
          have hsz : (⟨s.toArray⟩ : ByteArray).size = s.length := rfl
          simp only at hr
          split at hr
          · rename_i hlt
            simp only [Pg.run, Option.some.injEq, Prod.mk.injEq] at hr
            obtain ⟨rfl, rfl⟩ := hr
            have hblt := lt_of_some hb
            have hown : owns st.rows G b := ⟨id, _, hf, by simp [ownB, hg]⟩
            obtain ⟨i1, i2, i3⟩ := hi.step1 (w' := setBlk w b (.stringIter ⟨s.toArray⟩ (pos + (decodeAt s pos).2))) (F' := F) (G' := G) hf (r' := .iter s (pos + (decodeAt s pos).2)) (by rw [setBlk_size]; exact Nat.le_refl _)
              (fun b' hb' hno => by rw [setBlk_get _ _ _ hblt, if_neg]; intro hh; subst hh; exact hno (by simp [ownB, hg])) rfl rfl rfl (fun _ h => h) (fun _ h => .inl h) (fun _ _ h => h) (fun _ _ _ => rfl)
              (.iter s _ b hg (by rw [setBlk_get _ _ _ hblt, if_pos rfl])) (by intro b' hb'; simp [ownB, hg] at hb'; subst hb'; exact .inl ⟨by simp [ownB, hg], hi.nf _ hown⟩) (by intro e t xs h; simp at h)
            refine ⟨.tuple #[.bool true, .int .i64 pos, .int .i32 (decodeAt s pos).1], _, F, G, ?_, i1, i2, i3, ?_, rfl, rfl⟩
            · simp [Instr.next, getObj, Sem.run, hb, hsz, hlt, decode_eq, setObj, goInt, setBlk]
            · have h3 : Reps (setBlk w b (.stringIter ⟨s.toArray⟩ (pos + (decodeAt s pos).2))).heap F G [.d (.bool true), .d (.int .i64 pos), .d (.int .i32 (decodeAt s pos).1)] #[.bool true, .int .i64 pos, .int .i32 (decodeAt s pos).1] :=
                Reps.cons (a := [_, _]) (.d _ _ (.bool _)) (Reps.cons (a := [_]) (.d _ _ (.int _ _)) (Reps.one (.d _ _ (.int _ _))))
              exact .tup _ _ h3.1 h3.2
          · rename_i hlt
            simp only [Pg.run, Option.some.injEq, Prod.mk.injEq] at hr
            obtain ⟨rfl, rfl⟩ := hr
            refine Post.same hi (u := .tuple #[.bool false]) ?_ ?_
            · simp [Instr.next, getObj, Sem.run, hb, hsz, hlt]
            · have h3 : Reps w.heap F G [.d (.bool false)] #[.bool false] := Reps.one (.d _ _ (.bool _))
              exact .tup _ _ h3.1 h3.2
      | _ => simp [Pg.run] at hr
  · simp [Pg.run] at hr

end
end Go.AM
namespace Go.AM
open Go

section
variable {P : Program}

/-- The entries of a map in memory. -/
def EntriesOk (h : Array Obj) (F : Nat → Prop) (G : Gh) : List (D × V) → List MapEntry → Prop
  | [], [] => True
  | (k, v) :: l, m :: es => RepD h F k m.key ∧ RepV h F G v m.val ∧ EntriesOk h F G l es
  | _, _ => False

theorem entries_of {h : Array Obj} {F : Nat → Prop} {G : Gh} : ∀ (kvs : List (D × V)) (es : List MapEntry), es.length = kvs.length →
    (∀ (i : Nat) (k : D) (v : V) (m : MapEntry), kvs[i]? = some (k, v) → es[i]? = some m → RepD h F k m.key ∧ RepV h F G v m.val) → EntriesOk h F G kvs es
  | [], [], _, _ => trivial
  | [], m :: es, hl, _ => by simp at hl
  | (k, v) :: l, [], hl, _ => by simp at hl
  | (k, v) :: l, m :: es, hl, hr => by
    have h0 := hr 0 k v m (by simp) (by simp)
    exact ⟨h0.1, h0.2, entries_of l es (by simpa using hl) (fun i a b c h1 h2 => hr (i + 1) a b c (by simpa using h1) (by simpa using h2))⟩

theorem of_entries {h : Array Obj} {F : Nat → Prop} {G : Gh} : ∀ (kvs : List (D × V)) (es : List MapEntry), EntriesOk h F G kvs es → es.length = kvs.length ∧
    (∀ (i : Nat) (k : D) (v : V) (m : MapEntry), kvs[i]? = some (k, v) → es[i]? = some m → RepD h F k m.key ∧ RepV h F G v m.val)
  | [], [], _ => ⟨rfl, fun i k v m h => by simp at h⟩
  | [], m :: es, h => h.elim
  | (k, v) :: l, [], h => h.elim
  | (k, v) :: l, m :: es, h => by
    obtain ⟨h1, h2, h3⟩ := h
    obtain ⟨q1, q2⟩ := of_entries l es h3
    refine ⟨by simpa using q1, fun i a b c e1 e2 => ?_⟩
    cases i with
    | zero => simp at e1 e2; obtain ⟨rfl, rfl⟩ := e1; subst e2; exact ⟨h1, h2⟩
    | succ i => exact q2 i a b c (by simpa using e1) (by simpa using e2)

theorem find_now {h : Array Obj} {F : Nat → Prop} {G : Gh} {t : TypeId} {d : TypeDesc} (hd : P.underlying t = some d) {key : D} {u : Value}
    (hsame : ∀ (x : D) (ux : Value) (b : Bool), RepD h F x ux → keyEq key x = some b → ∃ d, P.underlying t = some d ∧ Instr.sameNow d u ux = some b) :
    ∀ (kvs : List (D × V)) (es : List MapEntry) (j : Nat) (r : Option V), EntriesOk h F G kvs es → mapGet key kvs = some r →
      (r = none ∧ Instr.findNow d u es j = some none) ∨ (∃ v i m, r = some v ∧ Instr.findNow d u es j = some (some (j + i, m.val)) ∧ es[i]? = some m ∧ RepV h F G v m.val)
  | [], [], j, r, _, hm => by simp [mapGet] at hm; subst hm; exact .inl ⟨rfl, rfl⟩
  | [], _ :: _, _, _, h, _ => h.elim
  | (_, _) :: _, [], _, _, h, _ => h.elim
  | (k, v) :: l, m :: es, j, r, he, hm => by
    obtain ⟨h1, h2, h3⟩ := he
    simp only [mapGet] at hm
    cases hk : keyEq key k with
    | none => rw [hk] at hm; simp at hm
    | some b =>
      obtain ⟨d', hd', hs⟩ := hsame k m.key b h1 hk
      rw [hd] at hd'
      simp only [Option.some.injEq] at hd'
      subst hd'
      rw [hk] at hm
      cases b with
      | true =>
        simp only [Option.some.injEq] at hm
        subst hm
        refine .inr ⟨v, 0, m, rfl, ?_, by simp, h2⟩
        simp [Instr.findNow, hs]
      | false =>
        simp only at hm
        rcases find_now hd hsame l es (j + 1) r h3 hm with ⟨q1, q2⟩ | ⟨v', i, m', q1, q2, q3, q4⟩
        · exact .inl ⟨q1, by simp [Instr.findNow, hs, q2]⟩
        · refine .inr ⟨v', i + 1, m', q1, ?_, by simpa using q3, q4⟩
          simp only [Instr.findNow, hs, q2]
          rw [show j + (i + 1) = j + 1 + i by omega]

theorem getObj_run {w : World} {b : Nat} {o : Obj} (hb : w.heap[b]? = some o) (hc : ∀ c t f, o ≠ .cells c t f) : (getObj b).run P w = .ok o w := by
  unfold getObj
  simp only [Sem.run, hb]

theorem look_snd {w : World} {F : Nat → Prop} {G : Gh} {st st' : St} (hi : Inv P w F G st.rows st.next) {t k e : TypeId} (ht : P.underlying t = some (.map k e)) {kt : KeyT} (hk : KeyOk P k kt) {z : D} (hz : tyZero P e = some z)
    {ok : Bool} {a b v : V} {ua ub : Value} (ra : RepV w.heap F G a ua) (rb : RepV w.heap F G b ub) (hr : (lookP kt z ok a b).run st = some (v, st')) : Post P w F G st (Instr.lookup t ua ub ok) v st' := by
  unfold lookP at hr
  split at hr
  · rename_i key
    cases hq : keyKind kt key with
    | false => rw [hq] at hr; simp [Pg.run] at hr
    | true =>
      rw [hq] at hr
      simp only [cond_true] at hr
      obtain ⟨hck, hsame, _⟩ := key_scalar hk hq rb.inv_d
      obtain ⟨zv, hzr, hzrep⟩ := zero_run hz w
      have hd : ∃ d, P.underlying k = some d := by
        cases kt <;> exact ⟨_, hk⟩
      obtain ⟨d, hd⟩ := hd
      -- what is told
      have out : ∀ (x : V) (ux : Value) (found : Bool), RepV w.heap F G x ux →
          RepV w.heap F G (bif ok then .tup [x, .d (.bool found)] else x) (if ok then .tuple #[ux, .bool found] else ux) := by
        intro x ux found rx
        cases ok with
        | true =>
          have h3 : Reps w.heap F G [x, .d (.bool found)] #[ux, .bool found] := Reps.cons (a := [_]) rx (Reps.one (.d _ _ (.bool _)))
          exact .tup _ _ h3.1 h3.2
        | false => exact rx
      cases a with
      | d x =>
        cases x with
        | mapn =>
          simp only [lookupP, Pg.run, Option.some.injEq, Prod.mk.injEq] at hr
          obtain ⟨rfl, rfl⟩ := hr
          cases ra.inv_d
          refine Post.same hi (u := if ok then .tuple #[zv, .bool false] else zv) ?_ (out (.d z) zv false (.d _ _ (hzrep _ _)))
          unfold Instr.lookup
          simp only [Sem.run_bind, und_run ht, Result.andThen_ok, Sem.run_pure, hck, Instr.findKey, und_run hd, Instr.findNow, hzr]
        | _ => simp [lookupP, Pg.run] at hr
      | map id =>
        simp only [lookupP, Pg.run] at hr
        cases hf : find st.rows id with
        | none => rw [hf] at hr; simp at hr
        | some r =>
          rw [hf] at hr
          have hrow := hi.row id r hf
          cases r with
          | map kvs =>
            simp only at hr
            cases hrow with
            | map _ b' es clock hg hb hl hrr =>
              cases ra with
              | map _ gb hg' =>
                rw [hg] at hg'
                simp only [Option.some.injEq] at hg'
                subst hg'
                cases hm : mapGet key kvs with
                | none => rw [hm] at hr; simp [Pg.run] at hr
                | some r =>
                  rw [hm] at hr
                  simp only [Pg.run, Option.some.injEq, Prod.mk.injEq] at hr
                  obtain ⟨rfl, rfl⟩ := hr
                  have hgo := getObj_run (P := P) hb (fun _ _ _ h => by simp at h)
                  rcases find_now hd hsame kvs es.toList 0 r (entries_of kvs es.toList (by simpa using hl) (fun i a b c h1 h2 => hrr i a b c h1 (by simpa using h2))) hm with ⟨rfl, q2⟩ | ⟨x, i, m, rfl, q2, q3, q4⟩
                  · refine Post.same hi (u := if ok then .tuple #[zv, .bool false] else zv) ?_ (out (.d z) zv false (.d _ _ (hzrep _ _)))
                    unfold Instr.lookup
                    simp only [Sem.run_bind, und_run ht, Result.andThen_ok, hgo, Sem.run_pure, hck, Instr.findKey, und_run hd, q2, hzr]
                  · refine Post.same hi (u := if ok then .tuple #[m.val, .bool true] else m.val) ?_ (out x m.val true q4)
                    unfold Instr.lookup
                    simp only [Sem.run_bind, und_run ht, Result.andThen_ok, hgo, Sem.run_pure, hck, Instr.findKey, und_run hd, q2]
          | _ => simp [Pg.run] at hr
      | _ => simp [lookupP, Pg.run] at hr
  · simp [Pg.run] at hr

theorem find_set {h : Array Obj} {F : Nat → Prop} {G : Gh} {t : TypeId} {d : TypeDesc} (hd : P.underlying t = some d) {key : D} {u : Value} (rk : RepD h F key u) {x : V} {ux : Value} (rx : RepV h F G x ux)
    (hsame : ∀ (x : D) (ux : Value) (b : Bool), RepD h F x ux → keyEq key x = some b → ∃ d, P.underlying t = some d ∧ Instr.sameNow d u ux = some b)
    (hbits : ∀ (x : D) (ux : Value), RepD h F x ux → keyEq key x = some true → Instr.sameBits 10000 ux u = true) (clock : Nat) :
    ∀ (kvs : List (D × V)) (es : List MapEntry) (j : Nat) (l : List (D × V)), EntriesOk h F G kvs es → mapSet key x kvs = some l →
      (Instr.findNow d u es j = some none ∧ EntriesOk h F G l (es ++ [{ key := u, val := ux, born := clock }])) ∨
      (∃ i m, Instr.findNow d u es j = some (some (j + i, m.val)) ∧ es[i]? = some m ∧ Instr.sameBits 10000 m.key u = true ∧ EntriesOk h F G l (es.modify i fun e => { e with key := u, val := ux }))
  | [], [], j, l, _, hm => by
    simp only [mapSet, Option.some.injEq] at hm
    subst hm
    exact .inl ⟨rfl, rk, rx, trivial⟩
  | [], _ :: _, _, _, h, _ => h.elim
  | (_, _) :: _, [], _, _, h, _ => h.elim
  | (k, v) :: q, m :: es, j, l, he, hm => by
    obtain ⟨h1, h2, h3⟩ := he
    simp only [mapSet] at hm
    cases hk : keyEq key k with
    | none => rw [hk] at hm; simp at hm
    | some b =>
      obtain ⟨d', hd', hs⟩ := hsame k m.key b h1 hk
      rw [hd] at hd'
      simp only [Option.some.injEq] at hd'
      subst hd'
      rw [hk] at hm
      cases b with
      | true =>
        simp only [Option.some.injEq] at hm
        subst hm
        refine .inr ⟨0, m, by simp [Instr.findNow, hs], by simp, hbits k m.key h1 hk, ?_⟩
        exact ⟨rk, rx, h3⟩
      | false =>
        simp only at hm
        cases hq : mapSet key x q with
        | none => rw [hq] at hm; simp at hm
        | some l' =>
          rw [hq] at hm
          simp only [Option.some.injEq] at hm
          subst hm
          rcases find_set hd rk rx hsame hbits clock q es (j + 1) l' h3 hq with ⟨q1, q2⟩ | ⟨i, m', q1, q2, q3, q4⟩
          · exact .inl ⟨by simp [Instr.findNow, hs, q1], h1, h2, q2⟩
          · refine .inr ⟨i + 1, m', ?_, by simpa using q2, q3, h1, h2, q4⟩
            simp only [Instr.findNow, hs, q1]
            rw [show j + (i + 1) = j + 1 + i by omega]

theorem mapup_snd {w : World} {F : Nat → Prop} {G : Gh} {st st' : St} (hi : Inv P w F G st.rows st.next) {t k e : TypeId} (ht : P.underlying t = some (.map k e)) {kt : KeyT} (hk : KeyOk P k kt)
    {a b y v : V} {ua ub uy : Value} (ra : RepV w.heap F G a ua) (rb : RepV w.heap F G b ub) (ry : RepV w.heap F G y uy) (hr : (mapupP kt a b y).run st = some (v, st')) :
    Post P w F G st (do Instr.mapUpdate t ua ub uy; pure undef) (.d .junk) st' ∧ v = .d .junk := by
  unfold mapupP at hr
  split at hr
  · rename_i key
    cases hq : keyKind kt key with
    | false => rw [hq] at hr; simp [Pg.run] at hr
    | true =>
      rw [hq] at hr
      simp only [cond_true] at hr
      obtain ⟨hck, hsame, hbits⟩ := key_scalar hk hq rb.inv_d
      have hd : ∃ d, P.underlying k = some d := by
        cases kt <;> exact ⟨_, hk⟩
      obtain ⟨d, hd⟩ := hd
      cases a with
      | map id =>
        simp only [mapUpdateP, Pg.run] at hr
        cases hf : find st.rows id with
        | none => rw [hf] at hr; simp at hr
        | some r =>
          rw [hf] at hr
          have hrow := hi.row id r hf
          cases r with
          | map kvs =>
            simp only at hr
            cases hrow with
            | map _ b' es clock hg hb hl hrr =>
              cases ra with
              | map _ gb hg' =>
                rw [hg] at hg'
                simp only [Option.some.injEq] at hg'
                subst hg'
                cases hm : mapSet key y kvs with
                | none => rw [hm] at hr; simp [Pg.run] at hr
                | some l =>
                  rw [hm] at hr
                  simp only [Pg.run, Option.some.injEq, Prod.mk.injEq] at hr
                  obtain ⟨rfl, rfl⟩ := hr
                  refine ⟨?_, rfl⟩
                  have hgo := getObj_run (P := P) hb (fun _ _ _ h => by simp at h)
                  have hblt := lt_of_some hb
                  have hown : owns st.rows G b' := ⟨id, _, hf, by simp [ownB, hg]⟩
                  have done : ∀ (es' : Array MapEntry) (clock' : Nat), EntriesOk w.heap F G l es'.toList →
                      ((do Instr.mapUpdate t (.map (some b')) ub uy; pure undef : Sem Value).run P w = .ok undef (setBlk w b' (.map es' clock'))) →
                      Post P w F G st (do Instr.mapUpdate t (.map (some b')) ub uy; pure undef) (.d .junk) { st with rows := put st.rows id (.map l) } := by
                    intro es' clock' he' hrun
                    have hkeeps : Keeps w.heap (setBlk w b' (.map es' clock')).heap F F G G :=
                      ⟨fun _ h => h, fun b hb' => by
                        rw [setBlk_get _ _ _ hblt, if_neg]
                        intro hh; subst hh; exact hi.nf _ hown hb', fun _ _ _ h => h⟩
                    obtain ⟨o1, o2⟩ := of_entries l es'.toList he'
                    obtain ⟨i1, i2, i3⟩ := hi.step1 (w' := setBlk w b' (.map es' clock')) (F' := F) (G' := G) hf (r' := .map l) (by rw [setBlk_size]; exact Nat.le_refl _)
                      (fun b hb' hno => by rw [setBlk_get _ _ _ hblt, if_neg]; intro hh; subst hh; exact hno (by simp [ownB, hg])) rfl rfl rfl (fun _ h => h) (fun _ h => .inl h) (fun _ _ h => h) (fun _ _ _ => rfl)
                      (.map l b' es' clock' hg (by rw [setBlk_get _ _ _ hblt, if_pos rfl]) (by simpa using o1)
                        (fun i a c m h1 h2 => ⟨(o2 i a c m h1 (by simpa using h2)).1.mono hkeeps.f hkeeps.blk, (o2 i a c m h1 (by simpa using h2)).2.mono hkeeps⟩))
                      (by intro b hb'; simp [ownB, hg] at hb'; subst hb'; exact .inl ⟨by simp [ownB, hg], hi.nf _ hown⟩) (by intro e t xs h; simp at h)
                    exact ⟨_, _, F, G, hrun, i1, i2, i3, .d _ _ (.junk _), rfl, rfl⟩
                  rcases find_set hd rb.inv_d ry hsame hbits clock kvs es.toList 0 l (entries_of kvs es.toList (by simpa using hl) (fun i a b c h1 h2 => hrr i a b c h1 (by simpa using h2))) hm with ⟨q1, q2⟩ | ⟨i, m, q1, q2, q3, q4⟩
                  · refine done (es.push { key := ub, val := uy, born := clock }) (clock + 1) (by simpa using q2) ?_
                    unfold Instr.mapUpdate
                    simp only [Sem.run_bind, und_run ht, Result.andThen_ok, hgo, hck, Instr.findKey, und_run hd, q1, Sem.run_pure, setObj, Sem.run, hb]
                    rfl
                  · have q2' : es[i]? = some m := by simpa using q2
                    refine done (es.modify i fun e => { e with key := ub, val := uy }) clock (by simpa using q4) ?_
                    unfold Instr.mapUpdate
                    simp only [Sem.run_bind, und_run ht, Result.andThen_ok, hgo, hck, Instr.findKey, und_run hd, q1, Sem.run_pure, Nat.zero_add, q2', Option.map_some, Option.getD_some, Instr.keyThatStays, q3, if_true, setObj, Sem.run, hb]
                    rfl
          | _ => simp [Pg.run] at hr
      | _ => simp [mapUpdateP, Pg.run] at hr
  · simp [Pg.run] at hr

end
end Go.AM
namespace Go.AM
open Go

section
variable {P : Program}

/-! ## Freezing: the machine does nothing -/
/-- What freezing leaves: the world as it was; more is frozen. -/
structure Frz (P : Program) (w : World) (F F' : Nat → Prop) (G : Gh) (st st' : St) : Prop where
  inv : Inv P w F' G st'.rows st'.next
  f : ∀ b, F b → F' b
  f' : ∀ b, F' b → F b ∨ owns st.rows G b
  own : ∀ b, owns st'.rows G b → owns st.rows G b
  dfr : st'.dfr = st.dfr
  rc : st'.rc = st.rc
  row : ∀ id r, find st'.rows id = some r → find st.rows id = some r ∨ ∃ e t ds, r = .fz e t ds

theorem Frz.refl {w : World} {F : Nat → Prop} {G : Gh} {st : St} (hi : Inv P w F G st.rows st.next) : Frz P w F F G st st :=
  ⟨hi, fun _ h => h, fun _ h => .inl h, fun _ h => h, rfl, rfl, fun _ _ h => .inl h⟩

theorem Frz.trans {w : World} {F F₁ F₂ : Nat → Prop} {G : Gh} {a b c : St} (x : Frz P w F F₁ G a b) (y : Frz P w F₁ F₂ G b c) : Frz P w F F₂ G a c :=
  ⟨y.inv, fun q h => y.f q (x.f q h), fun q h => (y.f' q h).elim (x.f' q) (fun h => .inr (x.own q h)), fun q h => x.own q (y.own q h), y.dfr.trans x.dfr, y.rc.trans x.rc, fun i r h => (y.row i r h).elim (x.row i r) .inr⟩

theorem Frz.keeps {w : World} {F F' : Nat → Prop} {G : Gh} {st st' : St} (x : Frz P w F F' G st st') : Keeps w.heap w.heap F F' G G := ⟨x.f, fun _ _ => rfl, fun _ _ _ h => h⟩

/-- A row that is frozen. -/
theorem freeze_row {w : World} {F : Nat → Prop} {G : Gh} {st : St} (hi : Inv P w F G st.rows st.next) {id e : Nat} {t : TypeId} {xs : List V} {ds : List D} (hf : find st.rows id = some (.cells e t xs)) (he : e ≠ 0)
    (hds : ∀ gb c fr, G id e = some gb → w.heap[gb.blk]? = some (.cells c t fr) → CellsAt w.heap F G gb.base gb.es xs c → CellsAtD w.heap F gb.base gb.es ds c) (hl : ds.length = xs.length) :
    ∃ F', Frz P w F F' G st { st with rows := put st.rows id (.fz e t ds) } := by
  have hrow := hi.row id _ hf
  cases hrow with
  | nil => exact absurd rfl he
  | cells _ _ _ gb c fr _ hg hb ht h0 hcap hfit hfr hb1 hc =>
    have hown : ownB G id (.cells e t xs) = some gb.blk := by simp [ownB, he, hg]
    refine ⟨fun b => F b ∨ b = gb.blk, ?_⟩
    have hk : Keeps w.heap w.heap F (fun b => F b ∨ b = gb.blk) G G := ⟨fun _ h => .inl h, fun _ _ => rfl, fun _ _ _ h => h⟩
    obtain ⟨i1, i2, i3⟩ := hi.step1 (w' := w) (F' := fun b => F b ∨ b = gb.blk) (G' := G) hf (r' := .fz e t ds) (Nat.le_refl _) (fun _ _ _ => rfl) rfl rfl rfl (fun _ h => .inl h)
      (fun b hb' => hb'.elim .inl (fun h => .inr (by rw [hown, h]))) (fun _ _ h => h) (fun _ _ _ => rfl)
      (.fz e t ds gb c fr he hg (.inr rfl) hb ht h0 (by omega) ((hds gb c fr hg hb hc).mono hk)) (by intro b hb'; simp [ownB] at hb') (by intro e1 t1 xs1 h; simp at h)
    refine ⟨i1, fun _ h => .inl h, fun b hb' => hb'.elim .inl (fun h => .inr ⟨id, _, hf, by rw [hown, h]⟩), ?_, rfl, rfl, ?_⟩
    rotate_left
    · intro j r h1
      simp only [find_put] at h1
      split at h1
      · simp only [Option.some.injEq] at h1; exact .inr ⟨_, _, _, h1.symm⟩
      · exact .inl h1
    rintro b ⟨j, r, h1, o1⟩
    rw [find_put] at h1
    split at h1
    · simp only [Option.some.injEq] at h1; subst h1; simp [ownB] at o1
    · exact ⟨j, r, h1, o1⟩

theorem frozen_slice {h : Array Obj} {F : Nat → Prop} {G : Gh} {id e off len : Nat} {ds : List D} {u : Value} (r : RepV h F G (.sl id e off len) u) (he : e ≠ 0) {gb : GB} (hg : G id e = some gb) {c : Array Value} {t : TypeId} {fr : Nat × Nat}
    (hF : F gb.blk) (hb : h[gb.blk]? = some (.cells c t fr)) (hc : CellsAtD h F gb.base gb.es ds c) (hle : off + len ≤ ds.length) : RepV h F G (.d (.ro ((ds.drop off).take len) false)) u := by
  cases r with
  | sl0 => exact absurd rfl he
  | sl _ _ _ _ gb' a hg' _ hfit ha =>
    rw [hg] at hg'
    simp only [Option.some.injEq] at hg'
    subst hg'
    have hl : ((ds.drop off).take len).length = len := by simp; omega
    by_cases hz : len = 0
    · subst hz
      exact .d _ _ (.roe false a _ (by simp))
    · have ha' := ha (by omega)
      subst ha'
      have hs := sub_cells (hc.toV (G := G)) off len (by simpa using hle)
      rw [← List.map_drop, ← List.map_take] at hs
      have hs := hs.toD
      have := RepD.ro (h := h) (F := F) ((ds.drop off).take len) false gb.blk (gb.base + off * gb.es) gb.es (gb.cap - off) c t fr hF hb hs.len hs.fit hs.cell hs.rep (by omega) (by simp)
      rw [hl] at this
      exact .d _ _ this

theorem noTup_spec : ∀ {l : List V}, noTup l = true → ∀ x ∈ l, ∀ cs, x ≠ .tup cs
  | [], _, x, hx, _ => by simp at hx
  | y :: l, h, x, hx, cs => by
    rcases List.mem_cons.1 hx with rfl | hx
    · intro e; subst e; simp [noTup] at h
    · refine noTup_spec (l := l) ?_ x hx cs
      cases y with
      | tup => simp [noTup] at h
      | _ => exact h

theorem choose_list {α β : Type} : ∀ (l : List α) (p : Nat → α → β → Prop) (_ : ∀ i x, l[i]? = some x → ∃ u, p i x u),
    ∃ us : List β, us.length = l.length ∧ ∀ i x u, l[i]? = some x → us[i]? = some u → p i x u
  | [], _, _ => ⟨[], rfl, fun i x u h => by simp at h⟩
  | a :: l, p, h => by
    obtain ⟨u, hu⟩ := h 0 a rfl
    obtain ⟨us, h1, h2⟩ := choose_list l (fun i => p (i + 1)) (fun i x hx => h (i + 1) x (by simpa using hx))
    refine ⟨u :: us, by simp [h1], ?_⟩
    intro i x v q1 q2
    cases i with
    | zero => simp at q1 q2; subst q1; subst q2; exact hu
    | succ i => exact h2 i x v (by simpa using q1) (by simpa using q2)

/-- An element as one value. -/
theorem elem_rep {h : Array Obj} {F : Nat → Prop} {G : Gh} {base es : Nat} {xs : List V} {c : Array Value} (r : CellsAt h F G base es xs c) {i : Nat} {x : V} (hx : xs[i]? = some x) (ht : ∀ cs, x ≠ .tup cs) :
    ∃ u, RepV h F G x u ∧ (x.cells ≠ [] → ∀ k v, k < es → u.cells[k]? = some v → c[base + i * es + k]? = some v) := by
  have hm := List.mem_of_getElem? hx
  have hl := r.len x hm
  have hcl := r.cell x hm
  have hle : i * es + es ≤ xs.length * es := mul_le_of_lt (lt_of_someL hx)
  have hfit := r.fit
  have one : x.cells = [x] → ∃ u, RepV h F G x u ∧ (x.cells ≠ [] → ∀ k v, k < es → u.cells[k]? = some v → c[base + i * es + k]? = some v) := by
    intro e
    obtain ⟨u, h1, h2⟩ := r.get2 (k := 0) (y := x) hx (by rw [e]; rfl)
    refine ⟨u, h2, fun hj k v hk hv => ?_⟩
    have he : es = 1 := by rw [← hl, e]; rfl
    have hz : k = 0 := by omega
    subst hz
    have := (h2.cells hj).1
    have hq := (h2.cells hj)
    have hcell := hcl x (by rw [e]; simp)
    have h1' := h2.cellV hcell
    cases u with
    | agg => simp [Value.oneCell'] at h1'
    | tuple => simp [Value.oneCell'] at h1'
    | _ => simp [Value.cells] at hv; subst hv; exact h1
  have many : ∀ cs : List V, x.cells = cs → Reps h F G cs (c.extract (base + i * es) (base + i * es + es)) := by
    intro cs e
    refine ⟨by rw [Array.size_extract, ← e, hl]; omega, ?_⟩
    intro k v u h1 h2
    obtain ⟨u', h3, h4⟩ := r.get2 (k := k) (y := v) hx (by rw [e]; exact h1)
    rw [Array.getElem?_extract] at h2
    split at h2
    · rw [h3] at h2; simp only [Option.some.injEq] at h2; subst h2; exact h4
    · simp at h2
  have fin : ∀ k v, k < es → (Value.agg (c.extract (base + i * es) (base + i * es + es))).cells[k]? = some v → c[base + i * es + k]? = some v := by
    intro k v hk hv
    simp only [Value.cells, Array.getElem?_extract] at hv
    split at hv
    · exact hv
    · simp at hv
  cases x with
  | tup cs => exact absurd rfl (ht cs)
  | agg cs =>
    have := many cs rfl
    exact ⟨_, .agg cs _ (by intro y hy; exact hcl y hy) this.1 this.2, fun _ => fin⟩
  | d x =>
    cases x with
    | junk => exact ⟨undef, .d _ _ (.junk _), fun h => absurd rfl h⟩
    | agg ds =>
      have := (many (ds.map .d) rfl).toD
      refine ⟨_, .d _ _ (.agg ds _ ?_ this.1 this.2), fun _ => fin⟩
      intro y hy
      have := hcl (.d y) (by simp [V.cells, D.cells, hy])
      exact this
    | _ => exact one rfl
  | _ => exact one rfl

theorem each_snd {f : V → Pg V} {w : World} {G : Gh}
    (hf : ∀ (F : Nat → Prop) (st st' : St) (v y : V) (u : Value), Inv P w F G st.rows st.next → RepV w.heap F G v u → (f v).run st = some (y, st') → ∃ F', Frz P w F F' G st st' ∧ RepV w.heap F' G y u ∧ (v.isCell = true → y.isCell = true) ∧ y.cells.length = v.cells.length) :
    ∀ (l : List V) (F : Nat → Prop) (st st' : St) (ys : List V) (us : List Value), Inv P w F G st.rows st.next → Reps w.heap F G l us.toArray → (eachP f l).run st = some (ys, st') →
      ∃ F', Frz P w F F' G st st' ∧ Reps w.heap F' G ys us.toArray ∧ ((∀ v ∈ l, v.isCell = true) → ∀ y ∈ ys, y.isCell = true) ∧ ys.length = l.length ∧ (∀ (i : Nat) (v y : V), l[i]? = some v → ys[i]? = some y → y.cells.length = v.cells.length)
  | [], F, st, st', ys, us, hi, hr, he => by
    simp only [eachP, Pg.run, Option.some.injEq, Prod.mk.injEq] at he
    obtain ⟨rfl, rfl⟩ := he
    exact ⟨F, Frz.refl hi, hr, fun _ y hy => by simp at hy, rfl, fun i v y h => by simp at h⟩
  | v :: l, F, st, st', ys, us, hi, hr, he => by
    simp only [eachP] at he
    obtain ⟨y, st1, h1, h2⟩ := Pg.bind_some he
    obtain ⟨r, st2, h3, h4⟩ := Pg.bind_some h2
    simp only [Pg.run, Option.some.injEq, Prod.mk.injEq] at h4
    obtain ⟨rfl, rfl⟩ := h4
    cases us with
    | nil => have := hr.1; simp at this
    | cons u us =>
      have hv : RepV w.heap F G v u := hr.2 0 v u (by simp) (by simp)
      have hl : Reps w.heap F G l us.toArray := ⟨by simpa using hr.1, fun i a b q1 q2 => hr.2 (i + 1) a b (by simpa using q1) (by simpa using q2)⟩
      obtain ⟨F1, z1, ry, c1, n1⟩ := hf F st st1 v y u hi hv h1
      obtain ⟨F2, z2, rr, c2, n2, m2⟩ := each_snd hf l F1 st1 st2 r us z1.inv (hl.mono z1.keeps) h3
      refine ⟨F2, z1.trans z2, Reps.cons (ry.mono z2.keeps) rr, ?_, by simp [n2], ?_⟩
      · intro hc x hx
        rcases List.mem_cons.1 hx with rfl | hx
        · exact c1 (hc v (by simp))
        · exact c2 (fun q hq => hc q (by simp [hq])) x hx
      · intro i a b q1 q2
        cases i with
        | zero => simp at q1 q2; subst q1; subst q2; exact n1
        | succ i => exact m2 i a b (by simpa using q1) (by simpa using q2)

theorem freeze_snd {w : World} {G : Gh} : ∀ (n : Nat) (F : Nat → Prop) (st st' : St) (v y : V) (u : Value), Inv P w F G st.rows st.next → RepV w.heap F G v u → (freezeP n v).run st = some (y, st') →
    ∃ F', Frz P w F F' G st st' ∧ RepV w.heap F' G y u ∧ (v.isCell = true → y.isCell = true) ∧ y.cells.length = v.cells.length
  | 0, F, st, st', v, y, u, _, _, he => by simp [freezeP, Pg.run] at he
  | n + 1, F, st, st', v, y, u, hi, hr, he => by
    have ih := freeze_snd (w := w) (G := G) n
    cases v with
    | d x =>
      simp only [freezeP, Pg.run, Option.some.injEq, Prod.mk.injEq] at he
      obtain ⟨rfl, rfl⟩ := he
      exact ⟨F, Frz.refl hi, hr, fun h => h, rfl⟩
    | ptr id e i off =>
      simp only [freezeP, Pg.run, Option.some.injEq, Prod.mk.injEq] at he
      obtain ⟨rfl, rfl⟩ := he
      exact ⟨F, Frz.refl hi, hr, fun h => h, rfl⟩
    | map id =>
      simp only [freezeP, Pg.run, Option.some.injEq, Prod.mk.injEq] at he
      obtain ⟨rfl, rfl⟩ := he
      exact ⟨F, Frz.refl hi, hr, fun h => h, rfl⟩
    | fn f a b =>
      simp only [freezeP, Pg.run, Option.some.injEq, Prod.mk.injEq] at he
      obtain ⟨rfl, rfl⟩ := he
      exact ⟨F, Frz.refl hi, hr, fun h => h, rfl⟩
    | ifc t v =>
      simp only [freezeP] at he
      obtain ⟨z, st1, h1, h2⟩ := Pg.bind_some he
      simp only [Pg.run, Option.some.injEq, Prod.mk.injEq] at h2
      obtain ⟨rfl, rfl⟩ := h2
      cases hr with
      | ifc _ _ u' r =>
        obtain ⟨F1, z1, ry, _, _⟩ := ih F st st1 v z u' hi r h1
        refine ⟨F1, z1, ?_, fun _ => ?_, ?_⟩
        · cases z with
          | d x => exact .d _ _ (.ifc _ _ _ ry.inv_d)
          | _ => exact .ifc _ _ _ ry
        · cases z <;> rfl
        · cases z <;> rfl
    | agg cs =>
      simp only [freezeP] at he
      obtain ⟨ys, st1, h1, h2⟩ := Pg.bind_some he
      simp only [Pg.run, Option.some.injEq, Prod.mk.injEq] at h2
      obtain ⟨rfl, rfl⟩ := h2
      cases hr with
      | agg _ cs' hq hs r =>
        obtain ⟨F1, z1, rr, c1, n1, _⟩ := each_snd ih cs F st st1 ys cs'.toList hi ⟨by simpa using hs, fun i a b q1 q2 => r i a b q1 (by simpa using q2)⟩ h1
        refine ⟨F1, z1, ?_, fun h => by simp [V.isCell] at h, by rw [mkAgg_cells]; exact n1⟩
        have := Reps.agg rr (c1 hq)
        simpa using this
    | tup cs =>
      simp only [freezeP] at he
      obtain ⟨ys, st1, h1, h2⟩ := Pg.bind_some he
      simp only [Pg.run, Option.some.injEq, Prod.mk.injEq] at h2
      obtain ⟨rfl, rfl⟩ := h2
      cases hr with
      | tup _ cs' hs r =>
        obtain ⟨F1, z1, rr, _, n1, _⟩ := each_snd ih cs F st st1 ys cs'.toList hi ⟨by simpa using hs, fun i a b q1 q2 => r i a b q1 (by simpa using q2)⟩ h1
        refine ⟨F1, z1, ?_, fun h => by simp [V.isCell] at h, rfl⟩
        have := RepV.tup (h := w.heap) (F := F1) (G := G) ys cs'.toList.toArray rr.1 rr.2
        simpa using this
    | sl id e off len =>
      simp only [freezeP, Pg.run] at he
      cases hf : find st.rows id with
      | none => rw [hf] at he; simp at he
      | some r =>
        rw [hf] at he
        cases r with
        | cells e' t xs =>
          simp only at he
          cases hb : Nat.beq e e' with
          | false => rw [hb] at he; simp [Pg.run] at he
          | true =>
            rw [hb] at he
            have q1 := Nat.eq_of_beq_eq_true hb
            subst q1
            simp only [cond_true] at he
            cases hz : Nat.beq e 0 with
            | true =>
              rw [hz] at he
              have hz' := Nat.eq_of_beq_eq_true hz
              subst hz'
              simp only [cond_true, Pg.run, Option.some.injEq, Prod.mk.injEq] at he
              obtain ⟨rfl, rfl⟩ := he
              refine ⟨F, Frz.refl hi, ?_, fun _ => rfl, rfl⟩
              cases hr with
              | sl0 => exact .d _ _ .snil
              | sl _ _ _ _ _ _ _ he0 => exact absurd rfl he0
            | false =>
              have hz0 : e ≠ 0 := by intro h; subst h; simp at hz
              rw [hz] at he
              simp only [cond_false] at he
              cases hd : allD xs with
              | some ds =>
                rw [hd] at he
                simp only at he
                split at he
                · rename_i hle
                  simp only [Pg.run, Option.some.injEq, Prod.mk.injEq] at he
                  obtain ⟨rfl, rfl⟩ := he
                  have hxs := allD_eq hd
                  subst hxs
                  obtain ⟨F1, z1⟩ := freeze_row hi hf hz0 (ds := ds) (fun gb c fr _ _ hc => hc.toD) (by simp)
                  refine ⟨F1, z1, ?_, fun _ => rfl, rfl⟩
                  have hrow := z1.inv.row id _ (by rw [find_put, if_pos rfl])
                  cases hrow with
                  | fz _ _ _ gb c fr _ hg hF hb' ht h0 hcap hc =>
                    exact frozen_slice (hr.mono z1.keeps) hz0 hg hF hb' hc hle
                · simp [Pg.run] at he
              | none =>
                rw [hd] at he
                simp only at he
                cases hnt : noTup xs with
                | false => rw [hnt] at he; simp [Pg.run] at he
                | true =>
                rw [hnt] at he
                simp only [cond_true] at he
                obtain ⟨ys, st1, hy, he⟩ := Pg.bind_some he
                cases hds : allD ys with
                | none => rw [hds] at he; simp [Pg.run] at he
                | some ds =>
                rw [hds] at he
                simp only [Pg.run] at he
                cases hf1 : find st1.rows id with
                | none => rw [hf1] at he; simp at he
                | some r1 =>
                rw [hf1] at he
                cases r1 with
                | cells e1 t1 xs1 =>
                  simp only at he
                  cases hb1 : Nat.beq e e1 with
                  | false => rw [hb1] at he; simp [Pg.run] at he
                  | true =>
                  rw [hb1] at he
                  simp only [cond_true] at he
                  split at he
                  · rename_i hle
                    simp only [Pg.run, Option.some.injEq, Prod.mk.injEq] at he
                    obtain ⟨rfl, rfl⟩ := he
                    have hrow := hi.row id _ hf
                    cases hrow with
                    | nil => exact absurd rfl hz0
                    | cells _ _ _ gb0 c0 fr0 _ hg0 hb0 ht0 h00 hcap0 hfit0 hfr0 hb10 hc0 =>
                    have hel : ∀ i x, xs[i]? = some x → ∃ u, RepV w.heap F G x u ∧ (x.cells ≠ [] → ∀ k v, k < gb0.es → u.cells[k]? = some v → c0[gb0.base + i * gb0.es + k]? = some v) :=
                      fun i x hx => elem_rep hc0 hx (noTup_spec hnt x (List.mem_of_getElem? hx))
                    obtain ⟨us, hul, hus⟩ := choose_list xs _ hel
                    have hys : ys = ds.map .d := allD_eq hds
                    subst hys
                    obtain ⟨F1, z1, rr, _, n1, m1⟩ := each_snd ih xs F st st1 _ us hi ⟨by simpa using hul, fun i a b q1 q2 => (hus i a b q1 (by simpa using q2)).1⟩ hy
                    have hrow1 := z1.row id _ hf1
                    rw [hf] at hrow1
                    rcases hrow1 with hrow1 | ⟨_, _, _, hrow1⟩
                    rotate_left
                    · simp at hrow1
                    simp only [Option.some.injEq, Row.cells.injEq] at hrow1
                    obtain ⟨rfl, rfl, rfl⟩ := hrow1
                    simp only [List.length_map] at n1
                    have hcd : CellsAtD w.heap F1 gb0.base gb0.es ds c0 := by
                      apply CellsAt.toD (G := G)
                      refine CellsAt.mk2 ?_ ?_ (by rw [List.length_map, n1]; exact hc0.fit) ?_
                      · intro y hy
                        obtain ⟨i, hiy⟩ := List.mem_iff_getElem?.1 hy
                        have hlt := lt_of_someL hiy
                        rw [List.length_map, n1] at hlt
                        have := m1 i xs[i] y (List.getElem?_eq_getElem hlt) hiy
                        rw [this]
                        exact hc0.len _ (List.getElem_mem hlt)
                      · intro y hy
                        obtain ⟨i, hiy⟩ := List.mem_iff_getElem?.1 hy
                        have hlt := lt_of_someL hiy
                        rw [List.length_map, n1, ← hul] at hlt
                        exact V.cells_isCell (rr.2 i y us[i] hiy (by simp [hlt]))
                      · intro i k y z v h1 h2 h3
                        have hlt := lt_of_someL h1
                        rw [List.length_map, n1] at hlt
                        have hlt2 := hlt
                        rw [← hul] at hlt2
                        have hm := m1 i xs[i] y (List.getElem?_eq_getElem hlt) h1
                        have hxl := hc0.len _ (List.getElem_mem hlt)
                        have hk := lt_of_someL h2
                        have hry := rr.2 i y us[i] h1 (by simp [hlt2])
                        have hne : y.cells ≠ [] := by intro h; rw [h] at hk; simp at hk
                        have hne' : xs[i].cells ≠ [] := by intro h; rw [h] at hm; rw [List.length_eq_zero_iff.1 hm] at hne; exact hne rfl
                        obtain ⟨v', h5, h6⟩ := (hry.cells hne).get h2
                        have := (hus i xs[i] us[i] (List.getElem?_eq_getElem hlt) (List.getElem?_eq_getElem hlt2)).2 hne' k v' (by omega) h5
                        rw [this] at h3
                        simp only [Option.some.injEq] at h3
                        subst h3
                        exact h6
                    obtain ⟨F2, z2⟩ := freeze_row z1.inv hf1 hz0 (ds := ds) (fun gb c fr h1 h2 _ => by
                      rw [hg0] at h1
                      simp only [Option.some.injEq] at h1
                      subst h1
                      rw [hb0] at h2
                      simp only [Option.some.injEq, Obj.cells.injEq] at h2
                      rw [← h2.1]
                      exact hcd) n1
                    refine ⟨F2, z1.trans z2, ?_, fun _ => rfl, rfl⟩
                    have hrow := z2.inv.row id _ (by rw [find_put, if_pos rfl])
                    cases hrow with
                    | fz _ _ _ gb c fr _ hg hF hb' ht h0 hcap hc =>
                      exact frozen_slice (hr.mono (z1.trans z2).keeps) hz0 hg hF hb' hc hle
                  · simp [Pg.run] at he
                | _ => simp [Pg.run] at he
        | fz e' t ds =>
          simp only at he
          cases hb : Nat.beq e e' with
          | false => rw [hb] at he; simp [Pg.run] at he
          | true =>
            rw [hb] at he
            have q1 := Nat.eq_of_beq_eq_true hb
            subst q1
            simp only [cond_true] at he
            split at he
            · rename_i hle
              simp only [Pg.run, Option.some.injEq, Prod.mk.injEq] at he
              obtain ⟨rfl, rfl⟩ := he
              refine ⟨F, Frz.refl hi, ?_, fun _ => rfl, rfl⟩
              have hrow := hi.row id _ hf
              cases hrow with
              | fz _ _ _ gb c fr he0 hg hF hb' ht h0 hcap hc => exact frozen_slice hr he0 hg hF hb' hc hle
            · simp [Pg.run] at he
        | _ => simp [Pg.run] at he

end
end Go.AM
