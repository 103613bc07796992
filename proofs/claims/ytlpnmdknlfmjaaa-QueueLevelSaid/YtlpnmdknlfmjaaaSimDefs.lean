/-
  THE ABSTRACT MACHINE: a deterministic interpreter of the model's own code (Code, Oper) over an abstract heap, with a fixed order of operations. Definitions alone; SimSound proves that what it computes every run of the model computes.
-/
import Derived.Orders
namespace Go.Sim

/-! ### Maps keyed by numbers -/

inductive Tri (α : Type) where
  | leaf
  | node (l : Tri α) (v : Option α) (r : Tri α)

namespace Tri
variable {α : Type}

def get : Tri α → Nat → Option α
  | .leaf, _ => none
  | .node l v r, n => bif Nat.beq n 0 then v else bif Nat.beq (n % 2) 1 then l.get (n / 2) else r.get (n / 2 - 1)

def left : Tri α → Tri α | .leaf => .leaf | .node l _ _ => l
def mid : Tri α → Option α | .leaf => none | .node _ v _ => v
def right : Tri α → Tri α | .leaf => .leaf | .node _ _ r => r

def setF : (fuel : Nat) → Tri α → Nat → α → Tri α
  | 0, t, _, _ => t
  | f + 1, t, n, x =>
    bif Nat.beq n 0 then .node t.left (some x) t.right
    else bif Nat.beq (n % 2) 1 then .node (setF f t.left (n / 2) x) t.mid t.right
    else .node t.left t.mid (setF f t.right (n / 2 - 1) x)

def set (t : Tri α) (n : Nat) (x : α) : Tri α := setF (n + 1) t n x

end Tri

/-! ### The abstract heap -/

/-- A block: gone, or living: may it be written; how many cells an element has; its cells. -/
inductive Blk where
  | dead
  | live (wr : Bool) (es : Nat) (cells : List Value)

structure AHeap where
  next : Nat
  /-- no block below this number was written -/
  low : Nat
  m : Tri Blk

/-- A slice's capacity that is not known: at least 'm' elements of 'es' cells: written as 'slack * (es + 1) + m'. -/
def slack : Nat := 9223372036854775808

def capLow (c : Nat) : Nat := c % slack
def someCap (es m : Nat) : Nat := slack * (es + 1) + m

def AHeap.cells? (h : AHeap) (b : Nat) : Option (List Value) :=
  match h.m.get b with
  | some (.live _ _ cs) => some cs
  | _ => none

def AHeap.push (h : AHeap) (es : Nat) (cs : List Value) : AHeap :=
  { next := h.next + 1, low := h.low, m := h.m.set h.next (.live true es cs) }

def readN (cs : List Value) (off n : Nat) : Option (List Value) :=
  let r := (cs.drop off).take n
  bif Nat.beq r.length n then some r else none

def splice (cs : List Value) (off : Nat) (vs : List Value) : Option (List Value) :=
  bif Nat.ble (off + vs.length) cs.length then some (cs.take off ++ (vs ++ cs.drop (off + vs.length))) else none

/-- What a cell may hold: no whole struct, no address of a local block. -/
def cellOK : Value → Bool
  | .agg _ | .tuple _ | .chan _ => false
  | .pointer (some a) => a.spot.isNone
  | _ => true

/-- Values without addresses: one cell; or a struct of such cells. -/
def flat1 : Value → Bool
  | .bool _ | .int _ _ | .string _ | .pointer none | .map none | .nilFunc | .nilIface => true
  | .slice none 0 0 => true
  | _ => false
def flat : Value → Bool
  | .agg cs => cs.toList.all flat1
  | .tuple cs => cs.toList.isEmpty
  | v => flat1 v

structure St where
  env : Tri Value
  kn : Nat
  K : Tri (List Value)
  h : AHeap

def St.cells? (s : St) (a : Addr) : Option (List Value) :=
  match a.spot with
  | none => s.h.cells? a.block
  | some _ => bif Nat.blt a.block s.kn then s.K.get a.block else none

def St.read (s : St) (a : Addr) (n : Nat) : Option (List Value) :=
  match s.cells? a with
  | some cs => readN cs a.off n
  | none => none

def AHeap.write (h : AHeap) (b off : Nat) (vs : List Value) : Option AHeap :=
  match h.m.get b with
  | some (.live true es cs) =>
    match splice cs off vs with
    | some cs' => some { next := h.next, low := Nat.min h.low b, m := h.m.set b (.live true es cs') }
    | none => none
  | _ => none

def AHeap.kill (h : AHeap) (b : Nat) : AHeap := { next := h.next, low := Nat.min h.low b, m := h.m.set b .dead }

def St.write (s : St) (a : Addr) (vs : List Value) : Option St :=
  bif vs.all cellOK then
    match a.spot with
    | none =>
      match s.h.write a.block a.off vs with
      | some h => some { s with h := h }
      | none => none
    | some _ =>
      bif Nat.blt a.block s.kn then
        match s.K.get a.block with
        | some cs =>
          match splice cs a.off vs with
          | some cs' => some { s with K := s.K.set a.block cs' }
          | none => none
        | none => none
      else none
  else none

/-- The same for what is not the frame's own. -/
def AHeap.readG (h : AHeap) (a : Addr) (n : Nat) : Option (List Value) :=
  match a.spot with
  | none =>
    match h.cells? a.block with
    | some cs => readN cs a.off n
    | none => none
  | some _ => none
def AHeap.writeG (h : AHeap) (a : Addr) (vs : List Value) : Option AHeap :=
  match a.spot with
  | none => bif vs.all cellOK then h.write a.block a.off vs else none
  | some _ => none

/-- A new block; 'loc': among the frame's own. -/
def St.new (s : St) (loc : Bool) (es : Nat) (cs : List Value) : Option (Value × St) :=
  bif cs.all cellOK then
    bif loc then some (.pointer (some ⟨s.kn, 0, some 0⟩), { s with kn := s.kn + 1, K := s.K.set s.kn cs })
    else some (.pointer (some ⟨s.h.next, 0, none⟩), { s with h := s.h.push es cs })
  else none

/-- How a new block is made: its own or not, the cells of an element, the cells. -/
abbrev Maker := Bool → Nat → List Value → Option (Value × St)

/-- A new block at a number that was kept for it. -/
def St.newAt (s : St) (id tag : Nat) (loc : Bool) (es : Nat) (cs : List Value) : Option (Value × St) :=
  bif cs.all cellOK then
    bif loc then some (.pointer (some ⟨tag, 0, some 0⟩), { s with K := s.K.set tag cs })
    else some (.pointer (some ⟨id, 0, none⟩), { s with h := { s.h with m := s.h.m.set id (.live true es cs) } })
  else none

def aadd (a : Addr) (n : Nat) : Addr := { a with off := a.off + n }

/-! ### Types -/

def isAggB (P : Program) (t : TypeId) : Option Bool :=
  match P.underlying t with
  | some (.struct _) => some true
  | some (.array _ _) => some true
  | some _ => some false
  | none => none

def sizeT (P : Program) (t : TypeId) : Option Nat :=
  match P.info? t with
  | some i => some i.size
  | none => none

def zeroT (P : Program) (t : TypeId) : Option Value :=
  match P.info? t with
  | some i =>
    match i.zero with
    | some z => bif flat z then some z else none
    | none => none
  | none => none

def bytesT (P : Program) (t : TypeId) : Option Nat :=
  match P.info? t with
  | some i => some i.bytes
  | none => none

/-! ### Operations -/

def loadA (P : Program) (s : St) (t : TypeId) (a : Addr) : Option Value :=
  match isAggB P t with
  | some true =>
    match sizeT P t with
    | some n =>
      match s.read a n with
      | some l => some (.agg l.toArray)
      | none => none
    | none => none
  | some false =>
    match s.read a 1 with
    | some (v :: _) => some v
    | _ => none
  | none => none

def storeA (P : Program) (s : St) (t : TypeId) (a : Addr) (v : Value) : Option St :=
  match sizeT P t with
  | some n => bif Nat.beq v.cells.toList.length n then s.write a v.cells.toList else none
  | none => none

def partA (P : Program) (t : TypeId) (cs : Array Value) (off : Nat) : Option Value :=
  match isAggB P t with
  | some true =>
    match sizeT P t with
    | some n =>
      match readN cs.toList off n with
      | some l => some (.agg l.toArray)
      | none => none
    | none => none
  | some false => cs.toList[off]?
  | none => none

/-- n copies of a list, one behind the other. -/
def copies (z : List Value) : Nat → List Value
  | 0 => []
  | n + 1 => z ++ copies z n

def putParts (place : Nat → Option (Nat × Nat)) : List Value → List (Nat × Value) → Option (List Value)
  | cells, [] => some cells
  | cells, (i, v) :: rest =>
    match place i with
    | some (off, size) =>
      bif Nat.beq v.cells.toList.length size && v.cells.toList.all cellOK then
        match splice cells off v.cells.toList with
        | some cs => putParts place cs rest
        | none => none
      else none
    | none => none

def fieldPlaces (P : Program) (fs : List Field) (i : Nat) : Option (Nat × Nat) :=
  match fs[i]? with
  | some f =>
    match sizeT P f.type with
    | some n => some (f.offset, n)
    | none => none
  | none => none

def buildA (P : Program) (t : TypeId) (parts : List (Nat × Value)) : Option Value :=
  match zeroT P t with
  | some z =>
    match P.underlying t with
    | some (.struct fs) =>
      bif fs.toList.all (fun f => (P.info? f.type).isSome) then
        match putParts (fieldPlaces P fs.toList) z.cells.toList parts with
        | some cs => some (.agg cs.toArray)
        | none => none
      else none
    | some (.array _ e) =>
      match sizeT P e with
      | some n =>
        match putParts (fun i => some (i * n, n)) z.cells.toList parts with
        | some cs => some (.agg cs.toArray)
        | none => none
      | none => none
    | _ => none
  | none => none

def buildSliceA (P : Program) (mk : Maker) (t : TypeId) (len : Nat) (parts : List (Nat × Value)) : Option (Value × St) :=
  match P.underlying t with
  | some (.slice e) =>
    match sizeT P e, zeroT P e with
    | some n, some z =>
      bif Nat.ble (len * n) 16777216 && Nat.beq z.cells.toList.length n && Nat.ble len 16777216 then
        match putParts (fun i => some (i * n, n)) (copies z.cells.toList len) parts with
        | some cs =>
          match mk false n cs with
          | some (.pointer (some a), s') => some (.slice (some a) len len, s')
          | _ => none
        | none => none
      else none
    | _, _ => none
  | _ => none

def intOp (op : BinOp) (k : IntKind) (a b : Int) : Option Value :=
  match op with
  | .add => some (.int k (k.wrap (a + b)))
  | .sub => some (.int k (k.wrap (a - b)))
  | .mul => some (.int k (k.wrap (a * b)))
  | .quo => if b = 0 then none else some (.int k (k.wrap (a.tdiv b)))
  | .rem => if b = 0 then none else some (.int k (a.tmod b))
  | .and => some (.int k (k.wrap (BitVec.ofInt k.bits a &&& BitVec.ofInt k.bits b).toNat))
  | .or => some (.int k (k.wrap (BitVec.ofInt k.bits a ||| BitVec.ofInt k.bits b).toNat))
  | .xor => some (.int k (k.wrap (BitVec.ofInt k.bits a ^^^ BitVec.ofInt k.bits b).toNat))
  | .andNot => some (.int k (k.wrap (BitVec.ofInt k.bits a &&& ~~~ BitVec.ofInt k.bits b).toNat))
  | .eql => some (.bool (a == b))
  | .neq => some (.bool (a != b))
  | .lss => some (.bool (decide (a < b)))
  | .leq => some (.bool (decide (a ≤ b)))
  | .gtr => some (.bool (decide (a > b)))
  | .geq => some (.bool (decide (a ≥ b)))
  | _ => none

def shiftOp (op : BinOp) (k : IntKind) (x y : Int) : Option Value :=
  if y < 0 then none else
  match op with
  | .shl => some (.int k (k.wrap (x * 2 ^ (min y.toNat k.bits))))
  | .shr => some (.int k (x.fdiv (2 ^ (min y.toNat k.bits))))
  | _ => none

def strOp (op : BinOp) (x y : ByteArray) : Option Value :=
  match op with
  | .eql => some (.bool (x.toList == y.toList))
  | .neq => some (.bool !(x.toList == y.toList))
  | .lss => some (.bool (Op.bytesLess x.toList y.toList))
  | .leq => some (.bool (Op.bytesLess x.toList y.toList || x.toList == y.toList))
  | .gtr => some (.bool !(Op.bytesLess x.toList y.toList || x.toList == y.toList))
  | .geq => some (.bool !(Op.bytesLess x.toList y.toList))
  | .add => bif Nat.ble (x.size + y.size) 1073741824 then some (.string (x ++ y)) else none
  | _ => none

/-- '==' of values without addresses. -/
def eqA (P : Program) : Nat → TypeId → Value → Value → Option Bool
  | 0, _, _, _ => none
  | d + 1, t, x, y =>
    match P.underlying t, x, y with
    | some .bool, .bool a, .bool b => some (a == b)
    | some (.int _), .int k a, .int k' b => if k = k' then some (a == b) else none
    | some .string, .string a, .string b => some (a == b)
    | some (.struct fs), .agg xs, .agg ys =>
      bif P.stoodInHeld t then none else
      fs.toList.foldr (fun f acc =>
        if f.name = "_" then none else
        match partA P f.type xs f.offset, partA P f.type ys f.offset with
        | some u, some v =>
          match eqA P d f.type u v with
          | some true => acc
          | some false => some false
          | none => none
        | _, _ => none) (some true)
    | some (.array len e), .agg xs, .agg ys =>
      match sizeT P e with
      | some n =>
        (List.range len).foldr (fun i acc =>
          match partA P e xs (i * n), partA P e ys (i * n) with
          | some u, some v =>
            match eqA P d e u v with
            | some true => acc
            | some false => some false
            | none => none
          | _, _ => none) (some true)
      | none => none
    | some (.slice _), .slice none _ _, .slice b _ _ => some b.isNone
    | some (.slice _), .slice (some _) _ _, .slice none _ _ => some false
    | some (.pointer _), .pointer none, .pointer b => some b.isNone
    | some (.pointer _), .pointer (some _), .pointer none => some false
    | some (.map _ _), .map none, .map b => some b.isNone
    | some (.map _ _), .map (some _), .map none => some false
    | some (.func _ _ _), .nilFunc, .nilFunc => some true
    | some (.func _ _ _), .nilFunc, .func _ _ _ => some false
    | some (.func _ _ _), .func _ _ _, .nilFunc => some false
    | _, _, _ => none

def isCmp : BinOp → Bool
  | .eql | .neq => true
  | _ => false

/-- Two values that '==' goes into. -/
def eqShape : Value → Value → Bool
  | .agg _, .agg _ => true
  | .slice _ _ _, .slice _ _ _ => true
  | .pointer _, .pointer _ => true
  | .map _, .map _ => true
  | .nilFunc, .nilFunc => true
  | .nilFunc, .func _ _ _ => true
  | .func _ _ _, .nilFunc => true
  | _, _ => false

def binFall (P : Program) (op : BinOp) (t : TypeId) (x y : Value) : Option Value :=
  bif eqShape x y && !(P.eqGuardType P.depth t) then
    match op with
    | .eql => match eqA P 30 t x y with | some b => some (.bool b) | none => none
    | .neq => match eqA P 30 t x y with | some b => some (.bool !b) | none => none
    | _ => none
  else none

def binA (P : Program) (op : BinOp) (t : TypeId) (x y : Value) : Option Value :=
  match x, y with
  | .int k a, .int k' b =>
    match op with
    | .shl => shiftOp .shl k a b
    | .shr => shiftOp .shr k a b
    | op => if k = k' then intOp op k a b else none
  | .string a, .string b => strOp op a b
  | .bool a, .bool b =>
    match op, P.underlying t with
    | .eql, some .bool => some (.bool (a == b))
    | .neq, some .bool => some (.bool !(a == b))
    | _, _ => none
  | x, y => binFall P op t x y

def unA (op : UnOp) (x : Value) : Option Value :=
  match op, x with
  | .neg, .int k n => some (.int k (k.wrap (0 - n)))
  | .xor, .int k n => some (.int k (k.wrap (BitVec.ofInt k.bits (if k.signed then -1 else k.max) ^^^ BitVec.ofInt k.bits n).toNat))
  | .not, .bool b => some (.bool !b)
  | _, _ => none

def convA (P : Program) (src dst : TypeId) (x : Value) : Option Value :=
  match P.underlying src, P.underlying dst, x with
  | some _, some (.int k), .int _ n => some (.int k (k.wrap n))
  | some _, some .string, .string s => some (.string s)
  | _, _, _ => none

def bound (v : Value) (y : Nat) : Option Nat :=
  match v with
  | .int _ i => if 0 ≤ i ∧ i ≤ y then some i.toNat else none
  | _ => none

def boundMx (mx : Option Value) (c : Nat) : Option Nat :=
  match mx with
  | some v => bound v c
  | none => some c
def boundHi (hi mx : Option Value) (len m : Nat) : Option Nat :=
  match hi, mx with
  | some v, _ => bound v m
  | none, none => some len
  | none, some _ => none
def boundLo (lo : Option Value) (h : Nat) : Option Nat :=
  match lo with
  | some v => bound v h
  | none => some 0

/-- 'x[lo:hi:max]' of a slice (its capacity 'c' known or not). -/
def sliceS (a : Option Addr) (len c size : Nat) (lo hi mx : Option Value) : Option Value :=
  match boundMx mx (capLow c) with
  | none => none
  | some m =>
    match boundHi hi mx len m with
    | none => none
    | some h =>
      match boundLo lo h with
      | none => none
      | some l =>
        bif Nat.ble h m then
          bif Nat.blt c slack || mx.isSome then
            some (.slice (bif Nat.beq m l then a else a.map (aadd · (l * size))) (h - l) (m - l))
          else bif Nat.beq l 0 then some (.slice a h c)
          else bif Nat.blt l m && Nat.beq (c / slack) (size + 1) then some (.slice (a.map (aadd · (l * size))) (h - l) (someCap size (m - l)))
          else none
        else none

def sliceA (P : Program) (t : TypeId) (x : Value) (lo hi mx : Option Value) : Option Value :=
  match P.underlying t, x with
  | some .string, .string s =>
    match mx with
    | some _ => none
    | none =>
      match boundHi hi none s.size s.size with
      | none => none
      | some h =>
        match boundLo lo h with
        | none => none
        | some l => some (.string (s.extract l h))
  | some (.slice e), .slice a len c =>
    match sizeT P e with
    | some n => sliceS a len c n lo hi mx
    | none => none
  | some (.array n e), .pointer (some a) =>
    match a.spot, sizeT P e with
    | none, some z => bif Nat.blt n slack then sliceS (some a) n n z lo hi mx else none
    | _, _ => none
  | _, _ => none

def fieldAddrA (P : Program) (t : TypeId) (x : Value) (f : Nat) : Option Value :=
  match P.underlying t, x with
  | some (.struct fs), .pointer (some a) =>
    match fs.toList[f]? with
    | some fd =>
      match sizeT P fd.type with
      | some n => bif Nat.beq n 0 then none else some (.pointer (some (aadd a fd.offset)))
      | none => none
    | none => none
  | _, _ => none

def fieldA (P : Program) (t : TypeId) (x : Value) (f : Nat) : Option Value :=
  match P.underlying t, x with
  | some (.struct fs), .agg cs =>
    match fs.toList[f]? with
    | some fd => partA P fd.type cs fd.offset
    | none => none
  | _, _ => none

def indexAddrA (P : Program) (t : TypeId) (x ix : Value) : Option Value :=
  match P.underlying t, x, ix with
  | some (.array len e), .pointer (some a), .int _ i =>
    match sizeT P e with
    | some n => if 0 ≤ i ∧ i < len then some (.pointer (some (aadd a (i.toNat * n)))) else none
    | none => none
  | some (.slice e), .slice (some a) len _, .int _ i =>
    match sizeT P e with
    | some n => if 0 ≤ i ∧ i < len then some (.pointer (some (aadd a (i.toNat * n)))) else none
    | none => none
  | _, _, _ => none

def indexA (P : Program) (t : TypeId) (x ix : Value) : Option Value :=
  match P.underlying t, x, ix with
  | some (.array len e), .agg cs, .int _ i =>
    match sizeT P e with
    | some n => if 0 ≤ i ∧ i < len then partA P e cs (i.toNat * n) else none
    | none => none
  | some .string, .string s, .int _ i =>
    if 0 ≤ i then
      match s[i.toNat]? with
      | some b => some (.int .u8 b.toNat)
      | none => none
    else none
  | _, _, _ => none

def makeSliceA (P : Program) (mk : Maker) (t : TypeId) (l c : Value) : Option (Value × St) :=
  match P.underlying t, l, c with
  | some (.slice e), .int _ l, .int _ c =>
    match sizeT P e, zeroT P e, bytesT P e with
    | some n, some z, some by_ =>
      if 0 ≤ l ∧ l ≤ c ∧ c ≤ 1073741824 ∧ by_ ≤ 16384 ∧ z.cells.toList.length = n then
        match mk false n (copies z.cells.toList c.toNat) with
        | some (.pointer (some a), s') => some (.slice (some a) l.toNat c.toNat, s')
        | _ => none
      else none
    | _, _, _ => none
  | _, _, _ => none

def lenA (P : Program) (t : TypeId) (x : Value) : Option Value :=
  match P.underlying t, x with
  | some .string, .string s => some (.int .i64 s.size)
  | some (.array n _), _ => some (.int .i64 n)
  | some (.slice _), .slice _ n _ => some (.int .i64 n)
  | some (.pointer e), _ =>
    match P.underlying e with
    | some (.array n _) => some (.int .i64 n)
    | _ => none
  | _, _ => none

def max2A : Value → Value → Option Value
  | .int k x, .int _ y => some (.int k (if y > x then y else x))
  | _, _ => none
def min2A : Value → Value → Option Value
  | .int k x, .int _ y => some (.int k (if y < x then y else x))
  | _, _ => none
def foldA (f : Value → Value → Option Value) : Value → List Value → Option Value
  | x, [] => some x
  | x, y :: r =>
    match f x y with
    | some z => foldA f z r
    | none => none

/-- How many are appended, and the cells. 'zeros': 'make([]T, n)...' -/
def newsA (P : Program) (h : AHeap) (e size : Nat) (zeros : Bool) (x : Value) : Option (Nat × List Value) :=
  bif zeros then
    match x, zeroT P e, bytesT P e with
    | .int _ n, some z, some by_ => if 0 ≤ n ∧ n ≤ 1073741824 ∧ by_ ≤ 16384 ∧ z.cells.toList.length = size then some (n.toNat, copies z.cells.toList n.toNat) else none
    | _, _, _ => none
  else
    match x with
    | .slice (some a) n _ =>
      match h.readG a (n * size) with
      | some l => some (n, l)
      | none => none
    | .slice none n _ => bif Nat.beq n 0 then some (0, []) else none
    | .string b => some (b.size, b.data.toList.map fun c => .int .u8 c.toNat)
    | _ => none

def isIntDesc : Option TypeDesc → Bool
  | some (.int _) => true
  | _ => false

def appendH (P : Program) (h : AHeap) (ts : List TypeId) (args : List Value) : Option (Value × AHeap) :=
  match ts, args with
  | [t, xt], [.slice base len c, x] =>
    match P.underlying t with
    | some (.slice e) =>
      match sizeT P e, bytesT P e, P.underlying xt, zeroT P e with
      | some size, some by_, some xd, some z =>
        match newsA P h e size (isIntDesc (some xd)) x with
        | some (n, news) =>
          bif Nat.ble (len + n) (capLow c) then
            match base with
            | some a =>
              match h.writeG (aadd a (len * size)) news with
              | some h' => some (.slice base (len + n) c, h')
              | none => none
            | none => some (.slice none (len + n) c, h)
          else bif Nat.ble (len + n) 1073741824 && Nat.ble by_ 16384 && news.all cellOK && Nat.beq z.cells.toList.length size && Nat.beq news.length (n * size) then
            match base with
            | none =>
              bif Nat.beq len 0 then
                some (.slice (some ⟨h.next, 0, none⟩) (len + n) (someCap size (len + n)), h.push size news)
              else none
            | some a =>
              match a.spot, h.readG a (len * size) with
              | none, some old =>
                bif Nat.blt c slack then
                  bif old.all cellOK then some (.slice (some ⟨h.next, 0, none⟩) (len + n) (someCap size (len + n)), h.push size (old ++ news)) else none
                else bif old.all cellOK then
                  match h.m.get a.block with
                  | some (.live true es _) =>
                    bif Nat.beq es size then
                      some (.slice (some ⟨h.next, 0, none⟩) (len + n) (someCap size (len + n)), (h.kill a.block).push size (old ++ news))
                    else none
                  | _ => none
                else none
              | _, _ => none
          else none
        | none => none
      | _, _, _, _ => none
    | _ => none
  | _, _ => none

def copyH (P : Program) (h : AHeap) (ts : List TypeId) (args : List Value) : Option (Value × AHeap) :=
  match ts, args with
  | [t, _], [.slice base len _, x] =>
    match P.underlying t with
    | some (.slice e) =>
      match sizeT P e with
      | some size =>
        match x with
        | .slice (some b) n _ =>
          match h.readG b (Nat.min n len * size) with
          | some l =>
            match base with
            | some a =>
              match h.writeG a l with
              | some h' => some (.int .i64 (Nat.min n len : Nat), h')
              | none => none
            | none => some (.int .i64 (Nat.min n len : Nat), h)
          | none => none
        | .slice none n _ => bif Nat.beq n 0 then some (.int .i64 0, h) else none
        | _ => none
      | none => none
    | _ => none
  | _, _ => none

def withHeap (s : St) : Option (Value × AHeap) → Option (Value × St)
  | some (v, h) => some (v, { s with h := h })
  | none => none

/-! ### Frames -/

def evalA (s : St) : Operand → Option Value
  | .tmp t => s.env.get t
  | .const v => bif flat v then some v else none
  | .global _ => none
  | .func f => some (.func (.func f) #[] #[])

def evalsA (s : St) : List Operand → Option (List Value)
  | [] => some []
  | x :: r =>
    match evalA s x with
    | some v =>
      match evalsA s r with
      | some l => some (v :: l)
      | none => none
    | none => none

def evalOpt (s : St) : Option Operand → Option (Option Value)
  | none => some none
  | some x =>
    match evalA s x with
    | some v => some (some v)
    | none => none

def evalParts (s : St) : List (Nat × Operand) → Option (List (Nat × Value))
  | [] => some []
  | (i, x) :: r =>
    match evalA s x with
    | some v =>
      match evalParts s r with
      | some l => some ((i, v) :: l)
      | none => none
    | none => none

def noLoc : Value → Bool
  | .pointer (some a) => a.spot.isNone
  | _ => true

/-- An operation that is no call of a Go function. -/
def opA (P : Program) (mk : Maker) (loc : Bool) (o : Op) (s : St) : Option (Value × St) :=
  match o with
  | .move x => match evalA s x with | some v => some (v, s) | none => none
  | .assign x => match evalA s x with | some v => some (v, s) | none => none
  | .pick c a b =>
    match evalA s c with
    | some (.bool true) => match evalA s a with | some v => some (v, s) | none => none
    | some (.bool false) => match evalA s b with | some v => some (v, s) | none => none
    | _ => none
  | .alloc e =>
    match zeroT P e, sizeT P e with
    | some z, some n => mk loc n z.cells.toList
    | _, _ => none
  | .box e x =>
    match evalA s x, sizeT P e with
    | some v, some n => mk loc n v.cells.toList
    | _, _ => none
  | .build t parts =>
    match evalParts s parts.toList with
    | some l => match buildA P t l with | some v => some (v, s) | none => none
    | none => none
  | .buildSlice t len parts =>
    match evalParts s parts.toList with
    | some l => buildSliceA P mk t len l
    | none => none
  | .load t x =>
    match evalA s x with
    | some (.pointer (some a)) => match loadA P s t a with | some v => some (v, s) | none => none
    | _ => none
  | .store t x y =>
    match evalA s x, evalA s y with
    | some (.pointer (some a)), some v => match storeA P s t a v with | some s' => some (undef, s') | none => none
    | _, _ => none
  | .nilCheck x =>
    match evalA s x with
    | some (.pointer (some a)) => some (.pointer (some a), s)
    | some (.func (.func f) first captured) => some (.func (.func f) first captured, s)
    | _ => none
  | .binOp op t x y _ =>
    match evalA s x, evalA s y with
    | some a, some b => match binA P op t a b with | some v => some (v, s) | none => none
    | _, _ => none
  | .unOp op _ x =>
    match evalA s x with
    | some a => match unA op a with | some v => some (v, s) | none => none
    | none => none
  | .convert src dst x =>
    match evalA s x with
    | some a => match convA P src dst a with | some v => some (v, s) | none => none
    | none => none
  | .makeFunc fn first captured =>
    match fn, evalsA s first.toList, evalsA s captured.toList with
    | .func f, some l, some r => bif l.all noLoc && r.all noLoc then some (.func (.func f) l.toArray r.toArray, s) else none
    | _, _, _ => none
  | .makeSlice t l c =>
    match evalA s l, evalA s c with
    | some a, some b => makeSliceA P mk t a b
    | _, _ => none
  | .slice t x lo hi mx =>
    match evalA s x, evalOpt s lo, evalOpt s hi, evalOpt s mx with
    | some v, some a, some b, some c => match sliceA P t v a b c with | some r => some (r, s) | none => none
    | _, _, _, _ => none
  | .fieldAddr t x f =>
    match evalA s x with
    | some v => match fieldAddrA P t v f with | some r => some (r, s) | none => none
    | none => none
  | .field t x f =>
    match evalA s x with
    | some v => match fieldA P t v f with | some r => some (r, s) | none => none
    | none => none
  | .indexAddr t x i =>
    match evalA s x, evalA s i with
    | some v, some j => match indexAddrA P t v j with | some r => some (r, s) | none => none
    | _, _ => none
  | .index t x i =>
    match evalA s x, evalA s i with
    | some v, some j => match indexA P t v j with | some r => some (r, s) | none => none
    | _, _ => none
  | .extract x i =>
    match evalA s x with
    | some (.tuple vs) => match vs.toList[i]? with | some v => some (v, s) | none => none
    | _ => none
  | .call { callee := .builtin b, args, argTypes } =>
    match evalsA s args.toList with
    | some l =>
      match b, l with
      | .len, [x] => match argTypes.toList with | [t] => (match lenA P t x with | some v => some (v, s) | none => none) | _ => none
      | .max, x :: r => match foldA max2A x r with | some v => some (v, s) | none => none
      | .min, x :: r => match foldA min2A x r with | some v => some (v, s) | none => none
      | .append, l => withHeap s (appendH P s.h argTypes.toList l)
      | .copy, l => withHeap s (copyH P s.h argTypes.toList l)
      | _, _ => none
    | none => none
  | _ => none

/-- Pure: no memory is read, written or made. -/
def pureOp : Op → Bool
  | .move _ | .assign _ | .pick .. | .build .. | .nilCheck _ | .binOp .. | .unOp .. | .convert .. | .makeFunc .. | .slice .. | .fieldAddr .. | .field .. | .indexAddr .. | .index .. | .extract .. => true
  | .call { callee := .builtin .len, .. } | .call { callee := .builtin .max, .. } | .call { callee := .builtin .min, .. } => true
  | _ => false

def isStore : Op → Bool
  | .store .. => true
  | _ => false

/-- Must operation p come before q? -/
def prec (b : Array Nat) (p q : Nat) : Bool := (b.getD q 0).testBit p

/-- Do two operations share a temporary, one of them writing it? -/
def shares (ops : Array Oper) (x y : Oper) : Bool :=
  (match x.dst with
   | some d => (y.looksAt ops).contains d || y.dst == some d
   | none => false) ||
  (match y.dst with
   | some d => (x.looksAt ops).contains d
   | none => false)

/-- Calls, and what else reads or writes at large. -/
def atLarge : Op → Bool
  | .load .. | .store .. | .alloc _ | .box .. | .buildSlice .. | .makeSlice .. => false
  | o => !pureOp o

/-- Does it make a block, and whose? -/
def newG (o : Op) (loc : Bool) : Bool :=
  match o with
  | .alloc _ | .box _ _ => !loc
  | .buildSlice _ _ _ | .makeSlice _ _ _ => true
  | _ => false
def newL (o : Op) (loc : Bool) : Bool :=
  match o with
  | .alloc _ | .box _ _ => loc
  | _ => false

/-- An order in which a region is gone through: what is at large comes last. -/
def pickNext (ops : Array Oper) (done : List Nat) : Option Nat :=
  let ready := (List.range ops.size).filter fun i => !(done.contains i) && (match ops[i]? with | some o => o.after.toList.all (fun e => !(Region.binds .any e) || done.contains e.on) | none => false)
  match ready.find? (fun i => match ops[i]? with | some o => !(atLarge o.op) | none => false) with
  | some i => some i
  | none => ready.head?
def orderFrom (ops : Array Oper) : Nat → List Nat → List Nat
  | 0, done => done.reverse
  | n + 1, done =>
    match pickNext ops done with
    | some i => orderFrom ops n (i :: done)
    | none => done.reverse
def orderOf (ops : Array Oper) : List Nat := orderFrom ops ops.size []

/-- Every pair of a list, the former one first. -/
def pairs {α : Type} (p : α → α → Bool) : List α → Bool
  | [] => true
  | x :: l => l.all (p x) && pairs p l

/-- An order that serves: all operations, each once; what shares a temporary is ordered. -/
def drawOK (ops : Array Oper) (l : List Nat) : Bool :=
  Nat.beq l.length ops.size && (List.range ops.size).all (fun i => l.contains i) &&
  (ops.toList.zipIdx.all fun (o, i) => o.after.toList.all (fun e => !(Region.binds .any e) || Nat.blt e.on i)) &&
  pairs (fun p q => (!(Nat.beq p q)) && (match ops[p]?, ops[q]? with | some x, some y => !(shares ops x y) || prec (Region.before ops) p q | _, _ => false)) l

/-- What an operation touches of memory. -/
inductive FP where
  | none
  | block (loc : Bool) (b : Nat)
  | new (loc : Bool) (b : Nat)
  | all

def fpOf (o : Op) (loc : Bool) (id tag : Nat) (s : St) : FP :=
  bif pureOp o then .none else
  match o with
  | .alloc _ | .box _ _ => bif loc then .new true tag else .new false id
  | .buildSlice _ _ _ | .makeSlice _ _ _ => .new false id
  | .load _ x | .store _ x _ =>
    match evalA s x with
    | some (.pointer (some a)) => .block a.spot.isSome a.block
    | _ => .all
  | _ => .all

def same (l l' : Bool) (b b' : Nat) : Bool := (l == l') && Nat.beq b b'

/-- Must an operation come before a later one? (wx, wy: does it write; lim: blocks below are older than what calls of the region make) -/
def clash (lim : Nat) : FP → Bool → FP → Bool → Bool
  | .none, _, _, _ => false
  | _, _, .none, _ => false
  | .all, _, _, _ => true
  | .block l b, wx, .all, wy => !l && (wx || wy || !(Nat.blt b lim))
  | .new _ _, _, .all, wy => wy
  | .block l b, wx, .block l' b', wy => (wx || wy) && same l l' b b'
  | .block l b, _, .new l' b', _ => same l l' b b'
  | .new l b, _, .block l' b', _ => same l l' b b'
  | .new l b, _, .new l' b', _ => same l l' b b'

def fpsOK (ops : Array Oper) (lim : Nat) (fps : List (Nat × FP × Bool)) : Bool :=
  pairs (fun (p, x, wx) (q, y, wy) => !(clash lim x wx y wy) || prec (Region.before ops) p q) fps

def restrict (env : Tri Value) : List Tmp → Tri Value → Tri Value
  | [], acc => acc
  | t :: r, acc =>
    match env.get t with
    | some v => restrict env r (acc.set t v)
    | none => restrict env r acc

def locBelow (kn : Nat) : Value → Bool
  | .pointer (some a) => a.spot.isNone || Nat.blt a.block kn
  | _ => true

/-- Hints: which blocks are the frame's own; which temporaries live at a loop's head. Any hint is sound. -/
structure Hint where
  loc : FuncId → Tmp → Bool
  keep : FuncId → Nat → Option (List Tmp)

def noHint : Hint := { loc := fun _ _ => false, keep := fun _ _ => none }

/-- The number of the first region: a loop's name. -/
def keyOf : Code → Nat
  | .region id _ _ => id
  | .seq a _ => keyOf a
  | .block _ c => keyOf c
  | .loop c => keyOf c
  | .scope c => keyOf c
  | _ => 0

def norm (H : Hint) (f : FuncId) (c : Code) (kn : Nat) (s : St) : Option St :=
  match H.keep f (keyOf c) with
  | none => some s
  | some l =>
    let env := restrict s.env l .leaf
    bif Nat.ble kn s.kn && l.all (fun t => match env.get t with | some v => locBelow kn v | none => true) then some { s with env := env, kn := kn } else none

def putA (nt : Nat) (s : St) (dst : Option Tmp) (v : Value) : Option St :=
  match dst with
  | none => some s
  | some d => bif Nat.blt d nt then some { s with env := s.env.set d v } else none

def wantedA (ops : Array Oper) (o : Oper) (s : St) : Option Bool :=
  match o.guard with
  | none => some true
  | some (j, want) =>
    match (ops[j]?).bind (·.dst) with
    | some d =>
      match s.env.get d with
      | some (.bool b) => some (b == want)
      | some (.tuple vs) => bif vs.toList.isEmpty then some false else none
      | _ => none
    | none => none

def argsEnv : List Value → Nat → Tri Value → Tri Value
  | [], _, acc => acc
  | v :: r, i, acc => argsEnv r (i + 1) (acc.set i v)

def resA (P : Program) (s : St) : List ResultVar → Option (List Value)
  | [] => some []
  | .tmp t :: r =>
    match s.env.get t with
    | some v => match resA P s r with | some l => some (v :: l) | none => none
    | none => none
  | .cell a t :: r =>
    match s.env.get a with
    | some (.pointer (some x)) =>
      match loadA P s t x with
      | some v => match resA P s r with | some l => some (v :: l) | none => none
      | none => none
    | _ => none

def resultA : List Value → Value
  | [v] => v
  | l => .tuple l.toArray

/-- Calls that are known by other means. -/
abbrev Prims := FuncId → List Value → AHeap → Option (Value × AHeap)

def calleeA (s : St) (c : Call) : Option (FuncId × List Value) :=
  match c.callee with
  | .value x =>
    match evalA s x, evalsA s c.args.toList with
    | some (.func (.func f) first captured), some l => bif l.all noLoc then some (f, first.toList ++ l ++ captured.toList) else none
    | _, _ => none
  | _ => none

/-- What is carried out with less fuel. -/
structure Rec where
  run : FuncId → Nat → Code → St → Option (Exit × St)
  loop : FuncId → Nat → Code → Nat → St → Option (Exit × St)
  call : FuncId → List Value → AHeap → Option (Value × AHeap)

abbrev CallT := FuncId → List Value → AHeap → Option (Value × AHeap)

def callOp (call : CallT) (c : Call) (s : St) : Option (Value × St) :=
  match calleeA s c with
  | some (g, args) =>
    match call g args s.h with
    | some (v, h) => some (v, { s with h := h })
    | none => none
  | none => none

def isCall : Op → Option Call
  | .call c =>
    match c.callee with
    | .value _ => some c
    | _ => none
  | _ => none

def locOf (H : Hint) (f : FuncId) (o : Oper) : Bool :=
  match o.dst with
  | some d => H.loc f d
  | none => false

def oneA (P : Program) (H : Hint) (call : CallT) (f : FuncId) (o : Oper) (s : St) : Option (Value × St) :=
  match isCall o.op with
  | some c => callOp call c s
  | none => opA P s.new (locOf H f o) o.op s

def opsN (P : Program) (H : Hint) (call : CallT) (f : FuncId) (nt : Nat) (ops : Array Oper) : List Oper → St → Option St
  | [], s => some s
  | o :: rest, s =>
    match wantedA ops o s with
    | some true =>
      match oneA P H call f o s with
      | some (v, s') =>
        match putA nt s' o.dst v with
        | some s'' => opsN P H call f nt ops rest s''
        | none => none
      | none => none
    | some false =>
      match putA nt s o.dst undef with
      | some s' => opsN P H call f nt ops rest s'
      | none => none
    | none => none

def St.fresh (s : St) : St := { s with h := { s.h with low := s.h.next } }
def St.lowered (s : St) (low : Nat) : St := { s with h := { s.h with low := Nat.min low s.h.low } }

/-- The same in a region that draws: a block that it makes has a number that was kept for it. -/
def oneD (P : Program) (H : Hint) (call : CallT) (f : FuncId) (id tag : Nat) (o : Oper) (s : St) : Option (Value × St) :=
  match isCall o.op with
  | some c => callOp call c s
  | none => opA P (s.newAt id tag) (locOf H f o) o.op s

def opsD (P : Program) (H : Hint) (call : CallT) (f : FuncId) (nt : Nat) (ops : Array Oper) (base kbase : Nat) : List Nat → Nat → St → Option (St × List (Nat × FP × Bool))
  | [], _, s => some (s, [])
  | p :: rest, i, s =>
    match ops[p]? with
    | none => none
    | some o =>
      match wantedA ops o s with
      | some true =>
        match oneD P H call f (base + i) (kbase + i) o s.fresh with
        | some (v, s') =>
          match putA nt (s'.lowered s.h.low) o.dst v with
          | some s'' =>
            match opsD P H call f nt ops base kbase rest (i + 1) s'' with
            | some (r, fps) => some (r, (p, fpOf o.op (locOf H f o) (base + i) (kbase + i) s, isStore o.op || Nat.blt s'.h.low s.h.next) :: fps)
            | none => none
          | none => none
        | none => none
      | some false =>
        match putA nt s o.dst undef with
        | some s' =>
          match opsD P H call f nt ops base kbase rest (i + 1) s' with
          | some (r, fps) => some (r, (p, .none, false) :: fps)
          | none => none
        | none => none
      | none => none

/-- Numbers are kept for the blocks that a region may make. -/
def St.keepNos (s : St) (n : Nat) : St := { s with kn := s.kn + n, h := { s.h with next := s.h.next + n } }

def drawA (P : Program) (H : Hint) (call : CallT) (f : FuncId) (nt : Nat) (ops : Array Oper) (s : St) : Option St :=
  bif drawOK ops (orderOf ops) then
    match opsD P H call f nt ops s.h.next s.kn (orderOf ops) 0 (s.keepNos ops.size) with
    | some (s', fps) => bif fpsOK ops (s.h.next + ops.size) fps then some s' else none
    | none => none
  else none

def runS (P : Program) (H : Hint) (r : Rec) (f : FuncId) (nt : Nat) (c : Code) (s : St) : Option (Exit × St) :=
  match c with
  | .skip => some (.normal, s)
  | .ret => some (.ret, s)
  | .exit id => some (.exit id, s)
  | .seq a b =>
    match r.run f nt a s with
    | some (.normal, s') => r.run f nt b s'
    | x => x
  | .cond x a b =>
    match evalA s x with
    | some (.bool t) => r.run f nt (bif t then a else b) s
    | _ => none
  | .block id b =>
    match r.run f nt b s with
    | some (.exit id', s') => bif Nat.beq id' id then some (.normal, s') else some (.exit id', s')
    | x => x
  | .loop b => r.loop f nt b s.kn s
  | .region _ ops draw =>
    match (bif draw then drawA P H r.call f nt ops s else opsN P H r.call f nt ops ops.toList s) with
    | some s' => some (.normal, s')
    | none => none
  | _ => none

def loopS (H : Hint) (r : Rec) (f : FuncId) (nt : Nat) (b : Code) (kn : Nat) (s : St) : Option (Exit × St) :=
  match norm H f b kn s with
  | none => none
  | some s =>
    match r.run f nt b s with
    | some (.normal, s') => r.loop f nt b kn s'
    | x => x

def endA (P : Program) (fn : Func) (s : St) : Option (Value × AHeap) :=
  match resA P s fn.results.toList with
  | some l => bif l.all noLoc then some (resultA l, s.h) else none
  | none => none

def callS (P : Program) (F : Prims) (r : Rec) (g : FuncId) (args : List Value) (h : AHeap) : Option (Value × AHeap) :=
  match F g args h with
  | some x => some x
  | none =>
    match P.funcs[g]? with
    | some fn =>
      match fn.body with
      | some c =>
        match r.run g fn.ntmps c { env := argsEnv args 0 .leaf, kn := 0, K := .leaf, h := h } with
        | some (.normal, s) => endA P fn s
        | some (.ret, s) => endA P fn s
        | _ => none
      | none => none
    | none => none

def execA (P : Program) (H : Hint) (F : Prims) : Nat → Rec
  | 0 => ⟨fun _ _ _ _ => none, fun _ _ _ _ _ => none, fun _ _ _ => none⟩
  | n + 1 => ⟨runS P H (execA P H F n), loopS H (execA P H F n), callS P F (execA P H F n)⟩

def noPrims : Prims := fun _ _ _ => none

end Go.Sim
