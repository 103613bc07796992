/-
  SYMBOLIC RUNS OF THE ABSTRACT MACHINE: what must hold that a piece of code comes to an end with Q. Definitions alone; SymSound proves that they serve.
-/
import Derived.Test.YtlpnmdknlfmjaaaSimMono
namespace Go.Sim

/-! ### Environments as lists -/

def E {α : Type} : List (Nat × α) → Tri α
  | [] => .leaf
  | (t, v) :: l => (E l).set t v

def lk {α : Type} : List (Nat × α) → Nat → Option α
  | [], _ => none
  | (a, v) :: l, t => bif Nat.beq a t then some v else lk l t

/-- The entries of a list of keys. -/
def pickL {α : Type} (l : List (Nat × α)) : List Nat → List (Nat × α)
  | [] => []
  | t :: r =>
    match lk l t with
    | some v => (t, v) :: pickL l r
    | none => pickL l r

/-- A state of which some things are known. -/
structure SS where
  env : List (Nat × Value)
  kn : Nat
  K : List (Nat × List Value)
  h : AHeap

/-- What is known of a state is so. -/
structure Le (s : SS) (t : St) : Prop where
  env : ∀ (i : Nat) (v : Value), lk s.env i = some v → t.env.get i = some v
  K : ∀ (i : Nat) (v : List Value), lk s.K i = some v → t.K.get i = some v
  kn : t.kn = s.kn
  h : t.h = s.h

/-- Which temporaries are looked at later: at a loop's head; behind a block. -/
structure Live where
  loop : FuncId → Nat → Option (List Tmp)
  blk : FuncId → Nat → Option (List Tmp)
  reg : FuncId → Nat → Option (List Tmp)

/-- A branch; the ways wait till one is chosen. -/
def fork (b : Bool) (x y : Unit → Prop) : Prop :=
  match b with
  | true => x ()
  | false => y ()

def pruned (s : SS) : Option (List Tmp) → SS
  | none => s
  | some l => { s with env := pickL s.env l }

/-! ### Values by their types -/

inductive Sv where
  | int (k : IntKind)
  | bool
  | str
  | slice
  | ptr
  | any

def svOf : Option TypeDesc → Sv
  | some (.int k) => .int k
  | some .bool => .bool
  | some .string => .str
  | some (.slice _) => .slice
  | some (.pointer _) => .ptr
  | _ => .any

def cellViews (P : Unit → Program) : Nat → TypeId → List Sv
  | 0, _ => []
  | d + 1, t =>
    match (P ()).underlying t with
    | some (.struct fs) => fs.toList.flatMap fun f => cellViews P d f.type
    | some (.array n e) => (List.replicate n (cellViews P d e)).flatten
    | x => [svOf x]

def exS : Sv → (Value → Prop) → Prop
  | .int k, C => ∃ n : Int, C (.int k n)
  | .bool, C => ∃ b : Bool, C (.bool b)
  | .str, C => ∃ s : ByteArray, C (.string s)
  | .slice, C => ∃ (a : Option Addr) (n c : Nat), C (.slice a n c)
  | .ptr, C => ∃ b o : Nat, C (.pointer (some ⟨b, o, none⟩))
  | .any, C => ∃ v : Value, C v

def exL : List Sv → (List Value → Prop) → Prop
  | [], C => C []
  | s :: r, C => exS s fun v => exL r fun l => C (v :: l)

/-- Some value of a type. -/
def exV (P : Unit → Program) (t : TypeId) (C : Value → Prop) : Prop :=
  match isAggB (P ()) t with
  | some true => exL (cellViews P 12 t) fun l => C (.agg l.toArray)
  | _ => exS (svOf ((P ()).underlying t)) C

def exVs (P : Unit → Program) : List TypeId → (List Value → Prop) → Prop
  | [], C => C []
  | t :: r, C => exV P t fun v => exVs P r fun l => C (v :: l)

/-- A value of a type, seen. -/
def seen (P : Unit → Program) (t : TypeId) (v : Value) (C : Value → Prop) : Prop :=
  match (P ()).underlying t with
  | some (.tuple ts) => exVs P ts.toList fun l => v = .tuple l.toArray ∧ C (.tuple l.toArray)
  | _ => exV P t fun u => v = u ∧ C u

/-! ### Calls and loops -/

structure WC (P : Program) (H : Hint) (F : Prims) (g : FuncId) (args : List Value) (h : AHeap) (Q : Value → AHeap → Prop) : Prop where
  ex : ∃ v h', Ret P H F g args h v h' ∧ Q v h'

/-- A loop at its head, what is carried from round to round being put in order. -/
def Head (P : Program) (H : Hint) (F : Prims) (f : FuncId) (nt : Nat) (b : Code) (kn : Nat) (s : St) (x : Exit) (s' : St) : Prop :=
  ∃ n, (match (execA P H F n).run f nt b s with
    | some (.normal, s1) => (execA P H F n).loop f nt b kn s1
    | r => r) = some (x, s')

structure WH (P : Program) (H : Hint) (F : Prims) (f : FuncId) (nt : Nat) (b : Code) (kn : Nat) (s : SS) (Q : Exit → SS → Prop) : Prop where
  ex : ∀ t, Le s t → t.h.low ≤ t.h.next → ∃ x t' s', Head P H F f nt b kn t x t' ∧ Le s' t' ∧ Q x s'

/-- The bodies of the loops of a code. -/
def loopsOf : Code → List Code
  | .seq a b => loopsOf a ++ loopsOf b
  | .cond _ a b => loopsOf a ++ loopsOf b
  | .block _ b => loopsOf b
  | .loop b => b :: loopsOf b
  | _ => []

/-- What is said of calls, of loops (by function and key) at their heads, of numbers and of memory. A proof leaves it open, so that nothing of it is computed. -/
structure Atoms where
  call : FuncId → List Value → AHeap → (Value → AHeap → Prop) → Prop
  head : FuncId → Nat → Nat → SS → (Exit → SS → Prop) → Prop
  arith : BinOp → IntKind → Int → Int → Int
  cmp : BinOp → Int → Int → Bool
  scmp : BinOp → ByteArray → ByteArray → Bool
  bnot : Bool → Bool
  bsame : Bool → Bool → Bool
  conv : IntKind → Int → Int
  neg : IntKind → Int → Int
  imax : Int → Int → Int
  imin : Int → Int → Int
  ofNat : Nat → Int
  slen : ByteArray → Int
  place : Nat → Int → Nat → Nat
  inR : Int → Nat → Prop
  nz : Int → Prop
  geZ : Int → Prop
  rd : AHeap → Nat → Nat → Nat → List Value → Prop
  wr : AHeap → Nat → Nat → List Value → AHeap → Prop
  push : AHeap → Nat → List Value → AHeap
  next : AHeap → Nat
  mkOK : Int → Int → Prop
  nat : Int → Nat
  zeros : List Value → Int → List Value
  sadd : ByteArray → ByteArray → (ByteArray → Prop) → Prop
  eqAgg : TypeId → Array Value → Array Value → (Bool → Prop) → Prop
  cut : Nat → Int → Prop
  slc : TypeId → Value → Option Value → Option Value → Option Value → (Option Addr → Nat → Nat → Prop) → Prop
  sslc : TypeId → ByteArray → Option Value → Option Value → (ByteArray → Prop) → Prop
  strAt : ByteArray → Int → (Int → Prop) → Prop
  part : TypeId → Array Value → Nat → Value → Prop
  app : List TypeId → List Value → AHeap → (Option Addr → Nat → Nat → AHeap → Prop) → Prop
  cpy : List TypeId → List Value → AHeap → (Int → AHeap → Prop) → Prop
  putAt : AHeap → Nat → Nat → List Value → AHeap
  fresh : AHeap → AHeap
  lowered : AHeap → AHeap → AHeap
  bump : AHeap → Nat → AHeap
  wrote : AHeap → AHeap → Bool
  addN : Nat → Nat → Nat
  lt : Nat → Nat → Prop
  ne : Nat → Nat → Prop
  fpAll : Bool → Bool → Bool → Nat → Nat → Prop
  brk : (Unit → Prop) → Prop

def AHeap.putAt (h : AHeap) (id es : Nat) (cs : List Value) : AHeap := { h with m := h.m.set id (.live true es cs) }
def AHeap.freshed (h : AHeap) : AHeap := { h with low := h.next }
def AHeap.lowered (h : AHeap) (low : Nat) : AHeap := { h with low := Nat.min low h.low }
def AHeap.bump (h : AHeap) (n : Nat) : AHeap := { h with next := h.next + n }

def arithI (op : BinOp) (k : IntKind) (a b : Int) : Int :=
  match op with
  | .add => k.wrap (a + b)
  | .sub => k.wrap (a - b)
  | .mul => k.wrap (a * b)
  | .quo => k.wrap (a.tdiv b)
  | .rem => a.tmod b
  | .and => k.wrap (BitVec.ofInt k.bits a &&& BitVec.ofInt k.bits b).toNat
  | .or => k.wrap (BitVec.ofInt k.bits a ||| BitVec.ofInt k.bits b).toNat
  | .xor => k.wrap (BitVec.ofInt k.bits a ^^^ BitVec.ofInt k.bits b).toNat
  | .andNot => k.wrap (BitVec.ofInt k.bits a &&& ~~~ BitVec.ofInt k.bits b).toNat
  | .shl => k.wrap (a * 2 ^ (min b.toNat k.bits))
  | .shr => a.fdiv (2 ^ (min b.toNat k.bits))
  | _ => 0

def cmpI (op : BinOp) (a b : Int) : Bool :=
  match op with
  | .eql => a == b
  | .neq => a != b
  | .lss => decide (a < b)
  | .leq => decide (a ≤ b)
  | .gtr => decide (a > b)
  | .geq => decide (a ≥ b)
  | _ => false

def cmpS (op : BinOp) (x y : ByteArray) : Bool :=
  match op with
  | .eql => x.toList == y.toList
  | .neq => !(x.toList == y.toList)
  | .lss => Op.bytesLess x.toList y.toList
  | .leq => Op.bytesLess x.toList y.toList || x.toList == y.toList
  | .gtr => !(Op.bytesLess x.toList y.toList || x.toList == y.toList)
  | .geq => !(Op.bytesLess x.toList y.toList)
  | _ => false

def atomsOf (P : Program) (H : Hint) (F : Prims) : Atoms where
  call := WC P H F
  head := fun f key kn s Q => ∀ fn c b, P.funcs[f]? = some fn → fn.body = some c → b ∈ loopsOf c → keyOf b = key → WH P H F f fn.ntmps b kn s Q
  arith := arithI
  cmp := cmpI
  scmp := cmpS
  bnot := fun b => !b
  bsame := fun a b => a == b
  conv := fun k n => k.wrap n
  neg := fun k n => k.wrap (0 - n)
  imax := fun x y => if y > x then y else x
  imin := fun x y => if y < x then y else x
  ofNat := fun n => n
  slen := fun s => s.size
  place := fun o i n => o + i.toNat * n
  inR := fun i n => 0 ≤ i ∧ i < n
  nz := fun b => b ≠ 0
  geZ := fun b => 0 ≤ b
  rd := fun h b o n l => h.readG ⟨b, o, none⟩ n = some l
  wr := fun h b o vs h' => h.write b o vs = some h'
  push := fun h es cs => h.push es cs
  next := fun h => h.next
  mkOK := fun l c => 0 ≤ l ∧ l ≤ c ∧ c ≤ 1073741824
  nat := fun i => i.toNat
  zeros := fun z c => copies z c.toNat
  sadd := fun a b C => a.size + b.size ≤ 1073741824 ∧ C (a ++ b)
  eqAgg := fun t a b C => P.eqGuardType P.depth t = false ∧ ∃ r, eqA P 30 t (.agg a) (.agg b) = some r ∧ C r
  cut := fun c j => 0 ≤ j ∧ j ≤ capLow c
  slc := fun t x lo hi mx C => ∃ a' n' c', sliceA P t x lo hi mx = some (.slice a' n' c') ∧ C a' n' c'
  sslc := fun t x lo hi C => ∃ r, sliceA P t (.string x) lo hi none = some (.string r) ∧ C r
  strAt := fun s i C => 0 ≤ i ∧ ∃ b : UInt8, s[i.toNat]? = some b ∧ C b.toNat
  part := fun t cs o v => partA P t cs o = some v
  app := fun ts l h C => ∃ a n c h', appendH P h ts l = some (.slice a n c, h') ∧ C a n c h'
  cpy := fun ts l h C => ∃ n h', copyH P h ts l = some (.int .i64 n, h') ∧ C n h'
  putAt := AHeap.putAt
  fresh := AHeap.freshed
  lowered := fun h h' => h'.lowered h.low
  bump := AHeap.bump
  wrote := fun h h' => Nat.blt h'.low h.next
  addN := fun a b => a + b
  lt := fun a b => a < b
  ne := fun a b => a ≠ b
  fpAll := fun wx wy l b lim => wx = false ∧ wy = false ∧ (l = true ∨ b < lim)
  brk := fun f => f ()

/-! ### Operations -/

def ev (s : SS) : Operand → Option Value
  | .tmp t => lk s.env t
  | .const v => bif flat v then some v else none
  | .global _ => none
  | .func f => some (.func (.func f) #[] #[])

def evs (s : SS) : List Operand → Option (List Value)
  | [] => some []
  | x :: r =>
    match ev s x with
    | some v =>
      match evs s r with
      | some l => some (v :: l)
      | none => none
    | none => none

def evOpt (s : SS) : Option Operand → Option (Option Value)
  | none => some none
  | some x =>
    match ev s x with
    | some v => some (some v)
    | none => none

def evParts (s : SS) : List (Nat × Operand) → Option (List (Nat × Value))
  | [] => some []
  | (i, x) :: r =>
    match ev s x with
    | some v =>
      match evParts s r with
      | some l => some ((i, v) :: l)
      | none => none
    | none => none

/-- Who makes a new block: the frame's own; or another one. -/
abbrev SMaker := Bool → Nat → List Value → SS → (Value → SS → Prop) → Prop

def newS (A : Atoms) : SMaker := fun loc es cs s C =>
  bif loc then C (.pointer (some ⟨s.kn, 0, some 0⟩)) { s with kn := s.kn + 1, K := (s.kn, cs) :: s.K }
  else C (.pointer (some ⟨A.next s.h, 0, none⟩)) { s with h := A.push s.h es cs }

def newAtS (A : Atoms) (id tag : Nat) : SMaker := fun loc es cs s C =>
  bif loc then C (.pointer (some ⟨tag, 0, some 0⟩)) { s with K := (tag, cs) :: s.K }
  else C (.pointer (some ⟨id, 0, none⟩)) { s with h := A.putAt s.h id es cs }

/-- The cells at an address. -/
def wpRead (A : Atoms) (s : SS) (a : Addr) (n : Nat) (views : List Sv) (C : List Value → Prop) : Prop :=
  match a.spot with
  | none => exL views fun l => A.rd s.h a.block a.off n l ∧ C l
  | some _ =>
    bif Nat.blt a.block s.kn then
      match lk s.K a.block with
      | some cs =>
        match readN cs a.off n with
        | some l => C l
        | none => False
      | none => False
    else False

def wpLoad (P : Unit → Program) (A : Atoms) (s : SS) (t : TypeId) (a : Addr) (C : Value → Prop) : Prop :=
  match isAggB (P ()) t with
  | some true =>
    match sizeT (P ()) t with
    | some n => wpRead A s a n (cellViews P 12 t) fun l => C (.agg l.toArray)
    | none => False
  | some false => wpRead A s a 1 [svOf ((P ()).underlying t)] fun l =>
    match l with
    | [v] => C v
    | _ => False
  | none => False

def wpWrite (A : Atoms) (s : SS) (a : Addr) (vs : List Value) (C : SS → Prop) : Prop :=
  bif vs.all cellOK then
    match a.spot with
    | none => ∃ h', A.wr s.h a.block a.off vs h' ∧ C { s with h := h' }
    | some _ =>
      bif Nat.blt a.block s.kn then
        match lk s.K a.block with
        | some cs =>
          match splice cs a.off vs with
          | some cs' => C { s with K := (a.block, cs') :: s.K }
          | none => False
        | none => False
      else False
  else False

def wpStore (P : Unit → Program) (A : Atoms) (s : SS) (t : TypeId) (a : Addr) (v : Value) (C : SS → Prop) : Prop :=
  match sizeT (P ()) t with
  | some n => bif Nat.beq v.cells.toList.length n then wpWrite A s a v.cells.toList C else False
  | none => False

def kindEq (k k' : IntKind) : Bool := decide (k = k')

def wpInt (A : Atoms) (op : BinOp) (k k' : IntKind) (a b : Int) (C : Value → Prop) : Prop :=
  match op with
  | .shl => A.geZ b ∧ A.brk fun _ => C (.int k (A.arith .shl k a b))
  | .shr => A.geZ b ∧ A.brk fun _ => C (.int k (A.arith .shr k a b))
  | .quo => bif kindEq k k' then (A.nz b ∧ A.brk fun _ => C (.int k (A.arith .quo k a b))) else False
  | .rem => bif kindEq k k' then (A.nz b ∧ A.brk fun _ => C (.int k (A.arith .rem k a b))) else False
  | .add => bif kindEq k k' then C (.int k (A.arith .add k a b)) else False
  | .sub => bif kindEq k k' then C (.int k (A.arith .sub k a b)) else False
  | .mul => bif kindEq k k' then C (.int k (A.arith .mul k a b)) else False
  | .and => bif kindEq k k' then C (.int k (A.arith .and k a b)) else False
  | .or => bif kindEq k k' then C (.int k (A.arith .or k a b)) else False
  | .xor => bif kindEq k k' then C (.int k (A.arith .xor k a b)) else False
  | .andNot => bif kindEq k k' then C (.int k (A.arith .andNot k a b)) else False
  | .eql => bif kindEq k k' then C (.bool (A.cmp .eql a b)) else False
  | .neq => bif kindEq k k' then C (.bool (A.cmp .neq a b)) else False
  | .lss => bif kindEq k k' then C (.bool (A.cmp .lss a b)) else False
  | .leq => bif kindEq k k' then C (.bool (A.cmp .leq a b)) else False
  | .gtr => bif kindEq k k' then C (.bool (A.cmp .gtr a b)) else False
  | .geq => bif kindEq k k' then C (.bool (A.cmp .geq a b)) else False

def wpStr (A : Atoms) (op : BinOp) (a b : ByteArray) (C : Value → Prop) : Prop :=
  match op with
  | .add => A.sadd a b fun c => C (.string c)
  | .eql => C (.bool (A.scmp .eql a b))
  | .neq => C (.bool (A.scmp .neq a b))
  | .lss => C (.bool (A.scmp .lss a b))
  | .leq => C (.bool (A.scmp .leq a b))
  | .gtr => C (.bool (A.scmp .gtr a b))
  | .geq => C (.bool (A.scmp .geq a b))
  | _ => False

def wpBin (P : Unit → Program) (A : Atoms) (op : BinOp) (t : TypeId) (x y : Value) (C : Value → Prop) : Prop :=
  match x, y with
  | .int k a, .int k' b => wpInt A op k k' a b C
  | .string a, .string b => wpStr A op a b C
  | .bool a, .bool b =>
    match op, (P ()).underlying t with
    | .eql, some .bool => C (.bool (A.bsame a b))
    | .neq, some .bool => C (.bool (A.bnot (A.bsame a b)))
    | _, _ => False
  | .agg a, .agg b =>
    match op with
    | .eql => A.eqAgg t a b fun r => C (.bool r)
    | .neq => A.eqAgg t a b fun r => C (.bool (A.bnot r))
    | _ => False
  | x, y =>
    match binA (P ()) op t x y with
    | some v => C v
    | none => False

def wpUn (A : Atoms) (op : UnOp) (x : Value) (C : Value → Prop) : Prop :=
  match op, x with
  | .neg, .int k n => C (.int k (A.neg k n))
  | .not, .bool b => C (.bool (A.bnot b))
  | op, x =>
    match unA op x with
    | some v => C v
    | none => False

def wpConv (P : Unit → Program) (A : Atoms) (src dst : TypeId) (x : Value) (C : Value → Prop) : Prop :=
  match (P ()).underlying src, (P ()).underlying dst, x with
  | some _, some (.int k), .int _ n => C (.int k (A.conv k n))
  | some _, some .string, .string s => C (.string s)
  | _, _, _ => False

def wpLen (P : Unit → Program) (A : Atoms) (t : TypeId) (x : Value) (C : Value → Prop) : Prop :=
  match (P ()).underlying t, x with
  | some .string, .string s => C (.int .i64 (A.slen s))
  | some (.array n _), _ => C (.int .i64 (A.ofNat n))
  | some (.slice _), .slice _ n _ => C (.int .i64 (A.ofNat n))
  | some (.pointer e), _ =>
    match (P ()).underlying e with
    | some (.array n _) => C (.int .i64 (A.ofNat n))
    | _ => False
  | _, _ => False

def wpFold (f : Int → Int → Int) : Value → List Value → (Value → Prop) → Prop
  | x, [], C => C x
  | .int k x, .int _ y :: r, C => wpFold f (.int k (f x y)) r C
  | _, _, _ => False

def wpSlice (P : Unit → Program) (A : Atoms) (t : TypeId) (x : Value) (lo hi mx : Option Value) (C : Value → Prop) : Prop :=
  match (P ()).underlying t, x with
  | some .string, .string s =>
    match mx with
    | none => A.sslc t s lo hi fun r => C (.string r)
    | some _ => False
  | some (.slice e), .slice a n c =>
    match lo, hi, mx with
    | none, some (.int _ j), none => bif (sizeT (P ()) e).isSome then (A.cut c j ∧ A.brk fun _ => C (.slice a (A.nat j) c)) else False
    | lo, hi, mx => A.slc t (.slice a n c) lo hi mx fun a' n' c' => C (.slice a' n' c')
  | some (.array _ _), .pointer (some a) => A.slc t (.pointer (some a)) lo hi mx fun a' n' c' => C (.slice a' n' c')
  | _, _ => False

def wpIndexAddr (P : Unit → Program) (A : Atoms) (t : TypeId) (x ix : Value) (C : Value → Prop) : Prop :=
  match (P ()).underlying t, x, ix with
  | some (.array len e), .pointer (some a), .int _ i =>
    match sizeT (P ()) e with
    | some n => A.inR i len ∧ A.brk fun _ => C (.pointer (some ⟨a.block, A.place a.off i n, a.spot⟩))
    | none => False
  | some (.slice e), .slice a len _, .int _ i =>
    match sizeT (P ()) e with
    | some n => ∃ b o, a = some ⟨b, o, none⟩ ∧ A.inR i len ∧ C (.pointer (some ⟨b, A.place o i n, none⟩))
    | none => False
  | _, _, _ => False

def wpFieldAddr (P : Unit → Program) (A : Atoms) (t : TypeId) (x : Value) (f : Nat) (C : Value → Prop) : Prop :=
  match (P ()).underlying t, x with
  | some (.struct fs), .pointer (some a) =>
    match fs.toList[f]? with
    | some fd =>
      match sizeT (P ()) fd.type with
      | some n => bif Nat.beq n 0 then False else
        match a.spot with
        | none => C (.pointer (some ⟨a.block, A.addN a.off fd.offset, none⟩))
        | some x => C (.pointer (some ⟨a.block, a.off + fd.offset, some x⟩))
      | none => False
    | none => False
  | _, _ => False

def wpIndex (P : Unit → Program) (A : Atoms) (t : TypeId) (x ix : Value) (C : Value → Prop) : Prop :=
  match (P ()).underlying t, x, ix with
  | some (.array len e), .agg cs, .int _ i =>
    match sizeT (P ()) e with
    | some n => A.inR i len ∧ exV P e fun v => A.part e cs (A.place 0 i n) v ∧ C v
    | none => False
  | some .string, .string s, .int _ i => A.strAt s i fun b => C (.int .u8 b)
  | _, _, _ => False

def wpMakeSlice (P : Unit → Program) (A : Atoms) (mk : SMaker) (t : TypeId) (l c : Value) (s : SS) (C : Value → SS → Prop) : Prop :=
  match (P ()).underlying t, l, c with
  | some (.slice e), .int _ l, .int _ c =>
    match sizeT (P ()) e, zeroT (P ()) e, bytesT (P ()) e with
    | some n, some z, some by_ =>
      bif Nat.ble by_ 16384 && Nat.beq z.cells.toList.length n && z.cells.toList.all cellOK then
        A.mkOK l c ∧ A.brk fun _ => mk false n (A.zeros z.cells.toList c) s fun v s' =>
          match v with
          | .pointer (some a) => C (.slice (some a) (A.nat l) (A.nat c)) s'
          | _ => False
      else False
    | _, _, _ => False
  | _, _, _ => False

def wpBuildSlice (P : Unit → Program) (mk : SMaker) (t : TypeId) (len : Nat) (parts : List (Nat × Value)) (s : SS) (C : Value → SS → Prop) : Prop :=
  match (P ()).underlying t with
  | some (.slice e) =>
    match sizeT (P ()) e, zeroT (P ()) e with
    | some n, some z =>
      bif Nat.ble (len * n) 16777216 && Nat.beq z.cells.toList.length n && Nat.ble len 16777216 then
        match putParts (fun i => some (i * n, n)) (copies z.cells.toList len) parts with
        | some cs =>
          bif cs.all cellOK then
            mk false n cs s fun v s' =>
              match v with
              | .pointer (some a) => C (.slice (some a) len len) s'
              | _ => False
          else False
        | none => False
      else False
    | _, _ => False
  | _ => False

def wpOp (P : Unit → Program) (A : Atoms) (mk : SMaker) (loc : Bool) (o : Op) (s : SS) (C : Value → SS → Prop) : Prop :=
  match o with
  | .move x => match ev s x with | some v => C v s | none => False
  | .assign x => match ev s x with | some v => C v s | none => False
  | .pick c a b =>
    match ev s c with
    | some (.bool t) => fork t (fun _ => match ev s a with | some v => C v s | none => False) (fun _ => match ev s b with | some v => C v s | none => False)
    | _ => False
  | .alloc e =>
    match zeroT (P ()) e, sizeT (P ()) e with
    | some z, some n => bif z.cells.toList.all cellOK then mk loc n z.cells.toList s C else False
    | _, _ => False
  | .box e x =>
    match ev s x, sizeT (P ()) e with
    | some v, some n => bif v.cells.toList.all cellOK then mk loc n v.cells.toList s C else False
    | _, _ => False
  | .build t parts =>
    match evParts s parts.toList with
    | some l => match buildA (P ()) t l with | some v => C v s | none => False
    | none => False
  | .buildSlice t len parts =>
    match evParts s parts.toList with
    | some l => wpBuildSlice P mk t len l s C
    | none => False
  | .load t x =>
    match ev s x with
    | some (.pointer (some a)) => wpLoad P A s t a fun v => C v s
    | _ => False
  | .store t x y =>
    match ev s x, ev s y with
    | some (.pointer (some a)), some v => wpStore P A s t a v fun s' => C undef s'
    | _, _ => False
  | .nilCheck x =>
    match ev s x with
    | some (.pointer (some a)) => C (.pointer (some a)) s
    | some (.func (.func f) first captured) => C (.func (.func f) first captured) s
    | _ => False
  | .binOp op t x y _ =>
    match ev s x, ev s y with
    | some a, some b => wpBin P A op t a b fun v => C v s
    | _, _ => False
  | .unOp op _ x =>
    match ev s x with
    | some a => wpUn A op a fun v => C v s
    | none => False
  | .convert src dst x =>
    match ev s x with
    | some a => wpConv P A src dst a fun v => C v s
    | none => False
  | .makeFunc fn first captured =>
    match fn, evs s first.toList, evs s captured.toList with
    | .func f, some l, some r => bif l.all noLoc && r.all noLoc then C (.func (.func f) l.toArray r.toArray) s else False
    | _, _, _ => False
  | .makeSlice t l c =>
    match ev s l, ev s c with
    | some a, some b => wpMakeSlice P A mk t a b s C
    | _, _ => False
  | .slice t x lo hi mx =>
    match ev s x, evOpt s lo, evOpt s hi, evOpt s mx with
    | some v, some a, some b, some c => wpSlice P A t v a b c fun r => C r s
    | _, _, _, _ => False
  | .fieldAddr t x f =>
    match ev s x with
    | some v => wpFieldAddr P A t v f fun r => C r s
    | none => False
  | .field t x f =>
    match ev s x with
    | some v => match fieldA (P ()) t v f with | some r => C r s | none => False
    | none => False
  | .indexAddr t x i =>
    match ev s x, ev s i with
    | some v, some j => wpIndexAddr P A t v j fun r => C r s
    | _, _ => False
  | .index t x i =>
    match ev s x, ev s i with
    | some v, some j => wpIndex P A t v j fun r => C r s
    | _, _ => False
  | .extract x i =>
    match ev s x with
    | some (.tuple vs) => match vs.toList[i]? with | some v => C v s | none => False
    | _ => False
  | .call { callee := .builtin b, args, argTypes } =>
    match evs s args.toList with
    | some l =>
      match b, l with
      | .len, [x] => match argTypes.toList with | [t] => wpLen P A t x fun v => C v s | _ => False
      | .max, x :: r => wpFold A.imax x r fun v => C v s
      | .min, x :: r => wpFold A.imin x r fun v => C v s
      | .append, l => A.app argTypes.toList l s.h fun a n c h' => C (.slice a n c) { s with h := h' }
      | .copy, l => A.cpy argTypes.toList l s.h fun n h' => C (.int .i64 n) { s with h := h' }
      | _, _ => False
    | none => False
  | _ => False

def calleeS (s : SS) (c : Call) : Option (FuncId × List Value) :=
  match c.callee with
  | .value x =>
    match ev s x, evs s c.args.toList with
    | some (.func (.func f) first captured), some l => bif l.all noLoc then some (f, first.toList ++ l ++ captured.toList) else none
    | _, _ => none
  | _ => none

def putS (nt : Nat) (s : SS) (dst : Option Tmp) (v : Value) (C : SS → Prop) : Prop :=
  match dst with
  | none => C s
  | some d => bif Nat.blt d nt then C { s with env := (d, v) :: s.env } else False

/-- The result of a call, seen by its type, if anybody looks at it. -/
def seenFor (P : Unit → Program) (dst : Option Tmp) (t : TypeId) (v : Value) (C : Value → Prop) : Prop :=
  match dst with
  | none => C v
  | some _ => seen P t v C

/-- One operation. -/
def wpOne (P : Unit → Program) (H : Hint) (A : Atoms) (f : FuncId) (o : Oper) (s : SS) (C : Value → SS → Prop) : Prop :=
  match isCall o.op with
  | some c =>
    match calleeS s c with
    | some (g, args) => A.call g args s.h fun v h' => seenFor P o.dst o.type v fun v => C v { s with h := h' }
    | none => False
  | none => wpOp P A (newS A) (locOf H f o) o.op s C

/-- An operation with a guard. -/
def wpGuard (ops : Array Oper) (o : Oper) (s : SS) (go skip : SS → Prop) : Prop :=
  match o.guard with
  | none => go s
  | some (j, want) =>
    match (ops[j]?).bind (·.dst) with
    | some d =>
      match lk s.env d with
      | some (.bool b) =>
        match want with
        | true => fork b (fun _ => go { s with env := (d, .bool true) :: s.env }) (fun _ => skip { s with env := (d, .bool false) :: s.env })
        | false => fork b (fun _ => skip { s with env := (d, .bool true) :: s.env }) (fun _ => go { s with env := (d, .bool false) :: s.env })
      | some (.tuple vs) => bif vs.toList.isEmpty then skip s else False
      | _ => False
    | none => False

def wpOps (P : Unit → Program) (H : Hint) (A : Atoms) (f : FuncId) (nt : Nat) (ops : Array Oper) : List Oper → SS → (SS → Prop) → Prop
  | [], s, Q => Q s
  | o :: rest, s, Q =>
    wpGuard ops o s
      (fun s => wpOne P H A f o s fun v s' => putS nt s' o.dst v fun s'' => wpOps P H A f nt ops rest s'' Q)
      (fun s => putS nt s o.dst undef fun s' => wpOps P H A f nt ops rest s' Q)

/-! ### Regions that draw -/

def fpS (o : Op) (loc : Bool) (id tag : Nat) (s : SS) : FP :=
  bif pureOp o then .none else
  match o with
  | .alloc _ | .box _ _ => bif loc then .new true tag else .new false id
  | .buildSlice _ _ _ | .makeSlice _ _ _ => .new false id
  | .load _ x | .store _ x _ =>
    match ev s x with
    | some (.pointer (some a)) => .block a.spot.isSome a.block
    | _ => .all
  | _ => .all

/-- Is it neither a call nor what writes at large? -/
def small : Op → Bool
  | .load .. | .store .. | .alloc _ | .box .. | .buildSlice .. | .makeSlice .. => true
  | o => pureOp o

/-- Two operations do not meet, or the order is given. -/
def apartP (A : Atoms) (lim : Nat) (x : FP) (wx : Bool) (y : FP) (wy : Bool) (C : Prop) : Prop :=
  match x with
  | .none => C
  | .all => match y with | .none => C | _ => False
  | .block l b =>
    match y with
    | .none => C
    | .all => cond l C (A.fpAll wx wy l b lim ∧ C)
    | .block l' b' => cond (wx || wy) (cond (l == l') (A.ne b b' ∧ C) C) C
    | .new l' b' => cond (l == l') (A.ne b b' ∧ C) C
  | .new l b =>
    match y with
    | .none => C
    | .all => wy = false ∧ C
    | .block l' b' => cond (l == l') (A.ne b b' ∧ C) C
    | .new l' b' => cond (l == l') (A.ne b b' ∧ C) C

def apartAll (A : Atoms) (ops : Array Oper) (lim : Nat) (p : Nat) (x : FP) (wx : Bool) : List (Nat × FP × Bool) → Prop → Prop
  | [], C => C
  | (q, y, wy) :: r, C => bif prec (Region.before ops) p q then apartAll A ops lim p x wx r C else apartP A lim x wx y wy (apartAll A ops lim p x wx r C)

def apartP' (A : Atoms) (ops : Array Oper) (lim : Nat) : List (Nat × FP × Bool) → Prop → Prop
  | [], C => C
  | (p, x, wx) :: r, C => apartAll A ops lim p x wx r (apartP' A ops lim r C)

def wpOpsD (P : Unit → Program) (H : Hint) (A : Atoms) (f : FuncId) (nt : Nat) (ops : Array Oper) (base kbase : Nat) : List Nat → Nat → SS → (SS → List (Nat × FP × Bool) → Prop) → Prop
  | [], _, s, Q => Q s []
  | p :: rest, i, s, Q =>
    match ops[p]? with
    | none => False
    | some o =>
      wpGuard ops o s
        (fun s =>
          match isCall o.op with
          | some c =>
            match calleeS s c with
            | some (g, args) => A.call g args (A.fresh s.h) fun v h' => seenFor P o.dst o.type v fun v =>
                putS nt { s with h := A.lowered s.h h' } o.dst v fun s'' => wpOpsD P H A f nt ops base kbase rest (i + 1) s'' fun r fps => Q r ((p, .all, A.wrote s.h h') :: fps)
            | none => False
          | none =>
            bif small o.op then
              wpOp P A (newAtS A (A.addN base i) (kbase + i)) (locOf H f o) o.op s fun v s' =>
                putS nt s' o.dst v fun s'' => wpOpsD P H A f nt ops base kbase rest (i + 1) s'' fun r fps => Q r ((p, fpS o.op (locOf H f o) (A.addN base i) (kbase + i) s, isStore o.op) :: fps)
            else
              wpOp P A (newAtS A (A.addN base i) (kbase + i)) (locOf H f o) o.op { s with h := A.fresh s.h } fun v s' =>
                putS nt { s' with h := A.lowered s.h s'.h } o.dst v fun s'' => wpOpsD P H A f nt ops base kbase rest (i + 1) s'' fun r fps => Q r ((p, .all, A.wrote s.h s'.h) :: fps))
        (fun s => putS nt s o.dst undef fun s' => wpOpsD P H A f nt ops base kbase rest (i + 1) s' fun r fps => Q r ((p, .none, false) :: fps))

def wpDraw (P : Unit → Program) (H : Hint) (A : Atoms) (f : FuncId) (nt : Nat) (ops : Array Oper) (s : SS) (Q : SS → Prop) : Prop :=
  bif drawOK ops (orderOf ops) then
    wpOpsD P H A f nt ops (A.next s.h) s.kn (orderOf ops) 0 { s with kn := s.kn + ops.size, h := A.bump s.h ops.size } fun s' fps => apartP' A ops (A.addN (A.next s.h) ops.size) fps (Q s')
  else False

/-! ### Code -/

def normS (H : Hint) (f : FuncId) (c : Code) (kn : Nat) (s : SS) : Option SS :=
  match H.keep f (keyOf c) with
  | none => some s
  | some l =>
    bif Nat.ble kn s.kn && l.all (fun t => match lk s.env t with | some v => locBelow kn v | none => false) then some { s with env := pickL s.env l, kn := kn, K := pickL s.K (List.range kn) } else none

/-- What comes behind a first part; behind a block. -/
def seqK (next : SS → Prop) (Q : Exit → SS → Prop) : Exit → SS → Prop
  | .normal, s => next s
  | x, s => Q x s
def blockK (id : Nat) (Q : Exit → SS → Prop) : Exit → SS → Prop
  | .exit id', s => bif Nat.beq id' id then Q .normal s else Q (.exit id') s
  | x, s => Q x s

def wpS (P : Unit → Program) (H : Hint) (A : Atoms) (V : Live) (f : FuncId) (nt : Nat) (c : Code) (s : SS) (Q : Exit → SS → Prop) : Prop :=
  match c with
  | .skip => Q .normal s
  | .ret => Q .ret s
  | .exit id => Q (.exit id) (pruned s (V.blk f id))
  | .seq a b => wpS P H A V f nt a s (seqK (fun s' => wpS P H A V f nt b s' Q) Q)
  | .cond x a b =>
    match ev s x with
    | some (.bool t) => fork t (fun _ => wpS P H A V f nt a s Q) (fun _ => wpS P H A V f nt b s Q)
    | _ => False
  | .block id b => wpS P H A V f nt b s (blockK id Q)
  | .loop b =>
    match normS H f b s.kn s with
    | some s0 => A.head f (keyOf b) s.kn (pruned s0 (V.loop f (keyOf b))) Q
    | none => False
  | .region id ops draw => bif draw then wpDraw P H A f nt ops (pruned s (V.reg f id)) (Q .normal) else wpOps P H A f nt ops ops.toList (pruned s (V.reg f id)) (Q .normal)
  | _ => False

/-- A round of a loop. -/
def wpRound (P : Unit → Program) (H : Hint) (A : Atoms) (V : Live) (f : FuncId) (nt : Nat) (b : Code) (kn : Nat) (s : SS) (Q : Exit → SS → Prop) : Prop :=
  wpS P H A V f nt b s (seqK (fun s' =>
      match normS H f b kn s' with
      | some s1 => A.head f (keyOf b) kn (pruned s1 (V.loop f (keyOf b))) Q
      | none => False) Q)

def wpRes (P : Unit → Program) (A : Atoms) (s : SS) : List ResultVar → (List Value → Prop) → Prop
  | [], C => C []
  | .tmp t :: r, C =>
    match lk s.env t with
    | some v => wpRes P A s r fun l => C (v :: l)
    | none => False
  | .cell a t :: r, C =>
    match lk s.env a with
    | some (.pointer (some x)) => wpLoad P A s t x fun v => wpRes P A s r fun l => C (v :: l)
    | _ => False

def argsL : List Value → Nat → List (Nat × Value) → List (Nat × Value)
  | [], _, acc => acc
  | v :: r, i, acc => argsL r (i + 1) ((i, v) :: acc)

/-- A loop of a function, at its head. -/
def wpHead (P : Unit → Program) (H : Hint) (A : Atoms) (V : Live) (f : FuncId) (fn : Func) (key kn : Nat) (s : SS) (Q : Exit → SS → Prop) : Prop :=
  match fn.body with
  | some c =>
    match (loopsOf c).filter (fun b => Nat.beq (keyOf b) key) with
    | [b] => wpRound P H A V f fn.ntmps b kn s Q
    | _ => False
  | none => False

/-- A function's end. -/
def endK (P : Unit → Program) (A : Atoms) (rs : List ResultVar) (Q : Value → AHeap → Prop) : Exit → SS → Prop
  | .normal, s => wpRes P A s rs fun l => bif l.all noLoc then Q (resultA l) s.h else False
  | .ret, s => wpRes P A s rs fun l => bif l.all noLoc then Q (resultA l) s.h else False
  | _, _ => False

def wpFun (P : Unit → Program) (H : Hint) (A : Atoms) (V : Live) (g : FuncId) (fn : Func) (args : List Value) (h : AHeap) (Q : Value → AHeap → Prop) : Prop :=
  match fn.body with
  | some c => wpS P H A V g fn.ntmps c ⟨argsL args 0 [], 0, [], h⟩ (endK P A fn.results.toList Q)
  | none => False

end Go.Sim
