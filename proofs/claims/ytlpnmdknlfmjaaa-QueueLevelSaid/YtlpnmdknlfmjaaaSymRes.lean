/-
  CODE WITH ALL THAT ITS TYPES SAY: a function's code, resolved once (by the kernel), so that a symbolic run looks up no type, order or table. What is said of the resolved code is what is said of the code.
-/
import Derived.Test.YtlpnmdknlfmjaaaSymRun
namespace Go.Sim
set_option linter.unusedVariables false
set_option linter.unusedSimpArgs false

inductive ROp where
  | old (o : Op)
  | new (n : Nat) (cs : List Value)
  | box (n : Nat) (x : Operand)
  | build (z : List Value) (parts : List (Nat × Nat × Operand))
  | buildSlice (n len : Nat) (z : List Value) (parts : List (Nat × Nat × Operand))
  | load (n : Nat) (vs : List Sv) (x : Operand)
  | load1 (v : Sv) (x : Operand)
  | store (n : Nat) (x y : Operand)
  | convI (k : IntKind) (x : Operand)
  | mkSlice (n : Nat) (z : List Value) (l c : Operand)
  | cutS (t : TypeId) (x : Operand) (lo hi mx : Option Operand)
  | fieldAddr (off : Nat) (x : Operand)
  | fieldN (off n : Nat) (x : Operand)
  | field1 (off : Nat) (x : Operand)
  | ixS (n : Nat) (x i : Operand)
  | ixA (len n : Nat) (x i : Operand)
  | lenS (x : Operand)
  | lenStr (x : Operand)

def places3 (place : Nat → Option (Nat × Nat)) : List (Nat × Operand) → Option (List (Nat × Nat × Operand))
  | [] => some []
  | (i, x) :: r =>
    match place i with
    | some (o, n) =>
      match places3 place r with
      | some l => some ((o, n, x) :: l)
      | none => none
    | none => none

def evParts3 (s : SS) : List (Nat × Nat × Operand) → Option (List (Nat × Nat × Value))
  | [] => some []
  | (o, n, x) :: r =>
    match ev s x with
    | some v =>
      match evParts3 s r with
      | some l => some ((o, n, v) :: l)
      | none => none
    | none => none

def putR : List Value → List (Nat × Nat × Value) → Option (List Value)
  | cells, [] => some cells
  | cells, (off, size, v) :: rest =>
    bif Nat.beq v.cells.toList.length size && v.cells.toList.all cellOK then
      match splice cells off v.cells.toList with
      | some cs => putR cs rest
      | none => none
    else none

theorem places3_ok {place : Nat → Option (Nat × Nat)} {s : SS} : ∀ {l : List (Nat × Operand)} {l3 : List (Nat × Nat × Operand)}, places3 place l = some l3 →
    (evParts s l = none ∧ evParts3 s l3 = none) ∨ ∃ lv lv3, evParts s l = some lv ∧ evParts3 s l3 = some lv3 ∧ ∀ cells, putParts place cells lv = putR cells lv3
  | [], l3, h => by
    simp only [places3, Option.some.injEq] at h
    subst h
    exact .inr ⟨[], [], rfl, rfl, fun _ => rfl⟩
  | (i, x) :: r, l3, h => by
    simp only [places3] at h
    split at h
    · rename_i o n hp
      split at h
      · rename_i l hl
        simp only [Option.some.injEq] at h
        subst h
        cases hx : ev s x with
        | none => exact .inl ⟨by simp only [evParts, hx], by simp only [evParts3, hx]⟩
        | some v =>
          rcases places3_ok (s := s) hl with ⟨h1, h2⟩ | ⟨lv, lv3, h1, h2, h3⟩
          · exact .inl ⟨by simp only [evParts, hx, h1], by simp only [evParts3, hx, h2]⟩
          · refine .inr ⟨(i, v) :: lv, (o, n, v) :: lv3, by simp only [evParts, hx, h1], by simp only [evParts3, hx, h2], fun cells => ?_⟩
            simp only [putParts, putR, hp]
            cases hb : (Nat.beq v.cells.toList.length n && v.cells.toList.all cellOK) with
            | false => rfl
            | true =>
              simp only [cond_true]
              cases hs : splice cells o v.cells.toList with
              | none => rfl
              | some cs => exact h3 cs
      · cases h
    · cases h

def wpROp (P : Unit → Program) (A : Atoms) (mk : SMaker) (loc : Bool) (r : ROp) (s : SS) (C : Value → SS → Prop) : Prop :=
  match r with
  | .old o => wpOp P A mk loc o s C
  | .new n cs => mk loc n cs s C
  | .box n x =>
    match ev s x with
    | some v => bif v.cells.toList.all cellOK then mk loc n v.cells.toList s C else False
    | none => False
  | .build z parts =>
    match evParts3 s parts with
    | some l => match putR z l with | some cs => C (.agg cs.toArray) s | none => False
    | none => False
  | .buildSlice n len z parts =>
    match evParts3 s parts with
    | some l =>
      match putR z l with
      | some cs =>
        bif cs.all cellOK then
          mk false n cs s fun v s' =>
            match v with
            | .pointer (some a) => C (.slice (some a) len len) s'
            | _ => False
        else False
      | none => False
    | none => False
  | .load n vs x =>
    match ev s x with
    | some (.pointer (some a)) => wpRead A s a n vs fun l => C (.agg l.toArray) s
    | _ => False
  | .load1 v x =>
    match ev s x with
    | some (.pointer (some a)) => wpRead A s a 1 [v] fun l =>
      match l with
      | [v] => C v s
      | _ => False
    | _ => False
  | .store n x y =>
    match ev s x, ev s y with
    | some (.pointer (some a)), some v => bif Nat.beq v.cells.toList.length n then wpWrite A s a v.cells.toList (fun s' => C undef s') else False
    | _, _ => False
  | .convI k x =>
    match ev s x with
    | some (.int _ n) => C (.int k (A.conv k n)) s
    | _ => False
  | .mkSlice n z l c =>
    match ev s l, ev s c with
    | some (.int _ l), some (.int _ c) =>
      A.mkOK l c ∧ A.brk fun _ => mk false n (A.zeros z c) s fun v s' =>
        match v with
        | .pointer (some a) => C (.slice (some a) (A.nat l) (A.nat c)) s'
        | _ => False
    | _, _ => False
  | .cutS t x lo hi mx =>
    match ev s x, evOpt s lo, evOpt s hi, evOpt s mx with
    | some (.slice a n c), some lo, some hi, some mx =>
      match lo, hi, mx with
      | none, some (.int _ j), none => A.cut c j ∧ A.brk fun _ => C (.slice a (A.nat j) c) s
      | lo, hi, mx => A.slc t (.slice a n c) lo hi mx fun a' n' c' => C (.slice a' n' c') s
    | _, _, _, _ => False
  | .fieldAddr off x =>
    match ev s x with
    | some (.pointer (some a)) =>
      match a.spot with
      | none => C (.pointer (some ⟨a.block, A.addN a.off off, none⟩)) s
      | some x => C (.pointer (some ⟨a.block, a.off + off, some x⟩)) s
    | _ => False
  | .fieldN off n x =>
    match ev s x with
    | some (.agg cs) => match readN cs.toList off n with | some l => C (.agg l.toArray) s | none => False
    | _ => False
  | .field1 off x =>
    match ev s x with
    | some (.agg cs) => match cs.toList[off]? with | some v => C v s | none => False
    | _ => False
  | .ixS n x i =>
    match ev s x, ev s i with
    | some (.slice a len _), some (.int _ i) => ∃ b o, a = some ⟨b, o, none⟩ ∧ A.inR i len ∧ C (.pointer (some ⟨b, A.place o i n, none⟩)) s
    | _, _ => False
  | .ixA len n x i =>
    match ev s x, ev s i with
    | some (.pointer (some a)), some (.int _ i) => A.inR i len ∧ A.brk fun _ => C (.pointer (some ⟨a.block, A.place a.off i n, a.spot⟩)) s
    | _, _ => False
  | .lenS x =>
    match ev s x with
    | some (.slice _ n _) => C (.int .i64 (A.ofNat n)) s
    | _ => False
  | .lenStr x =>
    match ev s x with
    | some (.string b) => C (.int .i64 (A.slen b)) s
    | _ => False

def resOp (P : Program) (o : Op) : ROp :=
  match o with
  | .alloc e =>
    match zeroT P e, sizeT P e with
    | some z, some n => bif z.cells.toList.all cellOK then .new n z.cells.toList else .old o
    | _, _ => .old o
  | .box e x => match sizeT P e with | some n => .box n x | none => .old o
  | .build t parts =>
    match zeroT P t, P.underlying t with
    | some z, some (.struct fs) =>
      bif fs.toList.all (fun f => (P.info? f.type).isSome) then
        match places3 (fieldPlaces P fs.toList) parts.toList with
        | some l => .build z.cells.toList l
        | none => .old o
      else .old o
    | some z, some (.array _ e) =>
      match sizeT P e with
      | some n =>
        match places3 (fun i => some (i * n, n)) parts.toList with
        | some l => .build z.cells.toList l
        | none => .old o
      | none => .old o
    | _, _ => .old o
  | .buildSlice t len parts =>
    match P.underlying t with
    | some (.slice e) =>
      match sizeT P e, zeroT P e with
      | some n, some z =>
        bif Nat.ble (len * n) 16777216 && Nat.beq z.cells.toList.length n && Nat.ble len 16777216 then
          match places3 (fun i => some (i * n, n)) parts.toList with
          | some l => .buildSlice n len (copies z.cells.toList len) l
          | none => .old o
        else .old o
      | _, _ => .old o
    | _ => .old o
  | .load t x =>
    match isAggB P t with
    | some true => match sizeT P t with | some n => .load n (cellViews (fun _ => P) 12 t) x | none => .old o
    | some false => .load1 (svOf (P.underlying t)) x
    | none => .old o
  | .store t x y => match sizeT P t with | some n => .store n x y | none => .old o
  | .convert src dst x =>
    match P.underlying src, P.underlying dst with
    | some _, some (.int k) => .convI k x
    | _, _ => .old o
  | .makeSlice t l c =>
    match P.underlying t with
    | some (.slice e) =>
      match sizeT P e, zeroT P e, bytesT P e with
      | some n, some z, some by_ => bif Nat.ble by_ 16384 && Nat.beq z.cells.toList.length n && z.cells.toList.all cellOK then .mkSlice n z.cells.toList l c else .old o
      | _, _, _ => .old o
    | _ => .old o
  | .slice t x lo hi mx =>
    match P.underlying t with
    | some (.slice e) => bif (sizeT P e).isSome then .cutS t x lo hi mx else .old o
    | _ => .old o
  | .fieldAddr t x f =>
    match P.underlying t with
    | some (.struct fs) =>
      match fs.toList[f]? with
      | some fd => match sizeT P fd.type with | some n => bif Nat.beq n 0 then .old o else .fieldAddr fd.offset x | none => .old o
      | none => .old o
    | _ => .old o
  | .field t x f =>
    match P.underlying t with
    | some (.struct fs) =>
      match fs.toList[f]? with
      | some fd =>
        match isAggB P fd.type with
        | some true => match sizeT P fd.type with | some n => .fieldN fd.offset n x | none => .old o
        | some false => .field1 fd.offset x
        | none => .old o
      | none => .old o
    | _ => .old o
  | .indexAddr t x i =>
    match P.underlying t with
    | some (.slice e) => match sizeT P e with | some n => .ixS n x i | none => .old o
    | some (.array len e) => match sizeT P e with | some n => .ixA len n x i | none => .old o
    | _ => .old o
  | .call { callee := .builtin .len, args, argTypes } =>
    match args.toList, argTypes.toList with
    | [x], [t] =>
      match P.underlying t with
      | some (.slice _) => .lenS x
      | some .string => .lenStr x
      | _ => .old o
    | _, _ => .old o
  | _ => .old o

theorem ifF {b : Bool} {X : Prop} (h : b = true) : (bif b then X else False) = X := by rw [h]; rfl

set_option maxHeartbeats 1000000 in
theorem resOp_eq (P : Unit → Program) (A : Atoms) (mk : SMaker) (loc : Bool) (o : Op) (s : SS) (C : Value → SS → Prop) : wpROp P A mk loc (resOp (P ()) o) s C = wpOp P A mk loc o s C := by
  unfold resOp
  split
  · -- alloc
    split
    · rename_i z n hz hn
      cases hb : z.cells.toList.all cellOK with
      | false => rfl
      | true => simp only [cond_true, wpROp, wpOp, hz, hn, hb]
    · rfl
  · -- box
    split
    · rename_i n hn
      simp only [wpROp, wpOp, hn]
      cases ev s _ <;> rfl
    · rfl
  · -- build
    split
    · rename_i z fs hz hu
      cases hb : fs.toList.all (fun f => ((P ()).info? f.type).isSome) with
      | false => rfl
      | true =>
        simp only [cond_true]
        split
        · rename_i l hl
          simp only [wpROp, wpOp, buildA, hz, hu, hb, cond_true]
          rcases places3_ok (s := s) hl with ⟨h1, h2⟩ | ⟨lv, lv3, h1, h2, h3⟩
          · rw [h1, h2]
          · rw [h1, h2]
            simp only [h3]
            cases putR z.cells.toList lv3 <;> rfl
        · rfl
    · rename_i z x e hz hu
      split
      · rename_i n hn
        split
        · rename_i l hl
          simp only [wpROp, wpOp, buildA, hz, hu, hn]
          rcases places3_ok (s := s) hl with ⟨h1, h2⟩ | ⟨lv, lv3, h1, h2, h3⟩
          · rw [h1, h2]
          · rw [h1, h2]
            simp only [h3]
            cases putR z.cells.toList lv3 <;> rfl
        · rfl
      · rfl
    · rfl
  · -- buildSlice
    split
    · rename_i e hu
      split
      · rename_i n z hn hz
        cases hb : (Nat.ble (_ * n) 16777216 && Nat.beq z.cells.toList.length n && Nat.ble _ 16777216) with
        | false => rfl
        | true =>
          simp only [cond_true]
          split
          · rename_i l hl
            simp only [wpROp, wpOp, wpBuildSlice, hu, hn, hz, hb, cond_true]
            rcases places3_ok (s := s) hl with ⟨h1, h2⟩ | ⟨lv, lv3, h1, h2, h3⟩
            · rw [h1, h2]
            · rw [h1, h2]
              simp only [h3]
              cases putR _ lv3 with
              | none => rfl
              | some cs =>
                refine congrArg (fun K => bif cs.all cellOK then mk false n cs s K else False) (funext fun v => funext fun s' => ?_)
                cases v with
                | pointer a => cases a <;> rfl
                | _ => rfl
          · rfl
      · rfl
    · rfl
  · -- load
    split
    · rename_i ha
      split
      · rename_i n hn
        simp only [wpROp, wpOp, wpLoad, ha, hn]
        rfl
      · rfl
    · rename_i ha
      simp only [wpROp, wpOp, wpLoad, ha]
      cases ev s _ with
      | none => rfl
      | some v =>
        cases v with
        | pointer a =>
          cases a with
          | none => rfl
          | some a =>
            refine congrArg (wpRead A s a 1 [svOf ((P ()).underlying _)]) (funext fun l => ?_)
            cases l with
            | nil => rfl
            | cons v r => cases r <;> rfl
        | _ => rfl
    · rfl
  · -- store
    split
    · rename_i n hn
      simp only [wpROp, wpOp, wpStore, hn]
      cases ev s _ with
      | none => rfl
      | some v =>
        cases ev s _ with
        | none =>
          cases v with
          | pointer a => cases a <;> rfl
          | _ => rfl
        | some u =>
          cases v with
          | pointer a => cases a <;> rfl
          | _ => rfl
    · rfl
  · -- convert
    split
    · rename_i d k h1 h2
      simp only [wpROp, wpOp, wpConv, h1, h2]
      cases ev s _ with
      | none => rfl
      | some v => cases v <;> rfl
    · rfl
  · -- makeSlice
    split
    · rename_i e hu
      split
      · rename_i n z by_ hn hz hy
        cases hb : (Nat.ble by_ 16384 && Nat.beq z.cells.toList.length n && z.cells.toList.all cellOK) with
        | false => rfl
        | true =>
          simp only [cond_true, wpROp, wpOp, wpMakeSlice, hu, hn, hz, hy, hb]
          cases ev s _ with
          | none => rfl
          | some v =>
            cases ev s _ with
            | none => cases v <;> rfl
            | some u =>
              cases v with
              | int k l =>
                cases u with
                | int k' c =>
                  simp only [hn, hz, hy, hb, cond_true]
                  refine congrArg (fun K => A.mkOK l c ∧ A.brk fun _ => mk false n (A.zeros z.cells.toList c) s K) (funext fun v => funext fun s' => ?_)
                  cases v with
                  | pointer a => cases a <;> rfl
                  | _ => rfl
                | _ => rfl
              | _ => cases u <;> rfl
      · rfl
    · rfl
  · -- slice
    split
    · rename_i e hu
      cases hb : (sizeT (P ()) e).isSome with
      | false => rfl
      | true =>
        simp only [cond_true, wpROp, wpOp, wpSlice, hu, hb]
        cases ev s _ with
        | none => rfl
        | some v =>
          cases evOpt s _ with
          | none => cases v <;> rfl
          | some a =>
            cases evOpt s _ with
            | none => cases v <;> rfl
            | some b =>
              cases evOpt s _ with
              | none => cases v <;> rfl
              | some c =>
                cases v with
                | slice ad n cc =>
                  simp only [hb, cond_true]
                  cases a with
                  | some a => cases b <;> cases c <;> rfl
                  | none =>
                    cases b with
                    | none => cases c <;> rfl
                    | some b =>
                      cases c with
                      | some c => cases b <;> rfl
                      | none => cases b <;> rfl
                | _ => rfl
    · rfl
  · -- fieldAddr
    split
    · rename_i fs hu
      split
      · rename_i fd hf
        split
        · rename_i n hn
          cases hb : Nat.beq n 0 with
          | true => rfl
          | false =>
            simp only [cond_false, wpROp, wpOp, wpFieldAddr, hu, hf, hn, hb]
            cases ev s _ with
            | none => rfl
            | some v =>
              cases v with
              | pointer a =>
                cases a with
                | none => rfl
                | some a => simp only [hf, hn, hb, cond_false]; cases a.spot <;> rfl
              | _ => rfl
        · rfl
      · rfl
    · rfl
  · -- field
    split
    · rename_i fs hu
      split
      · rename_i fd hf
        split
        · rename_i ha
          split
          · rename_i n hn
            simp only [wpROp, wpOp, fieldA, partA, hu, hf, ha, hn]
            cases ev s _ with
            | none => rfl
            | some v =>
              cases v with
              | agg cs => simp only [hf, ha, hn]; cases readN cs.toList fd.offset n <;> rfl
              | _ => rfl
          · rfl
        · rename_i ha
          simp only [wpROp, wpOp, fieldA, partA, hu, hf, ha]
          cases ev s _ with
          | none => rfl
          | some v =>
            cases v with
            | agg cs => simp only [hf, ha]; cases cs.toList[fd.offset]? <;> rfl
            | _ => rfl
        · rfl
      · rfl
    · rfl
  · -- indexAddr
    split
    · rename_i e hu
      split
      · rename_i n hn
        simp only [wpROp, wpOp, wpIndexAddr, hu, hn]
        cases ev s _ with
        | none => rfl
        | some v =>
          cases ev s _ with
          | none => cases v <;> rfl
          | some u => cases v <;> cases u <;> first | rfl | simp only [hn]
      · rfl
    · rename_i len e hu
      split
      · rename_i n hn
        simp only [wpROp, wpOp, wpIndexAddr, hu, hn]
        cases ev s _ with
        | none => rfl
        | some v =>
          cases ev s _ with
          | none =>
            cases v with
            | pointer a => cases a <;> rfl
            | _ => rfl
          | some u =>
            cases v with
            | pointer a => cases a <;> cases u <;> first | rfl | simp only [hn]
            | _ => cases u <;> rfl
      · rfl
    · rfl
  · -- len
    split
    · rename_i args argTypes x t hx ht
      split
      · rename_i e hu
        simp only [wpROp, wpOp, hx, ht, evs, wpLen, hu]
        cases ev s _ with
        | none => rfl
        | some v => simp only [wpLen, hu]; cases v <;> rfl
      · rename_i hu
        simp only [wpROp, wpOp, hx, ht, evs, wpLen, hu]
        cases ev s _ with
        | none => rfl
        | some v => simp only [wpLen, hu]; cases v <;> rfl
      · rfl
    · rfl
  · rfl

end Go.Sim
