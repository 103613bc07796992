/-
  CALLS THAT ARE KNOWN BY OTHER MEANS: functions without a body that the model's own table answers (math/bits.Add64, Sub64), as tables of calls for the abstract machine.
-/
import Derived.Test.YtlpnmdknlfmjaaaSimTop
import Derived.Laws.Externs
namespace Go.Sim

theorem VGs.flat_eq {g : Nat → Option Loc} : ∀ {l l' : List Value}, VGs g l l' → l.all flat1 = true → l' = l
  | [], l', h, _ => h.nil_right
  | u :: l, l', h, hf => by
    obtain ⟨v, l2, rfl, hv, hl⟩ := h.head
    simp only [List.all_cons, Bool.and_eq_true] at hf
    have e1 := VGs.flat_eq hl hf.2
    have e2 : v = u := by
      have hu := hf.1
      cases hv with
      | flat _ _ => rfl
      | junk => simp [flat1] at hu
      | ptr => simp [flat1] at hu
      | sliceX => simp [flat1] at hu
      | sliceI => simp [flat1] at hu
      | func => simp [flat1] at hu
      | agg => simp [flat1] at hu
      | tuple => simp [flat1] at hu
    rw [e1, e2]

def flatT : Value → Bool
  | .tuple vs => vs.toList.all flat1
  | v => flat1 v

theorem VG.of_flatT {g : Nat → Option Loc} {v : Value} (h : flatT v = true) : VG g v v := by
  unfold flatT at h
  split at h
  · exact .tuple _ _ rfl (VGs.flat h).2
  · exact .flat _ h

/-- A function of plain values, ahead of a table. -/
def withFn (g0 : FuncId) (f : List Value → Option Value) (F : Prims) : Prims := fun g args h =>
  bif Nat.beq g g0 && args.all flat1 then
    match f args with
    | some v => bif flatT v then some (v, h) else none
    | none => none
  else F g args h

theorem withFn_spec {g0 : FuncId} {f : List Value → Option Value} {F : Prims} {g : FuncId} {args : List Value} {h h' : AHeap} {v : Value} (hc : withFn g0 f F g args h = some (v, h')) :
    (g = g0 ∧ args.all flat1 = true ∧ f args = some v ∧ flatT v = true ∧ h' = h) ∨ F g args h = some (v, h') := by
  unfold withFn at hc
  cases hb : (Nat.beq g g0 && args.all flat1) with
  | false => rw [hb] at hc; exact .inr hc
  | true =>
    rw [hb] at hc
    simp only [Bool.and_eq_true] at hb
    simp only [cond_true] at hc
    split at hc
    · rename_i u hu
      cases hf : flatT u with
      | false => rw [hf] at hc; simp at hc
      | true =>
        rw [hf] at hc
        simp only [cond_true, Option.some.injEq, Prod.mk.injEq] at hc
        obtain ⟨rfl, rfl⟩ := hc
        exact .inl ⟨Nat.eq_of_beq_eq_true hb.1, hb.2, hu, hf, rfl⟩
    · cases hc

theorem withFn_ok {P : Program} {g0 : FuncId} {f : List Value → Option Value} {F : Prims} (hf : ∀ (args : List Value) (v : Value) (w : World), f args = some v → (callFunc g0 args.toArray).run P w = .ok (.value v) w) (hF : CallOK P F) : CallOK P (withFn g0 f F) := by
  intro g args h v h' hc G w cargs hR hA
  rcases withFn_spec hc with ⟨rfl, h1, h2, h3, rfl⟩ | hc
  · right
    rw [hA.flat_eq h1]
    exact ⟨v, w, hf args v w h2, G, .of_flatT h3, .refl hR, .refl _ _⟩
  · exact hF g args h v h' hc G w cargs hR hA

theorem withFn_keep {g0 : FuncId} {f : List Value → Option Value} {F : Prims} (hF : CallKeep F) : CallKeep (withFn g0 f F) := by
  intro g args h v h' hc
  rcases withFn_spec hc with ⟨_, _, _, _, rfl⟩ | hc
  · exact .refl _ _
  · exact hF g args h v h' hc

/-! ### math/bits -/

def add64F : List Value → Option Value
  | [.int .u64 x, .int .u64 y, .int .u64 c] => if 0 ≤ x ∧ 0 ≤ y ∧ 0 ≤ c ∧ c ≤ 1 then some (.tuple #[.int .u64 ((x + y + c) % 18446744073709551616), .int .u64 ((x + y + c) / 18446744073709551616)]) else none
  | _ => none

def sub64E : Array Value → Sem Value := fun args => do
  let (x, y, b) ← Extern.MathBitsCarry.three "Sub64" args
  pure (Extern.MathBitsCarry.pair ((x + Extern.MathBitsCarry.m64 - y - b) % Extern.MathBitsCarry.m64) (if x < y + b then 1 else 0))

def sub64F : List Value → Option Value
  | [.int .u64 x, .int .u64 y, .int .u64 b] => if 0 ≤ x ∧ 0 ≤ y ∧ 0 ≤ b ∧ b ≤ 1 then some (.tuple #[.int .u64 (Int.ofNat ((x.toNat + 18446744073709551616 - y.toNat - b.toNat) % 18446744073709551616)), .int .u64 (Int.ofNat (if x.toNat < y.toNat + b.toNat then 1 else 0))]) else none
  | _ => none

theorem add64_ok {P : Program} {g : FuncId} {fn : Func} (hf : P.funcs[g]? = some fn) (hname : (fn.name == "runtime.NumGoroutine") = false) (hb : fn.body.isNone = true) (hn : Extern.findNext fn = none) (he : Extern.find fn = some add64Entry)
    (args : List Value) (v : Value) (w : World) (h : add64F args = some v) : (callFunc g args.toArray).run P w = .ok (.value v) w := by
  unfold add64F at h
  split at h
  · rename_i x y c
    split at h
    · rename_i hc
      simp only [Option.some.injEq] at h; subst h
      have := run_callFunc_extern hf hname hb hn he #[.int .u64 x, .int .u64 y, .int .u64 c] w
      rw [run_add64 x y c hc.1 hc.2.1 hc.2.2.1 hc.2.2.2] at this
      exact this
    · cases h
  · cases h

theorem sub64_ok {P : Program} {g : FuncId} {fn : Func} (hf : P.funcs[g]? = some fn) (hname : (fn.name == "runtime.NumGoroutine") = false) (hb : fn.body.isNone = true) (hn : Extern.findNext fn = none) (he : Extern.find fn = some sub64E)
    (args : List Value) (v : Value) (w : World) (h : sub64F args = some v) : (callFunc g args.toArray).run P w = .ok (.value v) w := by
  unfold sub64F at h
  split at h
  · rename_i x y b
    split at h
    · rename_i hc
      simp only [Option.some.injEq] at h; subst h
      have := run_callFunc_extern hf hname hb hn he #[.int .u64 x, .int .u64 y, .int .u64 b] w
      have key : (sub64E #[.int .u64 x, .int .u64 y, .int .u64 b]).run P w = .ok (.tuple #[.int .u64 (Int.ofNat ((x.toNat + 18446744073709551616 - y.toNat - b.toNat) % 18446744073709551616)), .int .u64 (Int.ofNat (if x.toNat < y.toNat + b.toNat then 1 else 0))]) w := by
        have hb' : b = 0 ∨ b = 1 := by omega
        rcases hb' with rfl | rfl <;> rfl
      rw [key] at this
      exact this
    · cases h
  · cases h

end Go.Sim
