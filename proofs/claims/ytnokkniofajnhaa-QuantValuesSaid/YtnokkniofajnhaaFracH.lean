/-
  math/bits: Div64, Rem64.
-/
import Derived.Test.YtnokkniofajnhaaFracG
namespace Go.Proofs.Ytnokkniofajnhaa
open Go.Sim
set_option linter.unusedVariables false
set_option maxRecDepth 100000

variable {F : Prims}
  {call : FuncId → List Value → AHeap → (Value → AHeap → Prop) → Prop}
  {head : FuncId → Nat → Nat → SS → (Exit → SS → Prop) → Prop}
  {arith : BinOp → IntKind → Int → Int → Int}
  {cmp : BinOp → Int → Int → Bool}
  {scmp : BinOp → ByteArray → ByteArray → Bool}
  {bnot : Bool → Bool}
  {bsame : Bool → Bool → Bool}
  {conv : IntKind → Int → Int}
  {neg : IntKind → Int → Int}
  {imax : Int → Int → Int}
  {imin : Int → Int → Int}
  {ofNat : Nat → Int}
  {slen : ByteArray → Int}
  {place : Nat → Int → Nat → Nat}
  {inR : Int → Nat → Prop}
  {nz : Int → Prop}
  {geZ : Int → Prop}
  {rd : AHeap → Nat → Nat → Nat → List Value → Prop}
  {wr : AHeap → Nat → Nat → List Value → AHeap → Prop}
  {push : AHeap → Nat → List Value → AHeap}
  {next : AHeap → Nat}
  {mkOK : Int → Int → Prop}
  {nat : Int → Nat}
  {zeros : List Value → Int → List Value}
  {sadd : ByteArray → ByteArray → (ByteArray → Prop) → Prop}
  {eqAgg : TypeId → Array Value → Array Value → (Bool → Prop) → Prop}
  {cut : Nat → Int → Prop}
  {slc : TypeId → Value → Option Value → Option Value → Option Value → (Option Addr → Nat → Nat → Prop) → Prop}
  {sslc : TypeId → ByteArray → Option Value → Option Value → (ByteArray → Prop) → Prop}
  {strAt : ByteArray → Int → (Int → Prop) → Prop}
  {part : TypeId → Array Value → Nat → Value → Prop}
  {app : List TypeId → List Value → AHeap → (Option Addr → Nat → Nat → AHeap → Prop) → Prop}
  {cpy : List TypeId → List Value → AHeap → (Int → AHeap → Prop) → Prop}
  {putAt : AHeap → Nat → Nat → List Value → AHeap}
  {fresh : AHeap → AHeap}
  {lowered : AHeap → AHeap → AHeap}
  {bump : AHeap → Nat → AHeap}
  {wrote : AHeap → AHeap → Bool}
  {addN : Nat → Nat → Nat}
  {lt : Nat → Nat → Prop}
  {ne : Nat → Nat → Prop}
  {fpAll : Bool → Bool → Bool → Nat → Nat → Prop}
  {brk : (Unit → Prop) → Prop}
  {yn : Nat → Nat}
  {rng : FuncId → Nat → SS → (Exit → SS → Prop) → Prop}
  {mget : TypeId → Value → Value → AHeap → Value → Bool → Prop}
  {mput : TypeId → Value → Value → Value → AHeap → AHeap → Prop}
  {mnew : AHeap → AHeap}
  {bytes : TypeId → TypeId → Option Addr → Nat → AHeap → ByteArray → Prop}
  {clr : List TypeId → List Value → AHeap → AHeap → Prop}
  (hA : AP F ⟨call, head, arith, cmp, scmp, bnot, bsame, conv, neg, imax, imin, ofNat, slen, place, inR, nz, geZ, rd, wr, push, next, mkOK, nat, zeros, sadd, eqAgg, cut, slc, sslc, strAt, part, app, cpy, putAt, fresh, lowered, bump, wrote, addN, lt, ne, fpAll, brk, yn, rng, mget, mput, mnew, bytes, clr⟩)
include hA

theorem div64_ok {h : AHeap} (hlow : h.low ≤ h.next) {hi lo y : Int} (hhi : 0 ≤ hi) (hlo : u64 lo) (hy : u64 y) (hlt : hi < y) {Q : Value → AHeap → Prop}
    (hQ : ∀ q r : Int, q = (hi * 18446744073709551616 + lo) / y → r = (hi * 18446744073709551616 + lo) % y → ∀ h', Ext h h' → Q (.tuple #[.int .u64 q, .int .u64 r]) h') : call 84 [.int .u64 hi, .int .u64 lo, .int .u64 y] h Q := by
  obtain ⟨l0, l1⟩ := hlo
  obtain ⟨y0, y1⟩ := hy
  refine hA.bodyR Try.func84 r84_ok (hA.alike _ _ _ rfl) hlow ?_; (try (conv => cbv)); repeat (refine brk_ok hA ?_; (try (conv => cbv)))
  refine br (y = 0) (by rw [e_eql hA]) (fun c => absurd c (by omega)) (fun c1 => ?_) <;> (try (conv => cbv)) <;> repeat (refine brk_ok hA ?_; (try (conv => cbv)))
  refine br (y ≤ hi) (by rw [e_leq hA]) (fun c => absurd c (by omega)) (fun c2 => ?_) <;> (try (conv => cbv)) <;> repeat (refine brk_ok hA ?_; (try (conv => cbv)))
  refine br (hi = 0) (by rw [e_eql hA]) (fun c3 => ?_) (fun c3 => ?_) <;> (try (conv => cbv)) <;> repeat (refine brk_ok hA ?_; (try (conv => cbv)))
  · obtain ⟨h9, hh9⟩ : ∃ z, z = bump h 8 := ⟨_, rfl⟩
    have e9 : Ext h h9 := by rw [hh9]; exact ext_bump hA _ _
    rw [← hh9]
    refine ⟨nz_ok hA (by omega), ?_⟩
    ((try (conv => cbv)); repeat (refine brk_ok hA ?_; (try (conv => cbv))))
    refine ⟨nz_ok hA (by omega), ?_⟩
    ((try (conv => cbv)); repeat (refine brk_ok hA ?_; (try (conv => cbv))))
    exact hQ _ _ (by rw [c3, quoU hA l0 l1 (by omega)]; simp) (by rw [c3, remU hA l0]; simp) h9 e9
  refine lz64_ok hA hlow ⟨y0, y1⟩ (by omega) (fun s s1 s2 s3 => ⟨_, rfl, ?_⟩)
  ((try (conv => cbv)); repeat (refine brk_ok hA ?_; (try (conv => cbv))))
  have ec : conv .u64 (Int.ofNat s) = (s : Int) := by
    show conv .u64 (s : Int) = _
    exact convU hA (by omega) (by omega)
  rw [ec]
  obtain ⟨σ, hσ⟩ : ∃ z : Int, z = s := ⟨_, rfl⟩
  rw [← hσ]
  refine ⟨geZ_ok hA (by omega), ?_⟩
  ((try (conv => cbv)); repeat (refine brk_ok hA ?_; (try (conv => cbv))))
  have hP : (0 : Int) < 2 ^ s := Int.pow_pos (by omega)
  obtain ⟨Y, hY⟩ : ∃ z, z = y * 2 ^ s := ⟨_, rfl⟩
  rw [← hY] at s2 s3
  have Y0' : 0 ≤ Y := Int.le_trans (by decide) s2
  have eY : arith .shl .u64 y σ = Y := by rw [shlU hA y s (by omega) hσ, ← hY]; exact Int.emod_eq_of_lt Y0' s3
  rw [eY]
  refine ⟨geZ_ok hA (by omega), ?_⟩
  ((try (conv => cbv)); repeat (refine brk_ok hA ?_; (try (conv => cbv))))
  obtain ⟨Y1, hY1⟩ : ∃ z, z = Y / 4294967296 := ⟨_, rfl⟩
  obtain ⟨Y0, hY0⟩ : ∃ z, z = Y % 4294967296 := ⟨_, rfl⟩
  rw [shr32 hA (a := Y) (by omega), mask32 hA (a := Y) (by omega) (by omega), ← hY1, ← hY0]
  refine ⟨geZ_ok hA (by omega), ?_⟩
  ((try (conv => cbv)); repeat (refine brk_ok hA ?_; (try (conv => cbv))))
  have eS : arith .sub .u64 64 σ = 64 - σ := subU hA (by omega) (by omega)
  rw [eS]
  obtain ⟨τ, hτ⟩ : ∃ z : Int, z = 64 - σ := ⟨_, rfl⟩
  rw [← hτ]
  refine ⟨geZ_ok hA (by omega), ?_⟩
  ((try (conv => cbv)); repeat (refine brk_ok hA ?_; (try (conv => cbv))))
  obtain ⟨sh1, sh2⟩ := shifted l0 (s := s) (by omega)
  have hlP : 0 ≤ lo / 2 ^ (64 - s) := Int.ediv_nonneg l0 (Int.le_of_lt (Int.pow_pos (by omega)))
  have hlP2 : lo / 2 ^ (64 - s) < 2 ^ s := by
    rw [← sh2, Int.ediv_lt_iff_lt_mul (by omega), Int.mul_comm]
    exact Int.mul_lt_mul_of_pos_left l1 hP
  have hiP : 0 ≤ hi * 2 ^ s := Int.mul_nonneg hhi (Int.le_of_lt hP)
  have hiY : hi * 2 ^ s + 2 ^ s ≤ Y := by
    have h1 : (hi + 1) * 2 ^ s ≤ y * 2 ^ s := Int.mul_le_mul_of_nonneg_right (by omega) (Int.le_of_lt hP)
    rw [Int.add_mul, Int.one_mul] at h1
    omega
  obtain ⟨U, hU⟩ : ∃ z, z = hi * 2 ^ s + lo / 2 ^ (64 - s) := ⟨_, rfl⟩
  have eH : arith .shl .u64 hi σ = hi * 2 ^ s := by rw [shlU hA hi s (by omega) hσ, Int.emod_eq_of_lt hiP (by omega)]
  have eL : arith .shr .u64 lo τ = lo / 2 ^ (64 - s) := shrU hA l0 (64 - s) (by omega) (by omega)
  have eU : arith .or .u64 (hi * 2 ^ s) (lo / 2 ^ (64 - s)) = U := by rw [orU hA s hhi hlP hlP2 (by omega), hU]
  rw [eH, eL, eU]
  refine ⟨geZ_ok hA (by omega), ?_⟩
  ((try (conv => cbv)); repeat (refine brk_ok hA ?_; (try (conv => cbv))))
  obtain ⟨L, hL⟩ : ∃ z, z = lo * 2 ^ s % 18446744073709551616 := ⟨_, rfl⟩
  have L0 : 0 ≤ L := by rw [hL]; exact Int.emod_nonneg _ (by omega)
  have L1 : L < 18446744073709551616 := by rw [hL]; exact Int.emod_lt_of_pos _ (by omega)
  rw [shlU hA lo s (by omega) hσ, ← hL]
  refine ⟨geZ_ok hA (by omega), ?_⟩
  ((try (conv => cbv)); repeat (refine brk_ok hA ?_; (try (conv => cbv))))
  obtain ⟨d1, hd1⟩ : ∃ z, z = L / 4294967296 := ⟨_, rfl⟩
  obtain ⟨d0, hd0⟩ : ∃ z, z = L % 4294967296 := ⟨_, rfl⟩
  rw [shr32 hA (a := L) L0, mask32 hA (a := L) L0 L1, ← hd1, ← hd0]
  have U0 : 0 ≤ U := by omega
  have UY : U < Y := by omega
  have Yp : 0 < Y := by omega
  have hYs : Y = Y1 * 4294967296 + Y0 := by omega
  refine ⟨nz_ok hA (by omega), ?_⟩
  ((try (conv => cbv)); repeat (refine brk_ok hA ?_; (try (conv => cbv))))
  obtain ⟨q, hq⟩ : ∃ z, z = U / Y1 := ⟨_, rfl⟩
  have q0 : 0 ≤ q := by rw [hq]; exact Int.ediv_nonneg U0 (by omega)
  have eq : arith .quo .u64 U Y1 = q := by rw [quoU hA U0 (by omega) (by omega), hq]
  rw [eq]
  have qm : q * Y1 + U % Y1 = U := by rw [hq, Int.mul_comm]; exact Int.mul_ediv_add_emod U Y1
  have qm0 : 0 ≤ U % Y1 := Int.emod_nonneg _ (by omega)
  have qm1 : U % Y1 < Y1 := Int.emod_lt_of_pos _ (by omega)
  have em : arith .mul .u64 q Y1 = q * Y1 := mulU hA (Int.mul_nonneg q0 (by omega)) (by omega)
  have es : arith .sub .u64 U (q * Y1) = U - q * Y1 := subU hA (by omega) (by omega)
  rw [em, es]
  obtain ⟨N1, hN1⟩ : ∃ z, z = U * 4294967296 + d1 := ⟨_, rfl⟩
  have n1 := dig_first hYs (by omega) (by omega) U0 (by omega) (by omega) hN1
  have n2 := dig_first_le hYs (by omega) (by omega) UY U0
  have n3 := dig_small Yp UY (by omega) hN1
  rw [← hq] at n1 n2
  obtain ⟨q1, hq1⟩ : ∃ z, z = N1 / Y := ⟨_, rfl⟩
  have N10 : 0 ≤ N1 := by omega
  have q10 : 0 ≤ q1 := by rw [hq1]; exact Int.ediv_nonneg N10 (by omega)
  obtain ⟨r0, hr0⟩ : ∃ z, z = U - q * Y1 := ⟨_, rfl⟩
  rw [← hr0]
  refine dig1_loop hA hYs (by omega) (by omega) (by omega) (by omega) Yp hN1 (by omega) (by omega) N10 n3 ?_ q.toNat q r0 (Nat.le_refl _) n1 n2 (by omega) (by omega) hr0
  rw [← hq1]
  ((try (conv => cbv)); repeat (refine brk_ok hA ?_; (try (conv => cbv))))
  have mY := Int.mul_ediv_add_emod N1 Y
  rw [← hq1] at mY
  have rY0 : 0 ≤ N1 % Y := Int.emod_nonneg _ (by omega)
  have rY1 : N1 % Y < Y := Int.emod_lt_of_pos _ Yp
  obtain ⟨V, hV⟩ : ∃ z, z = N1 % Y := ⟨_, rfl⟩
  rw [← hV] at mY rY0 rY1
  have ev : arith .sub .u64 (arith .add .u64 (arith .mul .u64 U 4294967296) d1) (arith .mul .u64 q1 Y) = V := by
    rw [subUm hA, addUm hA, mulUm hA, mulUm hA]
    exact rem_wrap hN1 mY rY0 (Int.lt_trans rY1 s3)
  rw [ev]
  refine ⟨nz_ok hA (by omega), ?_⟩
  ((try (conv => cbv)); repeat (refine brk_ok hA ?_; (try (conv => cbv))))
  obtain ⟨p, hp⟩ : ∃ z, z = V / Y1 := ⟨_, rfl⟩
  have p0 : 0 ≤ p := by rw [hp]; exact Int.ediv_nonneg rY0 (by omega)
  have ep : arith .quo .u64 V Y1 = p := by rw [quoU hA rY0 (by omega) (by omega), hp]
  rw [ep]
  have pm : p * Y1 + V % Y1 = V := by rw [hp, Int.mul_comm]; exact Int.mul_ediv_add_emod V Y1
  have pm0 : 0 ≤ V % Y1 := Int.emod_nonneg _ (by omega)
  have pm1 : V % Y1 < Y1 := Int.emod_lt_of_pos _ (by omega)
  have em2 : arith .mul .u64 p Y1 = p * Y1 := mulU hA (Int.mul_nonneg p0 (by omega)) (by omega)
  have es2 : arith .sub .u64 V (p * Y1) = V - p * Y1 := subU hA (by omega) (by omega)
  rw [em2, es2]
  obtain ⟨N2, hN2⟩ : ∃ z, z = V * 4294967296 + d0 := ⟨_, rfl⟩
  have k1 := dig_first hYs (by omega) (by omega) rY0 (by omega) (by omega) hN2
  have k2 := dig_first_le hYs (by omega) (by omega) rY1 rY0
  have k3 := dig_small Yp rY1 (by omega) hN2
  rw [← hp] at k1 k2
  obtain ⟨p1, hp1⟩ : ∃ z, z = N2 / Y := ⟨_, rfl⟩
  have N20 : 0 ≤ N2 := by omega
  have p10 : 0 ≤ p1 := by rw [hp1]; exact Int.ediv_nonneg N20 (by omega)
  obtain ⟨r1, hr1⟩ : ∃ z, z = V - p * Y1 := ⟨_, rfl⟩
  rw [← hr1]
  refine dig2_loop hA hYs (by omega) (by omega) (by omega) (by omega) Yp hN2 (by omega) (by omega) N20 k3 ?_ p.toNat p r1 (Nat.le_refl _) k1 k2 (by omega) (by omega) hr1
  rw [← hp1]
  ((try (conv => cbv)); repeat (refine brk_ok hA ?_; (try (conv => cbv))))
  refine ⟨geZ_ok hA (by omega), ?_⟩
  ((try (conv => cbv)); repeat (refine brk_ok hA ?_; (try (conv => cbv))))
  have mZ := Int.mul_ediv_add_emod N2 Y
  rw [← hp1] at mZ
  have zR0 : 0 ≤ N2 % Y := Int.emod_nonneg _ (by omega)
  have zR1 : N2 % Y < Y := Int.emod_lt_of_pos _ Yp
  have er : arith .sub .u64 (arith .add .u64 (arith .mul .u64 V 4294967296) d0) (arith .mul .u64 p1 Y) = N2 % Y := by
    rw [subUm hA, addUm hA, mulUm hA, mulUm hA]
    exact rem_wrap hN2 mZ zR0 (Int.lt_trans zR1 s3)
  have em3 : arith .mul .u64 q1 4294967296 = q1 * 4294967296 := mulU hA (by omega) (by omega)
  have ea3 : arith .add .u64 (q1 * 4294967296) p1 = q1 * 4294967296 + p1 := addU hA (by omega) (by omega)
  obtain ⟨t1, t2, t3⟩ := two_digits (u1 := 0) (N1 := N1) (y := Y) (q1 := q1) (q0 := p1) (u0 := d0) (N := N1 * 4294967296 + d0) Yp hq1 (by rw [hp1, hN2, hV]) rfl
  have hX : (hi * 18446744073709551616 + lo) * 2 ^ s = N1 * 4294967296 + d0 := by
    rw [Int.add_mul, sh1, ← hL, hN1]
    have : hi * 18446744073709551616 * 2 ^ s = hi * 2 ^ s * 18446744073709551616 := by grind
    rw [this]
    omega
  rw [t1, hY] at hX
  rw [hY] at t3
  obtain ⟨f1, f2⟩ := div_done hP (by omega) hX (by rw [hY] at t2; exact t2) t3
  refine hQ _ _ ?_ ?_ h (.refl h)
  · rw [em3, ea3]; exact f1
  · rw [er, shrU hA zR0 s (by omega) hσ, ← f2, hN2, hV, hY]

theorem rem64_ok {h : AHeap} (hlow : h.low ≤ h.next) {hi lo y : Int} (hhi : u64 hi) (hlo : u64 lo) (hy : u64 y) (hy0 : 0 < y) {Q : Value → AHeap → Prop}
    (hQ : ∀ r : Int, r = (hi * 18446744073709551616 + lo) % y → ∀ h', Ext h h' → Q (.int .u64 r) h') : call 83 [.int .u64 hi, .int .u64 lo, .int .u64 y] h Q := by
  refine hA.bodyR Try.func83 r83_ok (hA.alike _ _ _ rfl) hlow ?_; (try (conv => cbv)); repeat (refine brk_ok hA ?_; (try (conv => cbv)))
  refine ⟨nz_ok hA (by omega), ?_⟩
  ((try (conv => cbv)); repeat (refine brk_ok hA ?_; (try (conv => cbv))))
  rw [remU hA hhi.1]
  have m0 : 0 ≤ hi % y := Int.emod_nonneg _ (by omega)
  have m1 : hi % y < y := Int.emod_lt_of_pos _ hy0
  obtain ⟨k, hk⟩ : ∃ z, z = hi % y := ⟨_, rfl⟩
  rw [← hk] at m0 m1 ⊢
  refine div64_ok hA hlow m0 hlo hy m1 (fun q r hq hr h1 x1 => ⟨_, _, rfl, ?_⟩)
  ((try (conv => cbv)); repeat (refine brk_ok hA ?_; (try (conv => cbv))))
  refine hQ r ?_ h1 x1
  rw [hr, hk, Int.add_emod, Int.mul_emod, Int.emod_emod_of_dvd _ (Int.dvd_refl y), ← Int.mul_emod, ← Int.add_emod]

end Go.Proofs.Ytnokkniofajnhaa
