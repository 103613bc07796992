/-
  fringeref01: Make.
-/
import Derived.Test.YtnokkniofajnhaaFracW
import Derived.Test.YtnokkniofajnhaaFracE
namespace Go.Proofs.Ytnokkniofajnhaa
open Go.Sim
set_option linter.unusedVariables false
set_option maxRecDepth 100000

theorem dig_big {n a b : Int} (hn : u64 n) (ha : a = n % 4294967296) (hb : b = n / 4294967296) : Dig4 n a b 0 0 := by
  obtain ⟨n0, n1⟩ := hn
  exact ⟨by omega, by omega, by omega, by omega, by omega⟩

variable {F : Prims}
  {call : FuncId → List Value → AHeap → (Value → AHeap → Prop) → Prop}
  {head : FuncId → Nat → Nat → SS → (Exit → SS → Prop) → Prop}
  {arith : BinOp → IntKind → Int → Int → Int}
  {cmp : BinOp → Int → Int → Bool}
  {scmp : BinOp → ByteArray → ByteArray → Bool}
  {bnot : Bool → Bool}
  {bsame : Bool → Bool → Bool}
  {conv : IntKind → Int → Int}
  {neg : IntKind → Int → Int}
  {imax : Int → Int → Int}
  {imin : Int → Int → Int}
  {ofNat : Nat → Int}
  {slen : ByteArray → Int}
  {place : Nat → Int → Nat → Nat}
  {inR : Int → Nat → Prop}
  {nz : Int → Prop}
  {geZ : Int → Prop}
  {rd : AHeap → Nat → Nat → Nat → List Value → Prop}
  {wr : AHeap → Nat → Nat → List Value → AHeap → Prop}
  {push : AHeap → Nat → List Value → AHeap}
  {next : AHeap → Nat}
  {mkOK : Int → Int → Prop}
  {nat : Int → Nat}
  {zeros : List Value → Int → List Value}
  {sadd : ByteArray → ByteArray → (ByteArray → Prop) → Prop}
  {eqAgg : TypeId → Array Value → Array Value → (Bool → Prop) → Prop}
  {cut : Nat → Int → Prop}
  {slc : TypeId → Value → Option Value → Option Value → Option Value → (Option Addr → Nat → Nat → Prop) → Prop}
  {sslc : TypeId → ByteArray → Option Value → Option Value → (ByteArray → Prop) → Prop}
  {strAt : ByteArray → Int → (Int → Prop) → Prop}
  {part : TypeId → Array Value → Nat → Value → Prop}
  {app : List TypeId → List Value → AHeap → (Option Addr → Nat → Nat → AHeap → Prop) → Prop}
  {cpy : List TypeId → List Value → AHeap → (Int → AHeap → Prop) → Prop}
  {putAt : AHeap → Nat → Nat → List Value → AHeap}
  {fresh : AHeap → AHeap}
  {lowered : AHeap → AHeap → AHeap}
  {bump : AHeap → Nat → AHeap}
  {wrote : AHeap → AHeap → Bool}
  {addN : Nat → Nat → Nat}
  {lt : Nat → Nat → Prop}
  {ne : Nat → Nat → Prop}
  {fpAll : Bool → Bool → Bool → Nat → Nat → Prop}
  {brk : (Unit → Prop) → Prop}
  {yn : Nat → Nat}
  {rng : FuncId → Nat → SS → (Exit → SS → Prop) → Prop}
  {mget : TypeId → Value → Value → AHeap → Value → Bool → Prop}
  {mput : TypeId → Value → Value → Value → AHeap → AHeap → Prop}
  {mnew : AHeap → AHeap}
  {bytes : TypeId → TypeId → Option Addr → Nat → AHeap → ByteArray → Prop}
  {clr : List TypeId → List Value → AHeap → AHeap → Prop}
  (hA : AP F ⟨call, head, arith, cmp, scmp, bnot, bsame, conv, neg, imax, imin, ofNat, slen, place, inR, nz, geZ, rd, wr, push, next, mkOK, nat, zeros, sadd, eqAgg, cut, slc, sslc, strAt, part, app, cpy, putAt, fresh, lowered, bump, wrote, addN, lt, ne, fpAll, brk, yn, rng, mget, mput, mnew, bytes, clr⟩)
include hA

theorem rmake_ok {h : AHeap} (hlow : h.low ≤ h.next) {n d : Int} (hn : i64 n) (hd : i64 d) {Q : Value → AHeap → Prop}
    (hQ : ∀ n' d' e, (d = 0 ∧ n' = 0 ∧ d' = 0 ∧ e = 18) ∨ (d ≠ 0 ∧ outF ((n : Rat) / (d : Rat)) n' d' e) → ∀ h', Ext h h' → Q (.tuple #[.agg #[.int .i64 n', .int .i64 d'], .int .i64 e]) h') : call 31 [.int .i64 n, .int .i64 d] h Q := by
  refine hA.bodyR Try.func31 r31_ok (hA.alike _ _ _ rfl) hlow ?_; (try (conv => cbv)); repeat (refine brk_ok hA ?_; (try (conv => cbv)))
  refine br (d = 0) (by rw [e_eql hA]) (fun c1 => ?_) (fun c1 => ?_) <;> (try (conv => cbv)) <;> repeat (refine brk_ok hA ?_; (try (conv => cbv)))
  · exact hQ _ _ _ (.inl ⟨c1, rfl, rfl, rfl⟩) h (.refl h)
  refine rabs_ok hA hlow hn (fun s hs => ⟨_, rfl, ?_⟩)
  ((try (conv => cbv)); repeat (refine brk_ok hA ?_; (try (conv => cbv))))
  refine rabs_ok hA hlow hd (fun t ht => ⟨_, rfl, ?_⟩)
  ((try (conv => cbv)); repeat (refine brk_ok hA ?_; (try (conv => cbv))))
  unfold i64 at hn hd
  refine rgcd_ok hA hlow (by unfold u64; omega) (by unfold u64; omega) (fun g hg h2 x2 => ⟨_, rfl, ?_⟩)
  ((try (conv => cbv)); repeat (refine brk_ok hA ?_; (try (conv => cbv))))
  have hgg : g = Int.gcd n d := by rw [hg, hs, ht]; rfl
  obtain ⟨mi, hmi⟩ : ∃ z, z = bnot (bsame (cmp .lss n 0) (cmp .lss d 0)) := ⟨_, rfl⟩
  have hs2 := signs_ok hA n d
  rw [← hmi] at hs2 ⊢
  obtain ⟨k1, k2, k3, k4⟩ := make_prog c1 hgg hs2
  have l2 := x2.lowOK hlow
  have us : u64 (n.natAbs : Int) := by unfold u64; omega
  have ut : u64 (d.natAbs : Int) := by unfold u64; omega
  have v1 := div_u64 us k3
  have v2 := div_u64 ut k3
  refine rabs_ok hA l2 hn (fun s' hs' => ⟨_, rfl, ?_⟩)
  rw [← hs'] at k1 us v1
  ((try (conv => cbv)); repeat (refine brk_ok hA ?_; (try (conv => cbv))))
  refine ⟨nz_ok hA (by omega), ?_⟩
  ((try (conv => cbv)); repeat (refine brk_ok hA ?_; (try (conv => cbv))))
  rw [quoU hA us.1 us.2 k3]
  obtain ⟨N, hN⟩ : ∃ z, z = s' / g := ⟨_, rfl⟩
  rw [← hN] at k1 v1 ⊢
  refine big_ok hA l2 v1 (fun a0 a1 ha0 ha1 => ⟨_, _, _, _, rfl, ?_⟩)
  ((try (conv => cbv)); repeat (refine brk_ok hA ?_; (try (conv => cbv))))
  refine rabs_ok hA l2 hd (fun t' ht' => ⟨_, rfl, ?_⟩)
  rw [← ht'] at k2 ut v2
  ((try (conv => cbv)); repeat (refine brk_ok hA ?_; (try (conv => cbv))))
  refine ⟨nz_ok hA (by omega), ?_⟩
  ((try (conv => cbv)); repeat (refine brk_ok hA ?_; (try (conv => cbv))))
  rw [quoU hA ut.1 ut.2 k3]
  obtain ⟨D, hD⟩ : ∃ z, z = t' / g := ⟨_, rfl⟩
  rw [← hD] at k2 v2 ⊢
  refine big_ok hA l2 v2 (fun b0 b1 hb0 hb1 => ⟨_, _, _, _, rfl, ?_⟩)
  ((try (conv => cbv)); repeat (refine brk_ok hA ?_; (try (conv => cbv))))
  refine lowest_ok hA l2 (dig_big v1 ha0 ha1) (dig_big v2 hb0 hb1) k1 k2 (fun n' d' e h3 ho x3 => ⟨_, _, _, rfl, ?_⟩)
  ((try (conv => cbv)); repeat (refine brk_ok hA ?_; (try (conv => cbv))))
  exact hQ n' d' e (.inr ⟨c1, ho⟩) _ (x2.trans x3)

end Go.Proofs.Ytnokkniofajnhaa
