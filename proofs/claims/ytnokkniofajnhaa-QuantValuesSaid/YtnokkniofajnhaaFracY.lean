/-
  fringeref01: Mul, Div.
-/
import Derived.Test.YtnokkniofajnhaaFracX
namespace Go.Proofs.Ytnokkniofajnhaa
open Go.Sim
set_option linter.unusedVariables false
set_option maxRecDepth 100000

variable {F : Prims}
  {call : FuncId → List Value → AHeap → (Value → AHeap → Prop) → Prop}
  {head : FuncId → Nat → Nat → SS → (Exit → SS → Prop) → Prop}
  {arith : BinOp → IntKind → Int → Int → Int}
  {cmp : BinOp → Int → Int → Bool}
  {scmp : BinOp → ByteArray → ByteArray → Bool}
  {bnot : Bool → Bool}
  {bsame : Bool → Bool → Bool}
  {conv : IntKind → Int → Int}
  {neg : IntKind → Int → Int}
  {imax : Int → Int → Int}
  {imin : Int → Int → Int}
  {ofNat : Nat → Int}
  {slen : ByteArray → Int}
  {place : Nat → Int → Nat → Nat}
  {inR : Int → Nat → Prop}
  {nz : Int → Prop}
  {geZ : Int → Prop}
  {rd : AHeap → Nat → Nat → Nat → List Value → Prop}
  {wr : AHeap → Nat → Nat → List Value → AHeap → Prop}
  {push : AHeap → Nat → List Value → AHeap}
  {next : AHeap → Nat}
  {mkOK : Int → Int → Prop}
  {nat : Int → Nat}
  {zeros : List Value → Int → List Value}
  {sadd : ByteArray → ByteArray → (ByteArray → Prop) → Prop}
  {eqAgg : TypeId → Array Value → Array Value → (Bool → Prop) → Prop}
  {cut : Nat → Int → Prop}
  {slc : TypeId → Value → Option Value → Option Value → Option Value → (Option Addr → Nat → Nat → Prop) → Prop}
  {sslc : TypeId → ByteArray → Option Value → Option Value → (ByteArray → Prop) → Prop}
  {strAt : ByteArray → Int → (Int → Prop) → Prop}
  {part : TypeId → Array Value → Nat → Value → Prop}
  {app : List TypeId → List Value → AHeap → (Option Addr → Nat → Nat → AHeap → Prop) → Prop}
  {cpy : List TypeId → List Value → AHeap → (Int → AHeap → Prop) → Prop}
  {putAt : AHeap → Nat → Nat → List Value → AHeap}
  {fresh : AHeap → AHeap}
  {lowered : AHeap → AHeap → AHeap}
  {bump : AHeap → Nat → AHeap}
  {wrote : AHeap → AHeap → Bool}
  {addN : Nat → Nat → Nat}
  {lt : Nat → Nat → Prop}
  {ne : Nat → Nat → Prop}
  {fpAll : Bool → Bool → Bool → Nat → Nat → Prop}
  {brk : (Unit → Prop) → Prop}
  {yn : Nat → Nat}
  {rng : FuncId → Nat → SS → (Exit → SS → Prop) → Prop}
  {mget : TypeId → Value → Value → AHeap → Value → Bool → Prop}
  {mput : TypeId → Value → Value → Value → AHeap → AHeap → Prop}
  {mnew : AHeap → AHeap}
  {bytes : TypeId → TypeId → Option Addr → Nat → AHeap → ByteArray → Prop}
  {clr : List TypeId → List Value → AHeap → AHeap → Prop}
  (hA : AP F ⟨call, head, arith, cmp, scmp, bnot, bsame, conv, neg, imax, imin, ofNat, slen, place, inR, nz, geZ, rd, wr, push, next, mkOK, nat, zeros, sadd, eqAgg, cut, slc, sslc, strAt, part, app, cpy, putAt, fresh, lowered, bump, wrote, addN, lt, ne, fpAll, brk, yn, rng, mget, mput, mnew, bytes, clr⟩)
include hA

theorem rmul_ok {h : AHeap} (hlow : h.low ≤ h.next) {n d m e : Int} (hn : i64 n) (hd : i64 d) (hm : i64 m) (he : i64 e) {Q : Value → AHeap → Prop}
    (hQ : ∀ a b r, OpIs (· * ·) n d m e a b r → ∀ h', Ext h h' → Q (.tuple #[.agg #[.int .i64 a, .int .i64 b], .int .i64 r]) h') : call 67 [.agg #[.int .i64 n, .int .i64 d], .agg #[.int .i64 m, .int .i64 e]] h Q := by
  refine hA.bodyR Try.func67 r67_ok (hA.alike _ _ _ rfl) hlow ?_; (try (conv => cbv)); repeat (refine brk_ok hA ?_; (try (conv => cbv)))
  refine rboth_ok hA hlow hn hd hm he (fun r1 h1 k1 x1 => ⟨_, rfl, ?_⟩)
  ((try (conv => cbv)); repeat (refine brk_ok hA ?_; (try (conv => cbv))))
  refine br (r1 ≠ 0) (by rw [e_neq hA]) (fun c1 => ?_) (fun c1 => ?_) <;> (try (conv => cbv)) <;> repeat (refine brk_ok hA ?_; (try (conv => cbv)))
  · refine rboth_ok hA (x1.lowOK hlow) hn hd hm he (fun r3 h3 k3 x3 => ⟨_, rfl, ?_⟩)
    ((try (conv => cbv)); repeat (refine brk_ok hA ?_; (try (conv => cbv))))
    rcases k1 with ⟨q, _⟩ | ⟨rfl, q⟩
    · exact absurd q c1
    · rcases k3 with ⟨_, q3⟩ | ⟨rfl, _⟩
      · exact absurd q3 q
      · exact hQ _ _ _ (.inl ⟨q, rfl, rfl, rfl⟩) _ (x1.trans x3)
  rcases k1 with ⟨_, ⟨p, hp⟩, q, hq⟩ | ⟨q, _⟩
  rotate_left
  · omega
  have hl1 := x1.lowOK hlow
  have in64 := hp.i64n
  have im64 := hq.i64n
  have ie64 := hq.i64d
  have id64 := hp.i64d
  have pd := hp.den
  have qd := hq.den
  have ud : u64 d := by unfold u64; unfold i64 at id64; omega
  have ue : u64 e := by unfold u64; unfold i64 at ie64; omega
  obtain ⟨h9, hh9⟩ : ∃ z, z = bump h1 16 := ⟨_, rfl⟩
  have e9 : Ext h h9 := by rw [hh9]; exact x1.trans (ext_bump hA _ _)
  have l9 := e9.lowOK hlow
  rw [← hh9]
  ((try (conv => cbv)); repeat (refine brk_ok hA ?_; (try (conv => cbv))))
  rw [convU hA ud.1 ud.2, convU hA ue.1 ue.2]
  refine rabs_ok hA (low_fresh hA h9) in64 (fun s1 hs1 => ⟨_, rfl, ?_⟩)
  ((try (conv => cbv)); repeat (refine brk_ok hA ?_; (try (conv => cbv))))
  rw [low_same hA l9]
  have z1 : u64 s1 := by unfold u64; unfold i64 at in64; omega
  refine rgcd_ok hA (low_fresh hA h9) z1 ue (fun g hg ha ea => ⟨_, rfl, ?_⟩)
  ((try (conv => cbv)); repeat (refine brk_ok hA ?_; (try (conv => cbv))))
  obtain ⟨hX, hhX⟩ : ∃ z, z = lowered h9 ha := ⟨_, rfl⟩
  have eX : Ext h hX := by rw [hhX]; exact ext_low hA hlow e9 ea
  have lX := eX.lowOK hlow
  rw [← hhX]
  refine rabs_ok hA (low_fresh hA hX) im64 (fun s2 hs2 => ⟨_, rfl, ?_⟩)
  ((try (conv => cbv)); repeat (refine brk_ok hA ?_; (try (conv => cbv))))
  rw [low_same hA lX]
  have z2 : u64 s2 := by unfold u64; unfold i64 at im64; omega
  refine rgcd_ok hA (low_fresh hA hX) z2 ud (fun k hk hb eb => ⟨_, rfl, ?_⟩)
  ((try (conv => cbv)); repeat (refine brk_ok hA ?_; (try (conv => cbv))))
  obtain ⟨hY, hhY⟩ : ∃ z, z = lowered hX hb := ⟨_, rfl⟩
  have eY : Ext h hY := by rw [hhY]; exact ext_low hA hlow eX eb
  have lY := eY.lowOK hlow
  rw [← hhY]
  ((try (conv => cbv)); repeat (refine brk_ok hA ?_; (try (conv => cbv))))
  obtain ⟨h10, hh10⟩ : ∃ z, z = bump hY 34 := ⟨_, rfl⟩
  have e10 : Ext h h10 := by rw [hh10]; exact eY.trans (ext_bump hA _ _)
  have l10 := e10.lowOK hlow
  rw [← hh10]
  obtain ⟨mi, hmi⟩ : ∃ z, z = bnot (bsame (cmp .lss n 0) (cmp .lss m 0)) := ⟨_, rfl⟩
  have hs2' := signs_ok hA n m
  rw [← hmi] at hs2' ⊢
  obtain ⟨k1, k2, k3, k4, k5, k6⟩ := mul_prog hp hq (g := g) (h := k) (by rw [hg, hs1]) (by rw [hk, hs2]) hs2'
  rw [← hs1, ← hs2] at k1
  have cd : conv .u64 d = d := convU hA ud.1 ud.2
  have ce : conv .u64 e = e := convU hA ue.1 ue.2
  rw [cd]
  have w1 : arith .quo .u64 s1 g = s1 / g := quoU hA z1.1 z1.2 k3
  have w2 : arith .quo .u64 s2 k = s2 / k := quoU hA z2.1 z2.2 k5
  have w3 : arith .quo .u64 d k = d / k := quoU hA ud.1 ud.2 k5
  have w4 : arith .quo .u64 e g = e / g := quoU hA ue.1 ue.2 k3
  have v1 := div_u64 z1 k3
  have v2 := div_u64 z2 k5
  have v3 := div_u64 ud k5
  have v4 := div_u64 ue k3
  generalize s1 / g = q1 at *
  generalize s2 / k = q2 at *
  generalize d / k = q3 at *
  generalize e / g = q4 at *
  refine ⟨nz_ok hA (by omega), ?_⟩
  ((try (conv => cbv)); repeat (refine brk_ok hA ?_; (try (conv => cbv))))
  rw [ce, w3]
  refine ⟨nz_ok hA (by omega), ?_⟩
  ((try (conv => cbv)); repeat (refine brk_ok hA ?_; (try (conv => cbv))))
  rw [w4]
  refine rabs_ok hA (low_fresh hA h10) in64 (fun s3 hs3 => ⟨_, rfl, ?_⟩)
  rw [← hs1] at hs3
  subst hs3
  ((try (conv => cbv)); repeat (refine brk_ok hA ?_; (try (conv => cbv))))
  rw [low_same hA l10]
  refine ⟨nz_ok hA (by omega), ?_⟩
  ((try (conv => cbv)); repeat (refine brk_ok hA ?_; (try (conv => cbv))))
  rw [w1]
  refine rabs_ok hA (low_fresh hA h10) im64 (fun s4 hs4 => ⟨_, rfl, ?_⟩)
  rw [← hs2] at hs4
  subst hs4
  ((try (conv => cbv)); repeat (refine brk_ok hA ?_; (try (conv => cbv))))
  rw [low_same hA l10]
  refine ⟨nz_ok hA (by omega), ?_⟩
  ((try (conv => cbv)); repeat (refine brk_ok hA ?_; (try (conv => cbv))))
  rw [w2]
  refine product4_ok hA (low_fresh hA h10) v1 v2 (fun a0 a1 a2 a3 hz dz ez => ⟨_, _, _, _, rfl, ?_⟩)
  ((try (conv => cbv)); repeat (refine brk_ok hA ?_; (try (conv => cbv))))
  obtain ⟨hZ, hhZ⟩ : ∃ z, z = lowered h10 hz := ⟨_, rfl⟩
  have eZ : Ext h hZ := by rw [hhZ]; exact ext_low hA hlow e10 ez
  have lZ := eZ.lowOK hlow
  rw [← hhZ]
  refine product4_ok hA (low_fresh hA hZ) v3 v4 (fun b0 b1 b2 b3 hw dw ew => ⟨_, _, _, _, rfl, ?_⟩)
  ((try (conv => cbv)); repeat (refine brk_ok hA ?_; (try (conv => cbv))))
  obtain ⟨hW, hhW⟩ : ∃ z, z = lowered hZ hw := ⟨_, rfl⟩
  have eW : Ext h hW := by rw [hhW]; exact ext_low hA hlow eZ ew
  have lW := eW.lowOK hlow
  rw [← hhW]
  refine lowest_ok hA (low_fresh hA hW) dz dw k1 k2 (fun n' d' e' hv ho xv => ⟨_, _, _, rfl, ?_⟩)
  ((try (conv => cbv)); repeat ((first | refine brk_ok hA ?_ | refine ⟨in_ok hA (by omega) (by omega), ?_⟩ | refine ⟨nz_ok hA (by omega), ?_⟩ | refine ⟨geZ_ok hA (by omega), ?_⟩ | refine ⟨ne_ok hA (by omega), ?_⟩ | refine ⟨wrote_no hA (by assumption), ?_⟩ | refine ⟨wrote_no hA (.refl _), ?_⟩ | refine ⟨_, ‹rd _ _ _ _ _›, ?_⟩ | refine ⟨_, ‹wr _ _ _ _ _›, ?_⟩); (try (conv => cbv))))
  exact hQ n' d' e' (.inr ⟨p, q, hp, hq, ho⟩) _ (ext_low hA hlow eW xv)

theorem rdiv_ok {h : AHeap} (hlow : h.low ≤ h.next) {n d m e : Int} (hn : i64 n) (hd : i64 d) (hm : i64 m) (he : i64 e) {Q : Value → AHeap → Prop}
    (hQ : ∀ a b r, DivIs n d m e a b r → ∀ h', Ext h h' → Q (.tuple #[.agg #[.int .i64 a, .int .i64 b], .int .i64 r]) h') : call 45 [.agg #[.int .i64 n, .int .i64 d], .agg #[.int .i64 m, .int .i64 e]] h Q := by
  refine hA.bodyR Try.func45 r45_ok (hA.alike _ _ _ rfl) hlow ?_; (try (conv => cbv)); repeat (refine brk_ok hA ?_; (try (conv => cbv)))
  refine rboth_ok hA hlow hn hd hm he (fun r1 h1 k1 x1 => ⟨_, rfl, ?_⟩)
  ((try (conv => cbv)); repeat (refine brk_ok hA ?_; (try (conv => cbv))))
  refine br (r1 ≠ 0) (by rw [e_neq hA]) (fun c1 => ?_) (fun c1 => ?_) <;> (try (conv => cbv)) <;> repeat (refine brk_ok hA ?_; (try (conv => cbv)))
  · refine rboth_ok hA (x1.lowOK hlow) hn hd hm he (fun r3 h3 k3 x3 => ⟨_, rfl, ?_⟩)
    ((try (conv => cbv)); repeat (refine brk_ok hA ?_; (try (conv => cbv))))
    rcases k1 with ⟨q, _⟩ | ⟨rfl, q⟩
    · exact absurd q c1
    · rcases k3 with ⟨_, q3⟩ | ⟨rfl, _⟩
      · exact absurd q3 q
      · exact hQ _ _ _ (.inl ⟨q, rfl, rfl, rfl⟩) _ (x1.trans x3)
  rcases k1 with ⟨_, ⟨p, hp⟩, q, hq⟩ | ⟨q, _⟩
  rotate_left
  · omega
  have hl1 := x1.lowOK hlow
  refine br (m = 0) (by rw [e_eql hA]) (fun c2 => ?_) (fun c2 => ?_) <;> (try (conv => cbv)) <;> repeat (refine brk_ok hA ?_; (try (conv => cbv)))
  · exact hQ _ _ _ (.inr (.inl ⟨⟨p, hp⟩, ⟨q, hq⟩, c2, rfl, rfl, rfl⟩)) _ x1
  have hi := hq.inv c2
  have q1 := hq.i64n
  have q2 := hq.i64d
  have q3 := hq.den
  have fin : ∀ n' d', isF n' d' q⁻¹ → ∀ a b r h', OpIs (· * ·) n d n' d' a b r → Ext h1 h' → Q (.tuple #[.agg #[.int .i64 a, .int .i64 b], .int .i64 r]) h' := by
    intro n' d' hi a b r h' ho xx
    rcases ho with ⟨w, _⟩ | ⟨p', q', hp', hq', ho⟩
    · exact absurd ⟨⟨p, hp⟩, ⟨q⁻¹, hi⟩⟩ w
    · obtain rfl := hp.uniq hp'
      obtain rfl := hi.uniq hq'
      exact hQ a b r (.inr (.inr ⟨p, q, hp, hq, c2, by rw [Rat.div_def]; exact ho⟩)) _ (x1.trans xx)
  refine br (m < 0) (by rw [e_lss hA]) (fun c3 => ?_) (fun c3 => ?_) <;> (try (conv => cbv)) <;> repeat (refine brk_ok hA ?_; (try (conv => cbv)))
  · rw [if_pos c3, if_pos c3] at hi
    have e1 : neg .i64 e = -e := by rw [e_neg hA, wrap64 (by unfold i64 at q2; omega) (by unfold i64 at q2; omega)]; omega
    have e2 : neg .i64 m = -m := by
      obtain ⟨_, _, h1, _⟩ := hq
      rw [e_neg hA, wrap64 (by omega) (by omega)]; omega
    rw [e1, e2]
    refine rmul_ok hA hl1 hn hd hi.i64n hi.i64d (fun a b r ho h2 x2 => ⟨_, _, _, rfl, ?_⟩)
    ((try (conv => cbv)); repeat (refine brk_ok hA ?_; (try (conv => cbv))))
    exact fin _ _ hi a b r h2 ho x2
  · rw [if_neg c3, if_neg c3] at hi
    refine rmul_ok hA hl1 hn hd hi.i64n hi.i64d (fun a b r ho h2 x2 => ⟨_, _, _, rfl, ?_⟩)
    ((try (conv => cbv)); repeat (refine brk_ok hA ?_; (try (conv => cbv))))
    exact fin _ _ hi a b r h2 ho x2

end Go.Proofs.Ytnokkniofajnhaa
