/-
  Make, of the program and of the reference.
-/
import Derived.Test.YtopppccddnplkaaONeeds
namespace Go.Proofs.Ytopppccddnplkaa
open Go.Sim
open Classical
set_option linter.unusedVariables false
set_option maxRecDepth 100000

/-- What Make answers. -/
def MakeIs (l : List Rec) (name : Str) (e : Int) (r : Bytes) : Prop :=
  (AllIs l e none ∧ r = []) ∨ (∃ ps, AllIs l 0 (some ps) ∧ idxOf l name = -1 ∧ e = 6 ∧ r = []) ∨ (∃ ps, AllIs l 0 (some ps) ∧ 0 ≤ idxOf l name ∧ e = 0 ∧ r = bat ps (idxOf l name))
theorem MakeIs.uniq {l : List Rec} {name : Str} {e e' : Int} {r r' : Bytes} (h : MakeIs l name e r) (h' : MakeIs l name e' r') : e = e' ∧ r = r' := by
  rcases h with ⟨a, rfl⟩ | ⟨ps, a, b, rfl, rfl⟩ | ⟨ps, a, b, rfl, rfl⟩ <;> rcases h' with ⟨a', rfl⟩ | ⟨ps', a', b', rfl, rfl⟩ | ⟨ps', a', b', rfl, rfl⟩
  · exact ⟨(a.uniq a').1, rfl⟩
  · cases (a.uniq a').2
  · cases (a.uniq a').2
  · cases (a.uniq a').2
  · exact ⟨rfl, rfl⟩
  · omega
  · cases (a.uniq a').2
  · omega
  · have := (a.uniq a').2
    cases this
    exact ⟨rfl, rfl⟩

theorem Alls.lens {d : List Rec} {ps : List Bytes} {l : List Rec} {e : Int} {o : Option (List Bytes)} (h : Alls d ps l e o) : ∀ qs, o = some qs → qs.length = ps.length + l.length := by
  induction h with
  | nil d ps => intro qs q; cases q; simp
  | twice a => intro qs q; cases q
  | lacks a b => intro qs q; cases q
  | bad a b c => intro qs q; cases q
  | big a b c q => intro qs q; cases q
  | go a b c q t ih => intro qs ho; have := ih qs ho; simp at this ⊢; omega
theorem AllIs.lens {l : List Rec} {e : Int} {ps : List Bytes} (h : AllIs l e (some ps)) : ps.length = l.length := by
  rcases h with ⟨_, _, q⟩ | ⟨_, q⟩
  · cases q
  · have := q.lens ps rfl; simpa using this

variable {call : FuncId → List Value → AHeap → (Value → AHeap → Prop) → Prop}
  {head : FuncId → Nat → Nat → SS → (Exit → SS → Prop) → Prop}
  {arith : BinOp → IntKind → Int → Int → Int}
  {cmp : BinOp → Int → Int → Bool}
  {scmp : BinOp → ByteArray → ByteArray → Bool}
  {bnot : Bool → Bool}
  {bsame : Bool → Bool → Bool}
  {conv : IntKind → Int → Int}
  {neg : IntKind → Int → Int}
  {imax : Int → Int → Int}
  {imin : Int → Int → Int}
  {ofNat : Nat → Int}
  {slen : ByteArray → Int}
  {place : Nat → Int → Nat → Nat}
  {inR : Int → Nat → Prop}
  {nz : Int → Prop}
  {geZ : Int → Prop}
  {rd : AHeap → Nat → Nat → Nat → List Value → Prop}
  {wr : AHeap → Nat → Nat → List Value → AHeap → Prop}
  {push : AHeap → Nat → List Value → AHeap}
  {next : AHeap → Nat}
  {mkOK : Int → Int → Prop}
  {nat : Int → Nat}
  {zeros : List Value → Int → List Value}
  {sadd : ByteArray → ByteArray → (ByteArray → Prop) → Prop}
  {eqAgg : TypeId → Array Value → Array Value → (Bool → Prop) → Prop}
  {cut : Nat → Int → Prop}
  {slc : TypeId → Value → Option Value → Option Value → Option Value → (Option Addr → Nat → Nat → Prop) → Prop}
  {sslc : TypeId → ByteArray → Option Value → Option Value → (ByteArray → Prop) → Prop}
  {strAt : ByteArray → Int → (Int → Prop) → Prop}
  {part : TypeId → Array Value → Nat → Value → Prop}
  {app : List TypeId → List Value → AHeap → (Option Addr → Nat → Nat → AHeap → Prop) → Prop}
  {cpy : List TypeId → List Value → AHeap → (Int → AHeap → Prop) → Prop}
  {putAt : AHeap → Nat → Nat → List Value → AHeap}
  {fresh : AHeap → AHeap}
  {lowered : AHeap → AHeap → AHeap}
  {bump : AHeap → Nat → AHeap}
  {wrote : AHeap → AHeap → Bool}
  {addN : Nat → Nat → Nat}
  {lt : Nat → Nat → Prop}
  {ne : Nat → Nat → Prop}
  {fpAll : Bool → Bool → Bool → Nat → Nat → Prop}
  {brk : (Unit → Prop) → Prop}
  {yn : Nat → Nat}
  {rng : FuncId → Nat → SS → (Exit → SS → Prop) → Prop}
  {mget : TypeId → Value → Value → AHeap → Value → Bool → Prop}
  {mput : TypeId → Value → Value → Value → AHeap → AHeap → Prop}
  {mnew : AHeap → AHeap}
  {bytes : TypeId → TypeId → Option Addr → Nat → AHeap → ByteArray → Prop}
  {clr : List TypeId → List Value → AHeap → AHeap → Prop}
  (hA : AOK progU hint prims ⟨call, head, arith, cmp, scmp, bnot, bsame, conv, neg, imax, imin, ofNat, slen, place, inR, nz, geZ, rd, wr, push, next, mkOK, nat, zeros, sadd, eqAgg, cut, slc, sslc, strAt, part, app, cpy, putAt, fresh, lowered, bump, wrote, addN, lt, ne, fpAll, brk, yn, rng, mget, mput, mnew, bytes, clr⟩)
include hA

theorem make_ok {h : AHeap} (hlow : h.low ≤ h.next) {al : Option Addr} {nl cl : Nat} {l : List Rec} (hl : Recs h al nl l) (hok : l.length ≤ 40 → okL l) {name : Str} {Q : Value → AHeap → Prop}
    (hQ : ∀ a n c e r h', Ext h h' → BMem h' h.next a n c r → MakeIs l name e r → Q (.tuple #[.slice a n c, .int .i64 e]) h') : call 13 [.slice al nl cl, .string name] h Q := by
  have bt : bnot true = false := by rw [e_bnot hA]; rfl
  have bf : bnot false = true := by rw [e_bnot hA]; rfl
  refine hA.bodyR Try.func13 r13_ok (show prims _ _ _ = none from rfl) hlow ?_; (try (conv => cbv)); repeat (refine brk_ok hA ?_; (try (conv => cbv)))
  refine prods_ok hA hlow hl hok (fun M ps h1 e1 hp ha hM => ⟨_, _, rfl, ?_⟩) (fun e h1 e1 ha => ⟨_, _, rfl, ?_⟩)
  rotate_left
  · ((try (conv => cbv)); repeat (refine brk_ok hA ?_; (try (conv => cbv))))
    have he : e ≠ 0 := fun q => by have := ha.zero.1 q; exact this rfl
    refine br (e ≠ 0) (by rw [e_neq hA]) (fun _ => ?_) (fun q => absurd he q) <;> (try (conv => cbv)) <;> repeat (refine brk_ok hA ?_; (try (conv => cbv)))
    exact hQ _ _ _ _ _ h1 e1 (.inl ⟨rfl, rfl, rfl, rfl⟩) (.inl ⟨ha, rfl⟩)
  ((try (conv => cbv)); repeat (refine brk_ok hA ?_; (try (conv => cbv))))
  refine br (False) (by rw [e_neq hA]; rfl) (fun q => q.elim) (fun _ => ?_) <;> (try (conv => cbv)) <;> repeat (refine brk_ok hA ?_; (try (conv => cbv)))
  obtain ⟨ga, gn, gc, gb, g1, g2⟩ := mget_ok hA hp name
  refine ⟨ga, gn, gc, gb, g1, ?_⟩
  rcases g2 with ⟨rfl, g2, g3⟩ | ⟨rfl, g2⟩
  rotate_left
  · ((try (conv => cbv)); repeat (refine brk_ok hA ?_; (try (conv => cbv))))
    rw [bf]
    ((try (conv => cbv)); repeat (refine brk_ok hA ?_; (try (conv => cbv))))
    exact hQ _ _ _ _ _ h1 e1 (.inl ⟨rfl, rfl, rfl, rfl⟩) (.inr (.inl ⟨ps, ha, g2, rfl, rfl⟩))
  ((try (conv => cbv)); repeat (refine brk_ok hA ?_; (try (conv => cbv))))
  rw [bt]
  ((try (conv => cbv)); repeat (refine brk_ok hA ?_; (try (conv => cbv))))
  exact hQ _ _ _ _ _ h1 e1 g3 (.inr (.inr ⟨ps, ha, g2, rfl, rfl⟩))

theorem rmake_ok {h : AHeap} (hlow : h.low ≤ h.next) {al : Option Addr} {nl cl : Nat} {l : List Rec} (hl : Recs h al nl l) (hcap : nl ≤ capLow cl) (hok : l.length ≤ 40 → okL l) {name : Str} {Q : Value → AHeap → Prop}
    (hQ : ∀ a n c e r h', Ext h h' → Byts h' a n c r → MakeIs l name e r → Q (.tuple #[.slice a n c, .int .i64 e]) h') : call 14 [.slice al nl cl, .string name] h Q := by
  have hll := hl.len
  refine hA.bodyR Try.func14 r14_ok (show prims _ _ _ = none from rfl) hlow ?_; (try (conv => cbv)); repeat (refine brk_ok hA ?_; (try (conv => cbv)))
  refine rall_ok hA hlow hl hcap hok (fun a n c ps h1 e1 ho ha => ⟨_, _, _, _, rfl, ?_⟩) (fun e h1 e1 ha => ⟨_, _, _, _, rfl, ?_⟩)
  rotate_left
  · ((try (conv => cbv)); repeat (refine brk_ok hA ?_; (try (conv => cbv))))
    have he : e ≠ 0 := fun q => by have := ha.zero.1 q; exact this rfl
    refine br (e ≠ 0) (by rw [e_neq hA]) (fun _ => ?_) (fun q => absurd he q) <;> (try (conv => cbv)) <;> repeat (refine brk_ok hA ?_; (try (conv => cbv)))
    exact hQ _ _ _ _ _ h1 e1 (Byts.nil h1) (.inl ⟨ha, rfl⟩)
  ((try (conv => cbv)); repeat (refine brk_ok hA ?_; (try (conv => cbv))))
  refine br (False) (by rw [e_neq hA]; rfl) (fun q => q.elim) (fun _ => ?_) <;> (try (conv => cbv)) <;> repeat (refine brk_ok hA ?_; (try (conv => cbv)))
  obtain ⟨pv, hform, h40⟩ := ha.prov
  refine idx_ok hA (e1.lowOK hlow) (hl.ext e1) (by omega) (fun i0 hi0 => ⟨_, rfl, ?_⟩)
  ((try (conv => cbv)); repeat (refine brk_ok hA ?_; (try (conv => cbv))))
  have hic := idx_cases l name
  refine br (i0 < 0) (by rw [e_lss hA]) (fun c2 => ?_) (fun c2 => ?_) <;> (try (conv => cbv)) <;> repeat (refine brk_ok hA ?_; (try (conv => cbv)))
  · refine hQ _ _ _ _ _ h1 e1 (Byts.nil h1) (.inr (.inl ⟨ps, ha, ?_, rfl, rfl⟩))
    rcases hic with ⟨q, _⟩ | ⟨q, _⟩ <;> omega
  have hpl := ho.len
  have hps : ps.length = l.length := ha.lens
  have hi1 : i0 < n := by rcases hic with ⟨q, _⟩ | ⟨_, q, _⟩ <;> omega
  obtain ⟨b, o, ra, rn, rc, hae, hbn, hrd, hby⟩ := ho.lists.at (i := i0) (by omega) hi1
  refine ⟨b, o, hae, in_ok hA (by omega) hi1, ?_⟩
  ((try (conv => cbv)); repeat (refine brk_ok hA ?_; (try (conv => cbv))))
  refine ⟨ra, rn, rc, rd_ok hA hrd, ?_⟩
  ((try (conv => cbv)); repeat (refine brk_ok hA ?_; (try (conv => cbv))))
  rw [hi0] at hby c2
  exact hQ _ _ _ _ _ h1 e1 hby (.inr (.inr ⟨ps, ha, by omega, rfl, rfl⟩))

end Go.Proofs.Ytopppccddnplkaa
