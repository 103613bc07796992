/-
  PROJECTS AND QUEUES IN MEMORY; queue.find, fringeref42.Index, queue.isProject: what they return.
-/
import Derived.Test.YtlpnmdknlfmjaaaQNames
namespace Go.Proofs.Ytlpnmdknlfmjaaa
open Go.Sim
set_option linter.unusedVariables false
set_option maxRecDepth 100000

structure Proj where
  name : ByteArray
  share : Int
  used : Int
  waiting : Int

def Proj.cells (p : Proj) : List Value := [.string p.name, .int .i64 p.share, .int .i64 p.used, .int .i64 p.waiting]
def noProj : Proj := ⟨ByteArray.empty, 0, 0, 0⟩
def flatP (l : List Proj) : List Value := l.flatMap Proj.cells
def pj (l : List Proj) (i : Int) : Proj := l.getD i.toNat noProj

theorem flatP_len (l : List Proj) : (flatP l).length = l.length * 4 := by
  unfold flatP
  induction l with
  | nil => rfl
  | cons p l ih => simp only [List.flatMap_cons, List.length_append, ih, List.length_cons, Proj.cells, List.length_nil]; omega

theorem flatP_drop (l : List Proj) : ∀ i, (flatP l).drop (i * 4) = flatP (l.drop i) := by
  induction l with
  | nil => intro i; simp [flatP]
  | cons p l ih =>
    intro i
    cases i with
    | zero => simp
    | succ i =>
      have : (i + 1) * 4 = p.cells.length + i * 4 := by simp only [Proj.cells, List.length_cons, List.length_nil]; omega
      rw [this, ← List.drop_drop]
      unfold flatP at ih ⊢
      rw [List.flatMap_cons, List.drop_left, List.drop_succ_cons]
      exact ih i

theorem pj_at (l : List Proj) {i : Nat} (h : i < l.length) : l.getD i noProj = l[i] := by simp [h]

theorem flatP_at (l : List Proj) {i f m : Nat} (h : i < l.length) (hf : f + m ≤ 4) : ((flatP l).drop (i * 4 + f)).take m = ((l.getD i noProj).cells.drop f).take m := by
  rw [← List.drop_drop, flatP_drop, List.drop_eq_getElem_cons h, pj_at l h]
  unfold flatP
  rw [List.flatMap_cons]
  have h4 : (l[i]).cells.length = 4 := rfl
  rw [List.drop_append_of_le_length (by omega), List.take_append_of_le_length (by simp [h4]; omega)]

structure Projs (h : AHeap) (a : Option Addr) (n : Nat) (l : List Proj) : Prop where
  cells : Cells h a n 4 (flatP l)

theorem Projs.len {h : AHeap} {a : Option Addr} {n : Nat} {l : List Proj} (c : Projs h a n l) : l.length = n := by
  have := c.cells.length; rw [flatP_len] at this; omega
theorem Projs.ext {h h' : AHeap} {a : Option Addr} {n : Nat} {l : List Proj} (c : Projs h a n l) (e : Ext h h') : Projs h' a n l := ⟨c.cells.ext e⟩

/-- A project that was read. -/
theorem Projs.at {h : AHeap} {a : Option Addr} {n : Nat} {l : List Proj} (c : Projs h a n l) {i : Int} (h0 : 0 ≤ i) (hi : i < n) :
    ∃ b o nm sh us wt, a = some ⟨b, o, none⟩ ∧ b < h.next ∧ pj l i = ⟨nm, sh, us, wt⟩ ∧ h.readG ⟨b, o + i.toNat * 4, none⟩ 4 = some [.string nm, .int .i64 sh, .int .i64 us, .int .i64 wt] ∧
      h.readG ⟨b, o + i.toNat * 4 + 0, none⟩ 1 = some [.string nm] ∧ h.readG ⟨b, o + i.toNat * 4 + 1, none⟩ 1 = some [.int .i64 sh] ∧ h.readG ⟨b, o + i.toNat * 4 + 2, none⟩ 1 = some [.int .i64 us] ∧ h.readG ⟨b, o + i.toNat * 4 + 3, none⟩ 1 = some [.int .i64 wt] := by
  have hl := c.len
  have hk : i.toNat < l.length := by omega
  obtain ⟨b, o, h1, h2, h3⟩ := c.cells.at (i := i.toNat * 4) (m := 4) (by omega) (by omega)
  have hat : ∀ f m, f + m ≤ 4 → 0 < m → h.readG ⟨b, o + i.toNat * 4 + f, none⟩ m = some (((l.getD i.toNat noProj).cells.drop f).take m) := by
    intro f m hf hm
    obtain ⟨b', o', h1', h2', h3'⟩ := c.cells.at (i := i.toNat * 4 + f) (m := m) (by omega) hm
    rw [h1] at h1'
    simp only [Option.some.injEq, Addr.mk.injEq] at h1'
    obtain ⟨rfl, rfl, _⟩ := h1'
    rw [Nat.add_assoc, h3', flatP_at l hk hf]
  unfold pj
  generalize hp : l.getD i.toNat noProj = p at hat
  obtain ⟨nm, sh, us, wt⟩ := p
  exact ⟨b, o, nm, sh, us, wt, h1, h2, rfl, hat 0 4 (by omega) (by omega), hat 0 1 (by omega) (by omega), hat 1 1 (by omega) (by omega), hat 2 1 (by omega) (by omega), hat 3 1 (by omega) (by omega)⟩

/-- The place of the first project with a name, or -1. -/
def findF (l : List Proj) (nm : ByteArray) : Int := match l.findIdx? (fun p => p.name.toList == nm.toList) with | some i => i | none => -1

theorem findF_spec {l : List Proj} {nm : ByteArray} {r : Int} (h : (∃ i : Nat, r = i ∧ i < l.length ∧ ((l.getD i noProj).name.toList == nm.toList) = true ∧ ∀ j, j < i → ((l.getD j noProj).name.toList == nm.toList) = false) ∨ (r = -1 ∧ ∀ j, j < l.length → ((l.getD j noProj).name.toList == nm.toList) = false)) : r = findF l nm := by
  unfold findF
  rcases h with ⟨i, rfl, hi, h1, h2⟩ | ⟨rfl, h2⟩
  · have : l.findIdx? (fun p => p.name.toList == nm.toList) = some i := by
      rw [List.findIdx?_eq_some_iff_getElem]
      refine ⟨hi, by rw [← pj_at l hi]; exact h1, fun j hj => ?_⟩
      have := h2 j hj
      rw [pj_at l (by omega)] at this
      simp [this]
    rw [this]
  · have : l.findIdx? (fun p => p.name.toList == nm.toList) = none := by
      rw [List.findIdx?_eq_none_iff]
      intro p hp
      obtain ⟨j, hj, rfl⟩ := List.getElem_of_mem hp
      have := h2 j hj
      rwa [pj_at l hj] at this
    rw [this]

variable {call : FuncId → List Value → AHeap → (Value → AHeap → Prop) → Prop}
  {head : FuncId → Nat → Nat → SS → (Exit → SS → Prop) → Prop}
  {arith : BinOp → IntKind → Int → Int → Int}
  {cmp : BinOp → Int → Int → Bool}
  {scmp : BinOp → ByteArray → ByteArray → Bool}
  {bnot : Bool → Bool}
  {bsame : Bool → Bool → Bool}
  {conv : IntKind → Int → Int}
  {neg : IntKind → Int → Int}
  {imax : Int → Int → Int}
  {imin : Int → Int → Int}
  {ofNat : Nat → Int}
  {slen : ByteArray → Int}
  {place : Nat → Int → Nat → Nat}
  {inR : Int → Nat → Prop}
  {nz : Int → Prop}
  {geZ : Int → Prop}
  {rd : AHeap → Nat → Nat → Nat → List Value → Prop}
  {wr : AHeap → Nat → Nat → List Value → AHeap → Prop}
  {push : AHeap → Nat → List Value → AHeap}
  {next : AHeap → Nat}
  {mkOK : Int → Int → Prop}
  {nat : Int → Nat}
  {zeros : List Value → Int → List Value}
  {sadd : ByteArray → ByteArray → (ByteArray → Prop) → Prop}
  {eqAgg : TypeId → Array Value → Array Value → (Bool → Prop) → Prop}
  {cut : Nat → Int → Prop}
  {slc : TypeId → Value → Option Value → Option Value → Option Value → (Option Addr → Nat → Nat → Prop) → Prop}
  {sslc : TypeId → ByteArray → Option Value → Option Value → (ByteArray → Prop) → Prop}
  {strAt : ByteArray → Int → (Int → Prop) → Prop}
  {part : TypeId → Array Value → Nat → Value → Prop}
  {app : List TypeId → List Value → AHeap → (Option Addr → Nat → Nat → AHeap → Prop) → Prop}
  {cpy : List TypeId → List Value → AHeap → (Int → AHeap → Prop) → Prop}
  {putAt : AHeap → Nat → Nat → List Value → AHeap}
  {fresh : AHeap → AHeap}
  {lowered : AHeap → AHeap → AHeap}
  {bump : AHeap → Nat → AHeap}
  {wrote : AHeap → AHeap → Bool}
  {addN : Nat → Nat → Nat}
  {lt : Nat → Nat → Prop}
  {ne : Nat → Nat → Prop}
  {fpAll : Bool → Bool → Bool → Nat → Nat → Prop}
  {brk : (Unit → Prop) → Prop}
  (hA : AOK progU hint prims ⟨call, head, arith, cmp, scmp, bnot, bsame, conv, neg, imax, imin, ofNat, slen, place, inR, nz, geZ, rd, wr, push, next, mkOK, nat, zeros, sadd, eqAgg, cut, slc, sslc, strAt, part, app, cpy, putAt, fresh, lowered, bump, wrote, addN, lt, ne, fpAll, brk⟩)
include hA

theorem find_loop {h : AHeap} {a : Option Addr} {n c : Nat} (hn : n ≤ 1000000) {l : List Proj} (hs : Projs h a n l) {nm : ByteArray} {Q : Exit → SS → Prop}
    (h0 : findF l nm = -1 → ∀ K, Q (.exit 0) ⟨[], 0, K, h⟩) (h1 : ∀ r e kn K, r = findF l nm → Q .ret ⟨(4, .int .i64 r) :: e, kn, K, h⟩) :
    ∀ (i : Int), 0 ≤ i → i ≤ n → (∀ j : Nat, (j : Int) < i → ((l.getD j noProj).name.toList == nm.toList) = false) → ∀ K, head 35 2 0 ⟨[(1, .string nm), (7, .slice a n c), (8, .int .i64 (ofNat n)), (9, .int .i64 i)], 0, K, h⟩ Q := by
  have hl := hs.len
  refine countUp (fun i hi0 hin ih hj K => ?_)
  refine hA.roundR Try.func35 r35_ok ?_; (try (conv => cbv)); repeat (refine brk_ok hA ?_; (try (conv => cbv)))
  refine br (i < n) (by rw [e_lss hA, e_ofNat hA]) (fun c => ?_) (fun c => ?_) <;> (try (conv => cbv)) <;> repeat (refine brk_ok hA ?_; (try (conv => cbv)))
  · obtain ⟨b, o, nm1, sh, us, wt, rfl, hb, hp, hr, _, _, _, _⟩ := hs.at hi0 c
    refine ⟨b, o, rfl, in_ok hA hi0 c, ?_⟩
    ((try (conv => cbv)); repeat (refine brk_ok hA ?_; (try (conv => cbv))))
    refine ⟨nm1, sh, us, wt, rd_ok hA hr, ?_⟩
    ((try (conv => cbv)); repeat (refine brk_ok hA ?_; (try (conv => cbv))))
    have hnm : (l.getD i.toNat noProj).name = nm1 := by have := congrArg Proj.name hp; exact this
    have hsc := e_scmp hA nm1 nm
    rw [← hnm] at hsc
    cases hc : scmp .eql nm1 nm <;> ((try (conv => cbv)); repeat (refine brk_ok hA ?_; (try (conv => cbv))))
    · rw [add64 hA (by omega) (by omega)]
      refine ih c (fun j hj2 => ?_) _
      by_cases e : j = i.toNat
      · rw [e, ← hsc, hnm, hc]
      · exact hj j (by omega)
    · refine h1 _ _ _ _ (findF_spec (.inl ⟨i.toNat, by omega, by omega, by rw [← hsc, hnm, hc], fun j hj2 => hj j (by omega)⟩))
  · refine h0 ?_ K
    exact (findF_spec (.inr ⟨rfl, fun j hj2 => hj j (by omega)⟩)).symm

theorem find_ok {h : AHeap} (hlow : h.low ≤ h.next) {a : Option Addr} {n c : Nat} (hn : n ≤ 1000000) {l : List Proj} (hs : Projs h a n l) (nm : ByteArray) {Q : Value → AHeap → Prop} (hQ : ∀ r, r = findF l nm → Q (.int .i64 r) h) : call 35 [.slice a n c, .string nm] h Q := by
  have hl := hs.len
  refine hA.bodyR Try.func35 r35_ok (show prims _ _ _ = none from rfl) hlow ?_; (try (conv => cbv)); repeat (refine brk_ok hA ?_; (try (conv => cbv)))
  refine find_loop hA hn hs (fun e K => ?_) (fun r e kn K hr => ?_) 0 (by omega) (by omega) (fun j hj => by omega) []
  · ((try (conv => cbv)); repeat (refine brk_ok hA ?_; (try (conv => cbv))))
    exact hQ _ e.symm
  · ((try (conv => cbv)); repeat (refine brk_ok hA ?_; (try (conv => cbv))))
    exact hQ _ hr

theorem index_loop {h : AHeap} {a : Option Addr} {n c : Nat} (hn : n ≤ 1000000) {l : List Proj} (hs : Projs h a n l) {nm : ByteArray} {nu de : Int} {Q : Exit → SS → Prop}
    (h0 : findF l nm = -1 → Q (.exit 0) ⟨[], 1, [(0, [.slice a n c, .int .i64 nu, .int .i64 de])], h⟩) (h1 : ∀ r e, r = findF l nm → Q .ret ⟨(4, .int .i64 r) :: e, 1, [(0, [.slice a n c, .int .i64 nu, .int .i64 de])], h⟩) :
    ∀ (i : Int), 0 ≤ i → i ≤ n → (∀ j : Nat, (j : Int) < i → ((l.getD j noProj).name.toList == nm.toList) = false) → head 36 2 1 ⟨[(1, .string nm), (2, .pointer (some ⟨0, 0, some 0⟩)), (5, .int .i64 i)], 1, [(0, [.slice a n c, .int .i64 nu, .int .i64 de])], h⟩ Q := by
  have hl := hs.len
  refine countUp (fun i hi0 hin ih hj => ?_)
  refine hA.roundR Try.func36 r36_ok ?_; (try (conv => cbv)); repeat (refine brk_ok hA ?_; (try (conv => cbv)))
  refine br (i < n) (by rw [e_lss hA, e_ofNat hA]) (fun c => ?_) (fun c => ?_) <;> (try (conv => cbv)) <;> repeat (refine brk_ok hA ?_; (try (conv => cbv)))
  · obtain ⟨b, o, nm1, sh, us, wt, rfl, hb, hp, hr, hr0, _, _, _⟩ := hs.at hi0 c
    refine ⟨b, o, rfl, in_ok hA hi0 c, ?_⟩
    ((try (conv => cbv)); repeat (refine brk_ok hA ?_; (try (conv => cbv))))
    refine ⟨nm1, rd_fld hA hr0, ?_⟩
    ((try (conv => cbv)); repeat (refine brk_ok hA ?_; (try (conv => cbv))))
    have hnm : (l.getD i.toNat noProj).name = nm1 := by have := congrArg Proj.name hp; exact this
    have hsc := e_scmp hA nm1 nm
    rw [← hnm] at hsc
    cases hc : scmp .eql nm1 nm <;> ((try (conv => cbv)); repeat (refine brk_ok hA ?_; (try (conv => cbv))))
    · rw [add64 hA (by omega) (by omega)]
      refine ih c (fun j hj2 => ?_)
      by_cases e : j = i.toNat
      · rw [e, ← hsc, hnm, hc]
      · exact hj j (by omega)
    · refine h1 _ _ (findF_spec (.inl ⟨i.toNat, by omega, by omega, by rw [← hsc, hnm, hc], fun j hj2 => hj j (by omega)⟩))
  · refine h0 ?_
    exact (findF_spec (.inr ⟨rfl, fun j hj2 => hj j (by omega)⟩)).symm

theorem index_ok {h : AHeap} (hlow : h.low ≤ h.next) {a : Option Addr} {n c : Nat} (hn : n ≤ 1000000) {l : List Proj} (hs : Projs h a n l) (nm : ByteArray) (nu de : Int) {Q : Value → AHeap → Prop} (hQ : ∀ r, r = findF l nm → Q (.int .i64 r) h) : call 36 [.agg #[.slice a n c, .int .i64 nu, .int .i64 de], .string nm] h Q := by
  have hl := hs.len
  refine hA.bodyR Try.func36 r36_ok (show prims _ _ _ = none from rfl) hlow ?_; (try (conv => cbv)); repeat (refine brk_ok hA ?_; (try (conv => cbv)))
  refine index_loop hA hn hs (fun e => ?_) (fun r e hr => ?_) 0 (by omega) (by omega) (fun j hj => by omega)
  · ((try (conv => cbv)); repeat (refine brk_ok hA ?_; (try (conv => cbv))))
    exact hQ _ e.symm
  · ((try (conv => cbv)); repeat (refine brk_ok hA ?_; (try (conv => cbv))))
    exact hQ _ hr

/-- A project is valid by itself. -/
def projP (p : Proj) : Prop := nameP p.name ∧ 1 ≤ p.share ∧ p.share ≤ 100 ∧ 0 ≤ p.used ∧ p.used ≤ 1000000 ∧ 0 ≤ p.waiting ∧ p.waiting ≤ 1000

theorem isProject_ok {h : AHeap} (hlow : h.low ≤ h.next) (nm : ByteArray) (sh us wt : Int) (hsz : nm.size ≤ 1000000) {Q : Value → AHeap → Prop} (hQ : ∀ r, (r = true ↔ projP ⟨nm, sh, us, wt⟩) → Q (.bool r) h) : call 37 [.agg #[.string nm, .int .i64 sh, .int .i64 us, .int .i64 wt]] h Q := by
  have hf : ¬ projP ⟨nm, sh, us, wt⟩ → Q (.bool false) h := fun hn => hQ false (by simp [hn])
  refine hA.bodyR Try.func37 r37_ok (show prims _ _ _ = none from rfl) hlow ?_; (try (conv => cbv)); repeat (refine brk_ok hA ?_; (try (conv => cbv)))
  refine isName_ok hA hlow hsz (fun r hr => ⟨_, rfl, ?_⟩)
  ((try (conv => cbv)); repeat (refine brk_ok hA ?_; (try (conv => cbv))))
  cases r <;> ((try (conv => cbv)); repeat (refine brk_ok hA ?_; (try (conv => cbv))))
  · exact hf (fun hp => by have := hr.2 hp.1; cases this)
  have hnm := hr.1 rfl
  refine br (1 ≤ sh) (e_geq hA _ _) (fun c1 => ?_) (fun c1 => ?_) <;> (try (conv => cbv)) <;> repeat (refine brk_ok hA ?_; (try (conv => cbv)))
  rotate_left
  · exact hf (fun hp => c1 hp.2.1)
  refine br (sh ≤ 100) (e_leq hA _ _) (fun c2 => ?_) (fun c2 => ?_) <;> (try (conv => cbv)) <;> repeat (refine brk_ok hA ?_; (try (conv => cbv)))
  rotate_left
  · exact hf (fun hp => c2 hp.2.2.1)
  refine br (0 ≤ us) (e_geq hA _ _) (fun c3 => ?_) (fun c3 => ?_) <;> (try (conv => cbv)) <;> repeat (refine brk_ok hA ?_; (try (conv => cbv)))
  rotate_left
  · exact hf (fun hp => c3 hp.2.2.2.1)
  refine br (us ≤ 1000000) (e_leq hA _ _) (fun c4 => ?_) (fun c4 => ?_) <;> (try (conv => cbv)) <;> repeat (refine brk_ok hA ?_; (try (conv => cbv)))
  rotate_left
  · exact hf (fun hp => c4 hp.2.2.2.2.1)
  refine br (0 ≤ wt) (e_geq hA _ _) (fun c5 => ?_) (fun c5 => ?_) <;> (try (conv => cbv)) <;> repeat (refine brk_ok hA ?_; (try (conv => cbv)))
  rotate_left
  · exact hf (fun hp => c5 hp.2.2.2.2.2.1)
  refine hQ _ ?_
  rw [e_leq hA]
  simp only [decide_eq_true_eq]
  exact ⟨fun c6 => ⟨hnm, c1, c2, c3, c4, c5, c6⟩, fun hp => hp.2.2.2.2.2.2⟩

end Go.Proofs.Ytlpnmdknlfmjaaa
