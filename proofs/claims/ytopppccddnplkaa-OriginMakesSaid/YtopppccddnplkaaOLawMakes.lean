/-
  OriginMakes: the walk.
-/
import Derived.Test.YtopppccddnplkaaONotedP
import Derived.Test.YtopppccddnplkaaOSame
import Derived.Test.YtopppccddnplkaaSeatL3
namespace Go.Proofs.Ytopppccddnplkaa
open Go.Sim
open Classical
set_option linter.unusedVariables false
set_option maxRecDepth 100000

/-! ### What Note returned, written over -/

def WR (h : AHeap) (lo : Nat) (x : RH) : Prop := (∃ d : Bytes, Mem1 h lo x.da x.dn x.dc (d.map (.int .u8))) ∧ ∃ f : List Str, Mem1 h lo x.fa x.fn x.fc (f.map .string)
structure WA (h : AHeap) (lo b : Nat) (xs : List RH) : Prop where
  ge : lo ≤ b
  lt : b < h.next
  own : Own h b 6 (flatR xs)
  all : ∀ x ∈ xs, WR h lo x
theorem NOwn.wa {h : AHeap} {lo b n : Nat} {rs : List Rec} (p : NOwn h lo b n rs) (hs : ∀ r ∈ rs, r.frm.length ≤ 1000000 ∧ r.data.length ≤ 1000000) : ∃ xs, xs.length = n ∧ WA h lo b xs ∧ ∀ x ∈ xs, (x.dn : Int) ≤ 1000000 ∧ (x.fn : Int) ≤ 1000000 := by
  obtain ⟨xs, h1, h2, h3, h4, h5⟩ := p
  refine ⟨xs, h4, ⟨h1, h2, h3, fun x hx => ?_⟩, fun x hx => ?_⟩
  rotate_left
  · obtain ⟨i, hi⟩ := List.getElem?_of_mem hx
    have hil : i < xs.length := (List.getElem?_eq_some_iff.1 hi).1
    have hg := getD_some rs i noRec (by have := h5.1; omega)
    have := h5.2 i x (rs.getD i noRec) hi hg
    have q1 := this.data.row.len
    have q2 := this.frm.row.len
    rw [List.length_map] at q1 q2
    have := hs _ (List.mem_of_getElem? hg)
    omega
  obtain ⟨i, hi⟩ := List.getElem?_of_mem hx
  have hil : i < xs.length := (List.getElem?_eq_some_iff.1 hi).1
  have := h5.2 i x (rs.getD i noRec) hi (getD_some _ _ _ (by have := h5.1; omega))
  exact ⟨⟨_, this.data⟩, ⟨_, this.frm⟩⟩
theorem WA.ext {h h' : AHeap} {lo b : Nat} {xs : List RH} (p : WA h lo b xs) (e : Ext h h') : WA h' lo b xs :=
  ⟨p.ge, Nat.lt_of_lt_of_le p.lt e.next, p.own.ext e p.lt, fun x hx => by obtain ⟨⟨d, q1⟩, f, q2⟩ := p.all x hx; exact ⟨⟨d, q1.ext e⟩, f, q2.ext e⟩⟩
theorem own_fn {h : AHeap} {b es : Nat} {vs ws : List Value} (p : Own h b es vs) (q : Own h b es ws) : vs = ws := by
  unfold Own at p q
  rw [p] at q
  cases q
  rfl
/-- A row is written. -/
theorem poke {h h' : AHeap} {lo b : Nat} {xs : List RH} (p : WA h lo b xs) {bb : Nat} {vs vs' : List Value} (hlo : lo ≤ bb) (ho : Own h bb 1 vs) (hw : Wrote h h' bb) (ho' : Own h' bb 1 vs') (hl : vs'.length = vs.length)
    (hd : ∀ d : Bytes, vs = d.map (.int .u8) → ∃ d' : Bytes, vs' = d'.map (.int .u8)) (hf : ∀ f : List Str, vs = f.map .string → ∃ f' : List Str, vs' = f'.map .string) : WA h' lo b xs ∧ ∀ hz, Ext hz h → hz.next ≤ lo → Ext hz h' := by
  have hn : h.next ≤ h'.next := by rw [hw.next]; exact Nat.le_refl _
  have hne : b ≠ bb := fun q => by
    have := p.own
    rw [q] at this
    unfold Own at this ho
    rw [ho] at this
    cases this
  refine ⟨⟨p.ge, by rw [hw.next]; exact p.lt, hw.own p.own hne, fun x hx => ?_⟩, fun hz e hle => hw.ext e (by omega)⟩
  obtain ⟨⟨d, q1⟩, f, q2⟩ := p.all x hx
  constructor
  · rcases q1 with q1 | ⟨c, r1, r2, r3, r4, r5, r6⟩
    · exact ⟨d, .inl q1⟩
    · by_cases e : c = bb
      · subst e
        have hv := own_fn r4 ho
        obtain ⟨d', hd'⟩ := hd d hv.symm
        exact ⟨d', .inr ⟨c, r1, r2, by rw [hw.next]; exact r3, by rw [← hd']; exact ho', by rw [← hd', hl, ← hv]; exact r5, r6⟩⟩
      · exact ⟨d, .inr ⟨c, r1, r2, by rw [hw.next]; exact r3, hw.own r4 e, r5, r6⟩⟩
  · rcases q2 with q2 | ⟨c, r1, r2, r3, r4, r5, r6⟩
    · exact ⟨f, .inl q2⟩
    · by_cases e : c = bb
      · subst e
        have hv := own_fn r4 ho
        obtain ⟨f', hf'⟩ := hf f hv.symm
        exact ⟨f', .inr ⟨c, r1, r2, by rw [hw.next]; exact r3, by rw [← hf']; exact ho', by rw [← hf', hl, ← hv]; exact r5, r6⟩⟩
      · exact ⟨f, .inr ⟨c, r1, r2, by rw [hw.next]; exact r3, hw.own r4 e, r5, r6⟩⟩
theorem map_u8_str {d : Bytes} {f : List Str} (h : d.map (Value.int .u8) = f.map Value.string) : d = [] := by
  cases d with
  | nil => rfl
  | cons x d => cases f with
    | nil => cases h
    | cons y f => simp at h
theorem WA.byte {h : AHeap} {lo b : Nat} {xs : List RH} (p : WA h lo b xs) {x : RH} (hx : x ∈ xs) {i : Int} (i0 : 0 ≤ i) (i1 : i < x.dn) : ∃ bb y, x.da = some ⟨bb, 0, none⟩ ∧ h.readG ⟨bb, 0 + i.toNat * 1, none⟩ 1 = some [.int .u8 y] ∧
    ∀ v, ∃ h', h.write bb (0 + i.toNat * 1) [.int .u8 v] = some h' ∧ WA h' lo b xs ∧ ∀ hz, Ext hz h → hz.next ≤ lo → Ext hz h' := by
  obtain ⟨⟨d, q1⟩, _⟩ := p.all x hx
  have hb : Byts h x.da x.dn x.dc d := q1.row
  rcases q1 with ⟨_, q, _⟩ | ⟨bb, r1, r2, r3, r4, r5, r6⟩
  · omega
  · obtain ⟨b', o', y, k1, _, _, k2⟩ := hb.at i0 i1
    rw [r1] at k1
    cases k1
    refine ⟨bb, y, r1, k2, fun v => ?_⟩
    rw [List.length_map] at r5
    obtain ⟨h', w1, w2, w3⟩ := r4.setInt (i := i.toNat) (by omega) v
    refine ⟨h', by rw [Nat.zero_add, Nat.mul_one]; exact w1, poke p r2 r4 w3 w2 (by simp) (fun d' hd' => ⟨_, rfl⟩) (fun f hf => ?_)⟩
    have := map_u8_str hf
    rw [this] at r5
    simp at r5
    omega
theorem WA.name {h : AHeap} {lo b : Nat} {xs : List RH} (p : WA h lo b xs) {x : RH} (hx : x ∈ xs) {i : Int} (i0 : 0 ≤ i) (i1 : i < x.fn) : ∃ bb, x.fa = some ⟨bb, 0, none⟩ ∧
    ∀ v, ∃ h', h.write bb (0 + i.toNat * 1) [.string v] = some h' ∧ WA h' lo b xs ∧ ∀ hz, Ext hz h → hz.next ≤ lo → Ext hz h' := by
  obtain ⟨_, f, q1⟩ := p.all x hx
  rcases q1 with ⟨_, q, _⟩ | ⟨bb, r1, r2, r3, r4, r5, r6⟩
  · omega
  · refine ⟨bb, r1, fun v => ?_⟩
    rw [List.length_map] at r5
    obtain ⟨h', w1, w2, w3⟩ := r4.write (o := i.toNat) (vs := [.string v]) (by simp; omega)
    have e : (f.map Value.string).take i.toNat ++ ([Value.string v] ++ (f.map Value.string).drop (i.toNat + 1)) = (f.set i.toNat v).map .string := by
      rw [set_take_drop _ _ _ (by simp; omega), List.map_set]
    rw [show ([Value.string v] : List Value).length = 1 from rfl, e] at w2
    refine ⟨h', by rw [Nat.zero_add, Nat.mul_one]; exact w1, poke p r2 r4 w3 w2 (by simp) (fun d hd => ?_) (fun f' hf' => ⟨_, rfl⟩)⟩
    have := map_u8_str hd.symm
    rw [this] at hd
    have : f = [] := by simpa using hd
    rw [this] at r5
    simp at r5
    omega
/-- The head of a record there. -/
theorem WA.head {h : AHeap} {lo b : Nat} {xs : List RH} (p : WA h lo b xs) {k : Int} (k0 : 0 ≤ k) (k1 : k < xs.length) : ∃ x, x ∈ xs ∧ x = xs.getD k.toNat noRH ∧ h.readG ⟨b, 0 + k.toNat * 6 + 2, none⟩ 1 = some [.slice x.fa x.fn x.fc] ∧ h.readG ⟨b, 0 + k.toNat * 6 + 4, none⟩ 1 = some [.slice x.da x.dn x.dc] := by
  have hx := getD_some xs k.toNat noRH (by omega)
  refine ⟨xs.getD k.toNat noRH, List.mem_of_getElem? hx, rfl, ?_, ?_⟩
  · rw [p.own.readG (by rw [flatR_len]; omega), Nat.zero_add, flatR_at xs k.toNat 2 1 (by omega) (by omega)]
    rfl
  · rw [p.own.readG (by rw [flatR_len]; omega), Nat.zero_add, flatR_at xs k.toNat 4 1 (by omega) (by omega)]
    rfl

variable {call : FuncId → List Value → AHeap → (Value → AHeap → Prop) → Prop}
  {head : FuncId → Nat → Nat → SS → (Exit → SS → Prop) → Prop}
  {arith : BinOp → IntKind → Int → Int → Int}
  {cmp : BinOp → Int → Int → Bool}
  {scmp : BinOp → ByteArray → ByteArray → Bool}
  {bnot : Bool → Bool}
  {bsame : Bool → Bool → Bool}
  {conv : IntKind → Int → Int}
  {neg : IntKind → Int → Int}
  {imax : Int → Int → Int}
  {imin : Int → Int → Int}
  {ofNat : Nat → Int}
  {slen : ByteArray → Int}
  {place : Nat → Int → Nat → Nat}
  {inR : Int → Nat → Prop}
  {nz : Int → Prop}
  {geZ : Int → Prop}
  {rd : AHeap → Nat → Nat → Nat → List Value → Prop}
  {wr : AHeap → Nat → Nat → List Value → AHeap → Prop}
  {push : AHeap → Nat → List Value → AHeap}
  {next : AHeap → Nat}
  {mkOK : Int → Int → Prop}
  {nat : Int → Nat}
  {zeros : List Value → Int → List Value}
  {sadd : ByteArray → ByteArray → (ByteArray → Prop) → Prop}
  {eqAgg : TypeId → Array Value → Array Value → (Bool → Prop) → Prop}
  {cut : Nat → Int → Prop}
  {slc : TypeId → Value → Option Value → Option Value → Option Value → (Option Addr → Nat → Nat → Prop) → Prop}
  {sslc : TypeId → ByteArray → Option Value → Option Value → (ByteArray → Prop) → Prop}
  {strAt : ByteArray → Int → (Int → Prop) → Prop}
  {part : TypeId → Array Value → Nat → Value → Prop}
  {app : List TypeId → List Value → AHeap → (Option Addr → Nat → Nat → AHeap → Prop) → Prop}
  {cpy : List TypeId → List Value → AHeap → (Int → AHeap → Prop) → Prop}
  {putAt : AHeap → Nat → Nat → List Value → AHeap}
  {fresh : AHeap → AHeap}
  {lowered : AHeap → AHeap → AHeap}
  {bump : AHeap → Nat → AHeap}
  {wrote : AHeap → AHeap → Bool}
  {addN : Nat → Nat → Nat}
  {lt : Nat → Nat → Prop}
  {ne : Nat → Nat → Prop}
  {fpAll : Bool → Bool → Bool → Nat → Nat → Prop}
  {brk : (Unit → Prop) → Prop}
  {yn : Nat → Nat}
  {rng : FuncId → Nat → SS → (Exit → SS → Prop) → Prop}
  {mget : TypeId → Value → Value → AHeap → Value → Bool → Prop}
  {mput : TypeId → Value → Value → Value → AHeap → AHeap → Prop}
  {mnew : AHeap → AHeap}
  {bytes : TypeId → TypeId → Option Addr → Nat → AHeap → ByteArray → Prop}
  {clr : List TypeId → List Value → AHeap → AHeap → Prop}
  (hA : AOK progU hint prims ⟨call, head, arith, cmp, scmp, bnot, bsame, conv, neg, imax, imin, ofNat, slen, place, inR, nz, geZ, rd, wr, push, next, mkOK, nat, zeros, sadd, eqAgg, cut, slc, sslc, strAt, part, app, cpy, putAt, fresh, lowered, bump, wrote, addN, lt, ne, fpAll, brk, yn, rng, mget, mput, mnew, bytes, clr⟩)
include hA

theorem pokeB_loop {hz : AHeap} {lo : Nat} (hlo : hz.next ≤ lo) {b nx cx : Nat} {xs : List RH} (hxl : xs.length = nx) {k : Int} (k0 : 0 ≤ k) (k1 : k < nx) {x : RH} (hx : x = xs.getD k.toNat noRH) (hdn : (x.dn : Int) ≤ 1000000) {a0 a7 a8 : Option Addr} {n0 n7 n8 c0 c7 c8 : Nat} {Q : Exit → SS → Prop}
    (h1 : ∀ h', Ext hz h' → WA h' lo b xs → Q (.exit 2) ⟨[(0, .slice a0 n0 c0), (7, .slice a7 n7 c7), (8, .slice a8 n8 c8), (12, .slice (some ⟨b, 0, none⟩) nx cx), (20, .int .i64 k)], 0, [], h'⟩) :
    ∀ i : Int, 0 ≤ i → i ≤ x.dn → ∀ h, Ext hz h → WA h lo b xs → head 3 16 0 ⟨[(0, .slice a0 n0 c0), (7, .slice a7 n7 c7), (8, .slice a8 n8 c8), (12, .slice (some ⟨b, 0, none⟩) nx cx), (20, .int .i64 k), (21, .int .i64 i)], 0, [], h⟩ Q := by
  refine countUp (fun i hi0 hin ih h e ho => ?_)
  obtain ⟨x', hm', hx', _, r4⟩ := ho.head k0 (by omega)
  rw [← hx] at hx'
  subst hx'
  refine hA.roundR Try.func3 r3_ok ?_; (try (conv => cbv)); repeat (refine brk_ok hA ?_; (try (conv => cbv)))
  refine ⟨b, 0, rfl, in_ok hA k0 k1, ?_⟩
  ((try (conv => cbv)); repeat (refine brk_ok hA ?_; (try (conv => cbv))))
  obtain ⟨xnm, xhow, xfa, xfn, xfc, xarg, xda, xdn, xdc, xdg⟩ := x'
  simp only [] at r4 hin ih hdn
  refine ⟨xda, xdn, xdc, rd_fld hA r4, ?_⟩
  ((try (conv => cbv)); repeat (refine brk_ok hA ?_; (try (conv => cbv))))
  refine br (i < xdn) (by rw [e_lss hA, e_ofNat hA]) (fun c1 => ?_) (fun c1 => ?_) <;> (try (conv => cbv)) <;> repeat (refine brk_ok hA ?_; (try (conv => cbv)))
  · obtain ⟨bb, y, hda, hrd, hwr⟩ := ho.byte hm' hi0 c1
    simp only [] at hda
    refine ⟨b, 0, rfl, in_ok hA k0 k1, ?_⟩
    ((try (conv => cbv)); repeat (refine brk_ok hA ?_; (try (conv => cbv))))
    refine ⟨xda, xdn, xdc, rd_fld hA r4, ?_⟩
    ((try (conv => cbv)); repeat (refine brk_ok hA ?_; (try (conv => cbv))))
    refine ⟨bb, 0, hda, in_ok hA hi0 c1, ?_⟩
    ((try (conv => cbv)); repeat (refine brk_ok hA ?_; (try (conv => cbv))))
    refine ⟨y, rd_ok hA hrd, ?_⟩
    ((try (conv => cbv)); repeat (refine brk_ok hA ?_; (try (conv => cbv))))
    refine ⟨bb, 0, hda, in_ok hA hi0 c1, ?_⟩
    ((try (conv => cbv)); repeat (refine brk_ok hA ?_; (try (conv => cbv))))
    obtain ⟨h', w1, w2, w3⟩ := hwr (arith .xor .u8 y 255)
    refine ⟨h', wr_ok hA w1, ?_⟩
    ((try (conv => cbv)); repeat (refine brk_ok hA ?_; (try (conv => cbv))))
    rw [add64 hA (by omega) (by omega)]
    exact ih c1 h' (w3 hz e hlo) w2
  · exact h1 h e ho

theorem pokeS_loop {hz : AHeap} {lo : Nat} (hlo : hz.next ≤ lo) {b nx cx : Nat} {xs : List RH} (hxl : xs.length = nx) {k : Int} (k0 : 0 ≤ k) (k1 : k < nx) {x : RH} (hx : x = xs.getD k.toNat noRH) (hfn : (x.fn : Int) ≤ 1000000) {a0 a7 a8 : Option Addr} {n0 n7 n8 c0 c7 c8 : Nat} {Q : Exit → SS → Prop}
    (h1 : ∀ h', Ext hz h' → WA h' lo b xs → Q (.exit 4) ⟨[(0, .slice a0 n0 c0), (7, .slice a7 n7 c7), (8, .slice a8 n8 c8), (12, .slice (some ⟨b, 0, none⟩) nx cx), (20, .int .i64 k)], 0, [], h'⟩) :
    ∀ i : Int, 0 ≤ i → i ≤ x.fn → ∀ h, Ext hz h → WA h lo b xs → head 3 20 0 ⟨[(0, .slice a0 n0 c0), (7, .slice a7 n7 c7), (8, .slice a8 n8 c8), (12, .slice (some ⟨b, 0, none⟩) nx cx), (20, .int .i64 k), (22, .int .i64 i)], 0, [], h⟩ Q := by
  refine countUp (fun i hi0 hin ih h e ho => ?_)
  obtain ⟨x', hm', hx', r2, _⟩ := ho.head k0 (by omega)
  rw [← hx] at hx'
  subst hx'
  refine hA.roundR Try.func3 r3_ok ?_; (try (conv => cbv)); repeat (refine brk_ok hA ?_; (try (conv => cbv)))
  refine ⟨b, 0, rfl, in_ok hA k0 k1, ?_⟩
  ((try (conv => cbv)); repeat (refine brk_ok hA ?_; (try (conv => cbv))))
  obtain ⟨xnm, xhow, xfa, xfn, xfc, xarg, xda, xdn, xdc, xdg⟩ := x'
  simp only [] at r2 hin ih hfn
  refine ⟨xfa, xfn, xfc, rd_fld hA r2, ?_⟩
  ((try (conv => cbv)); repeat (refine brk_ok hA ?_; (try (conv => cbv))))
  refine br (i < xfn) (by rw [e_lss hA, e_ofNat hA]) (fun c1 => ?_) (fun c1 => ?_) <;> (try (conv => cbv)) <;> repeat (refine brk_ok hA ?_; (try (conv => cbv)))
  · obtain ⟨bb, hda, hwr⟩ := ho.name hm' hi0 c1
    simp only [] at hda
    refine ⟨b, 0, rfl, in_ok hA k0 k1, ?_⟩
    ((try (conv => cbv)); repeat (refine brk_ok hA ?_; (try (conv => cbv))))
    refine ⟨xfa, xfn, xfc, rd_fld hA r2, ?_⟩
    ((try (conv => cbv)); repeat (refine brk_ok hA ?_; (try (conv => cbv))))
    refine ⟨bb, 0, hda, in_ok hA hi0 c1, ?_⟩
    ((try (conv => cbv)); repeat (refine brk_ok hA ?_; (try (conv => cbv))))
    obtain ⟨h', w1, w2, w3⟩ := hwr _
    refine ⟨h', wr_ok hA w1, ?_⟩
    ((try (conv => cbv)); repeat (refine brk_ok hA ?_; (try (conv => cbv))))
    rw [add64 hA (by omega) (by omega)]
    exact ih c1 h' (w3 hz e hlo) w2
  · exact h1 h e ho

theorem pokeA_loop {hz : AHeap} {lo : Nat} (hlo : hz.next ≤ lo) {b nx cx : Nat} {xs : List RH} (hxl : xs.length = nx) (hnx : (nx : Int) ≤ 40) (hb : ∀ x ∈ xs, (x.dn : Int) ≤ 1000000 ∧ (x.fn : Int) ≤ 1000000) {a0 a7 a8 : Option Addr} {n0 n7 n8 c0 c7 c8 : Nat} {Q : Exit → SS → Prop}
    (h1 : ∀ h', Ext hz h' → Q (.exit 0) ⟨[(0, .slice a0 n0 c0), (7, .slice a7 n7 c7), (8, .slice a8 n8 c8)], 0, [], h'⟩) :
    ∀ k : Int, 0 ≤ k → k ≤ nx → ∀ h, Ext hz h → WA h lo b xs → head 3 13 0 ⟨[(0, .slice a0 n0 c0), (7, .slice a7 n7 c7), (8, .slice a8 n8 c8), (12, .slice (some ⟨b, 0, none⟩) nx cx), (20, .int .i64 k)], 0, [], h⟩ Q := by
  refine countUp (fun k k0 hin ih h e ho => ?_)
  refine hA.roundR Try.func3 r3_ok ?_; (try (conv => cbv)); repeat (refine brk_ok hA ?_; (try (conv => cbv)))
  refine br (k < nx) (by rw [e_lss hA, e_ofNat hA]) (fun c1 => ?_) (fun c1 => ?_) <;> (try (conv => cbv)) <;> repeat (refine brk_ok hA ?_; (try (conv => cbv)))
  · obtain ⟨x, hm, hx, _, _⟩ := ho.head k0 (by omega)
    obtain ⟨q1, q2⟩ := hb x hm
    refine pokeB_loop hA hlo hxl k0 c1 hx q1 (fun h' e' ho' => ?_) 0 (by omega) (by omega) h e ho
    ((try (conv => cbv)); repeat (refine brk_ok hA ?_; (try (conv => cbv))))
    refine pokeS_loop hA hlo hxl k0 c1 hx q2 (fun h'' e'' ho'' => ?_) 0 (by omega) (by omega) h' e' ho'
    ((try (conv => cbv)); repeat (refine brk_ok hA ?_; (try (conv => cbv))))
    rw [add64 hA (by omega) (by omega)]
    exact ih c1 h'' e'' ho''
  · exact h1 h e

theorem pokeM_loop {hz : AHeap} {b n2 c2 : Nat} (hb : hz.next ≤ b) (hn2 : (n2 : Int) ≤ 1000000) {a0 a7 : Option Addr} {n0 n7 c0 c7 : Nat} {Q : Exit → SS → Prop}
    (h1 : ∀ h', Ext hz h' → Q (.exit 6) ⟨[(0, .slice a0 n0 c0), (7, .slice a7 n7 c7)], 0, [], h'⟩) :
    ∀ i : Int, 0 ≤ i → i ≤ n2 → ∀ h (d : Bytes), Ext hz h → Own h b 1 (d.map (.int .u8)) → n2 ≤ d.length → head 3 24 0 ⟨[(0, .slice a0 n0 c0), (7, .slice a7 n7 c7), (8, .slice (some ⟨b, 0, none⟩) n2 c2), (23, .int .i64 i)], 0, [], h⟩ Q := by
  refine countUp (fun i hi0 hin ih h d e ho hd => ?_)
  refine hA.roundR Try.func3 r3_ok ?_; (try (conv => cbv)); repeat (refine brk_ok hA ?_; (try (conv => cbv)))
  refine br (i < n2) (by rw [e_lss hA, e_ofNat hA]) (fun c1 => ?_) (fun c1 => ?_) <;> (try (conv => cbv)) <;> repeat (refine brk_ok hA ?_; (try (conv => cbv)))
  · have hrd := ho.getInt (i := i.toNat) (by omega)
    obtain ⟨y, hy⟩ : ∃ z, z = d.getD i.toNat 0 := ⟨_, rfl⟩
    rw [← hy] at hrd
    refine ⟨b, 0, rfl, in_ok hA hi0 c1, ?_⟩
    ((try (conv => cbv)); repeat (refine brk_ok hA ?_; (try (conv => cbv))))
    refine ⟨y, rd_ok hA (by rw [Nat.zero_add, Nat.mul_one]; exact hrd), ?_⟩
    ((try (conv => cbv)); repeat (refine brk_ok hA ?_; (try (conv => cbv))))
    refine ⟨b, 0, rfl, in_ok hA hi0 c1, ?_⟩
    ((try (conv => cbv)); repeat (refine brk_ok hA ?_; (try (conv => cbv))))
    obtain ⟨h', w1, w2, w3⟩ := ho.setInt (i := i.toNat) (by omega) (arith .xor .u8 y 255)
    refine ⟨h', wr_ok hA (by rw [Nat.zero_add, Nat.mul_one]; exact w1), ?_⟩
    ((try (conv => cbv)); repeat (refine brk_ok hA ?_; (try (conv => cbv))))
    rw [add64 hA (by omega) (by omega)]
    exact ih c1 h' _ (w3.ext e hb) w2 (by simpa using hd)
  · exact h1 h e

set_option maxHeartbeats 1000000 in
theorem makesLaw_ok {h : AHeap} (hlow : h.low ≤ h.next) {al : Option Addr} {nl cl : Nat} {l : List Rec} (hl : Recs h al nl l) (hcap : nl ≤ capLow cl) (hnl : (nl : Int) ≤ 9223372036854775807) (hr : ∀ y ∈ l, okR y) {name : Str} {da : Option Addr} {dn dc : Nat} {data : Bytes} (hda : Byts h da dn dc data) (okd : okB data) {Q : Value → AHeap → Prop}
    (hQ : ∀ h', Ext h h' → Q (.bool true) h') : call 3 [.slice al nl cl, .string name, .slice da dn dc] h Q := by
  have hll := hl.len
  have hdl := hda.len
  have bt : bnot true = false := by rw [e_bnot hA]; rfl
  refine hA.bodyR Try.func3 r3_ok (show prims _ _ _ = none from rfl) hlow ?_; (try (conv => cbv)); repeat (refine brk_ok hA ?_; (try (conv => cbv)))
  refine great_ok hA hlow hl hnl (fun g hg => ⟨_, rfl, ?_⟩)
  cases g with
  | true =>
    ((try (conv => cbv)); repeat (refine brk_ok hA ?_; (try (conv => cbv))))
    exact hQ h (.refl h)
  | false =>
  have hsm := hg rfl
  have hok := hsm.ok' hr
  have h50 : nl ≤ 50 := by have := hsm.2; omega
  ((try (conv => cbv)); repeat (refine brk_ok hA ?_; (try (conv => cbv))))
  refine br (100 < (name.size : Int)) (by rw [e_gtr hA, e_slen hA]) (fun c1 => ?_) (fun c1 => ?_) <;> (try (conv => cbv)) <;> repeat (refine brk_ok hA ?_; (try (conv => cbv)))
  · exact hQ h (.refl h)
  refine br (300 < (dn : Int)) (by rw [e_gtr hA, e_ofNat hA]) (fun c2 => ?_) (fun c2 => ?_) <;> (try (conv => cbv)) <;> repeat (refine brk_ok hA ?_; (try (conv => cbv)))
  · exact hQ h (.refl h)
  have hsz : ∀ r ∈ l, r.frm.length ≤ 100000 ∧ r.data.length ≤ 100000 := fun r hm => by
    obtain ⟨j, j0, j1, rfl⟩ := rat_of_mem hm
    have := hsm.1 j j0 j1
    unfold smallR at this
    omega
  have hszn : ∀ r ∈ l, okB r.data ∧ r.frm.length ≤ 1000000 := fun r hm => by have := hok r hm; exact ⟨this.1.1, by omega⟩
  refine twin_ok hA hlow hl (by omega) hsz (fun a1 n1 k1 h1 x1 t1 hn1 => ⟨_, _, _, rfl, ?_⟩)
  ((try (conv => cbv)); repeat (refine brk_ok hA ?_; (try (conv => cbv))))
  refine make_ok hA (x1.lowOK hlow) (hl.ext x1) (fun _ => hok) (fun a2 n2 k2 e2 r2 h2 x2 bm2 mk2 => ⟨_, _, _, _, rfl, ?_⟩)
  ((try (conv => cbv)); repeat (refine brk_ok hA ?_; (try (conv => cbv))))
  have x12 := x1.trans x2
  refine rmake_ok hA (x12.lowOK hlow) (hl.ext x12) hcap (fun _ => hok) (fun a3 n3 k3 e3 r3 h3 x3 bm3 mk3 => ⟨_, _, _, _, rfl, ?_⟩)
  ((try (conv => cbv)); repeat (refine brk_ok hA ?_; (try (conv => cbv))))
  have x13 := x12.trans x3
  obtain ⟨rfl, rfl⟩ := mk2.uniq mk3
  refine note_ok hA (x13.lowOK hlow) (hl.ext x13) (fun _ => hok) (fun a4 n4 k4 e4 r4 h4 x4 t4 nis4 b4 => ⟨_, _, _, _, rfl, ?_⟩)
  ((try (conv => cbv)); repeat (refine brk_ok hA ?_; (try (conv => cbv))))
  have x14 := x13.trans x4
  refine rnote_ok hA (x14.lowOK hlow) (hl.ext x14) hcap (fun _ => hok) (fun a5 n5 k5 e5 r5 h5 x5 t5 nis5 b5 => ⟨_, _, _, _, rfl, ?_⟩)
  ((try (conv => cbv)); repeat (refine brk_ok hA ?_; (try (conv => cbv))))
  have x15 := x14.trans x5
  obtain ⟨rfl, rfl⟩ := nis4.uniq nis5
  refine verify_ok hA (x15.lowOK hlow) (hl.ext x15) (fun _ => hok) (fun a6 n6 k6 e6 r6 h6 x6 s6 v6 b6 => ⟨_, _, _, _, rfl, ?_⟩)
  ((try (conv => cbv)); repeat (refine brk_ok hA ?_; (try (conv => cbv))))
  have x16 := x15.trans x6
  refine rverify_ok hA (x16.lowOK hlow) (hl.ext x16) hcap (fun _ => hok) (fun a7 n7 k7 e7 r7 h7 x7 s7 v7 b7 => ⟨_, _, _, _, rfl, ?_⟩)
  ((try (conv => cbv)); repeat (refine brk_ok hA ?_; (try (conv => cbv))))
  have x17 := x16.trans x7
  obtain ⟨rfl, rfl⟩ := v6.uniq v7
  refine dig_ok hA (x17.lowOK hlow) (hda.ext x17) okd (by omega) (fun d hd => ⟨_, rfl, ?_⟩)
  ((try (conv => cbv)); repeat (refine brk_ok hA ?_; (try (conv => cbv))))
  refine rdig_ok hA (x17.lowOK hlow) (hda.ext x17) okd (by omega) (fun d' hd' => ⟨_, rfl, ?_⟩)
  obtain rfl : d = d' := by rw [hd, hd']
  ((try (conv => cbv)); repeat (refine brk_ok hA ?_; (try (conv => cbv))))
  refine br (False) (by rw [e_neq hA]; simp) (fun q => q.elim) (fun _ => ?_) <;> (try (conv => cbv)) <;> repeat (refine brk_ok hA ?_; (try (conv => cbv)))
  refine check_ok hA (x17.lowOK hlow) (hl.ext x17) (fun _ => hok) (fun e8 o8 h8 x8 ha8 => ⟨_, rfl, ?_⟩)
  have x18 := x17.trans x8
  ((try (conv => cbv)); repeat (refine brk_ok hA ?_; (try (conv => cbv))))
  refine rcheck_ok hA (x18.lowOK hlow) (hl.ext x18) hcap (fun _ => hok) (fun e9 o9 h9 x9 ha9 => ⟨_, rfl, ?_⟩)
  have x19 := x18.trans x9
  obtain ⟨rfl, rfl⟩ := ha8.uniq ha9
  ((try (conv => cbv)); repeat (refine brk_ok hA ?_; (try (conv => cbv))))
  refine br (False) (by rw [e_neq hA]; simp) (fun q => q.elim) (fun _ => ?_) <;> (try (conv => cbv)) <;> repeat (refine brk_ok hA ?_; (try (conv => cbv)))
  have hbm2 := bm2.byts.ext ((((((x3.trans x4).trans x5).trans x6).trans x7).trans x8).trans x9)
  have hbm3 := bm3.ext ((((((x4).trans x5).trans x6).trans x7).trans x8).trans x9)
  obtain ⟨u, hu⟩ : ∃ z, z = str r2 := ⟨_, rfl⟩
  refine ⟨u, by rw [hu]; exact bytes_is hA hbm2, ?_⟩
  ((try (conv => cbv)); repeat (refine brk_ok hA ?_; (try (conv => cbv))))
  refine ⟨u, by rw [hu]; exact bytes_is hA hbm3, ?_⟩
  ((try (conv => cbv)); repeat (refine brk_ok hA ?_; (try (conv => cbv))))
  refine br (False) (by rw [e_strn hA]; simp) (fun q => q.elim) (fun _ => ?_) <;> (try (conv => cbv)) <;> repeat (refine brk_ok hA ?_; (try (conv => cbv)))
  refine br (False) (by rw [e_neq hA]; simp) (fun q => q.elim) (fun _ => ?_) <;> (try (conv => cbv)) <;> repeat (refine brk_ok hA ?_; (try (conv => cbv)))
  have hszr : ∀ r ∈ r4, okB r.data ∧ r.frm.length ≤ 1000000 := by
    rcases nis4 with ⟨_, rfl⟩ | ⟨ps, ha, rfl, rfl⟩
    · intro r hm; simp at hm
    · intro r hm
      have hz := (Digd.notes ha.allP.lens).okL hok r hm
      exact ⟨hz.1.1, by omega⟩
  refine same_ok hA (x19.lowOK hlow) (t4.recs.ext ((((x5.trans x6).trans x7).trans x8).trans x9)) (t5.recs.ext (((x6.trans x7).trans x8).trans x9)) (by omega) hszr (fun r hm => (hszr r hm).1) (fun bb h10 x10 hbb => ⟨_, rfl, ?_⟩)
  obtain rfl := hbb.2 rfl
  ((try (conv => cbv)); repeat (refine brk_ok hA ?_; (try (conv => cbv))))
  rw [bt]
  ((try (conv => cbv)); repeat (refine brk_ok hA ?_; (try (conv => cbv))))
  refine br (False) (by rw [e_neq hA]; simp) (fun q => q.elim) (fun _ => ?_) <;> (try (conv => cbv)) <;> repeat (refine brk_ok hA ?_; (try (conv => cbv)))
  have x110 := x19.trans x10
  refine sames_ok hA (x110.lowOK hlow) (by omega) (s6.ext (((x7.trans x8).trans x9).trans x10)) (s7.ext ((x8.trans x9).trans x10)) (fun bb h11 x11 hbb => ⟨_, rfl, ?_⟩)
  obtain rfl := hbb.2 rfl
  ((try (conv => cbv)); repeat (refine brk_ok hA ?_; (try (conv => cbv))))
  rw [bt]
  ((try (conv => cbv)); repeat (refine brk_ok hA ?_; (try (conv => cbv))))
  refine br (False) (by rw [e_neq hA]; simp) (fun q => q.elim) (fun _ => ?_) <;> (try (conv => cbv)) <;> repeat (refine brk_ok hA ?_; (try (conv => cbv)))
  ((try (conv => cbv)); repeat (refine brk_ok hA ?_; (try (conv => cbv))))
  have x111 := x110.trans x11
  have y411 : Ext h4 h11 := ((((((x5.trans x6).trans x7).trans x8).trans x9).trans x10).trans x11)
  have hszr3 : ∀ r ∈ r4, r.frm.length ≤ 1000000 ∧ r.data.length ≤ 1000000 := by
    rcases nis4 with ⟨_, rfl⟩ | ⟨ps, ha, rfl, rfl⟩
    · intro r hm; simp at hm
    · intro r hm
      have hD := Digd.notes ha.allP.lens
      obtain ⟨j, j0, j1, rfl⟩ := rat_of_mem hm
      have := hD.len
      obtain ⟨dd, _, _, q⟩ := hD.each j j0 (by omega)
      have hz := hsz (rat l j) (rat_mem j0 (by omega))
      rw [q]
      exact ⟨by show (rat l j).frm.length ≤ _; omega, by show (rat l j).data.length ≤ _; omega⟩
  have hr2 : r2.length ≤ 1000000 := by
    rcases mk2 with ⟨_, rfl⟩ | ⟨ps, _, _, _, rfl⟩ | ⟨ps, ha, hi, _, rfl⟩
    · simp
    · simp
    · have := ha.allP.le _ hi (idx_lt hi)
      omega
  have hn2 := bm2.byts.len
  by_cases h0 : 0 < n4
  · obtain ⟨b, rfl, own⟩ := t4.own h0
    obtain ⟨xs, q1, q2, q3⟩ := (own.ext y411).wa hszr3
    refine pokeA_loop hA (Nat.le_refl _) q1 (by omega) q3 (fun h12 x12' => ?_) 0 (by omega) (by omega) h11 (x4.trans y411) q2
    ((try (conv => cbv)); repeat (refine brk_ok hA ?_; (try (conv => cbv))))
    have y1 : Ext h1 h12 := (x2.trans x3).trans x12'
    rcases bm2 with ⟨rfl, rfl, rfl, _⟩ | ⟨b2, more, rfl, g1, g2, g3, g4, g5⟩
    · refine hA.roundR Try.func3 r3_ok ?_; (try (conv => cbv)); repeat (refine brk_ok hA ?_; (try (conv => cbv)))
      refine br (False) (by rw [e_lss hA, e_ofNat hA]; rfl) (fun q => q.elim) (fun _ => ?_) <;> (try (conv => cbv)) <;> repeat (refine brk_ok hA ?_; (try (conv => cbv)))
      ((try (conv => cbv)); repeat (refine brk_ok hA ?_; (try (conv => cbv))))
      refine same_ok hA ((x1.trans y1).lowOK hlow) (hl.ext (x1.trans y1)) (t1.recs.ext y1) (by omega) hszn (fun r hm => (hszn r hm).1) (fun bb h14 x14' hbb => ⟨_, rfl, ?_⟩)
      obtain rfl := hbb.2 rfl
      ((try (conv => cbv)); repeat (refine brk_ok hA ?_; (try (conv => cbv))))
      exact hQ h14 ((x1.trans y1).trans x14')
    · refine pokeM_loop hA g1 (by omega) (fun h13 y2 => ?_) 0 (by omega) (by omega) h12 _ y1 (g3.ext (x3.trans x12') g2) (by simp; omega)
      ((try (conv => cbv)); repeat (refine brk_ok hA ?_; (try (conv => cbv))))
      refine same_ok hA ((x1.trans y2).lowOK hlow) (hl.ext (x1.trans y2)) (t1.recs.ext y2) (by omega) hszn (fun r hm => (hszn r hm).1) (fun bb h14 x14' hbb => ⟨_, rfl, ?_⟩)
      obtain rfl := hbb.2 rfl
      ((try (conv => cbv)); repeat (refine brk_ok hA ?_; (try (conv => cbv))))
      exact hQ h14 ((x1.trans y2).trans x14')
  · obtain rfl : n4 = 0 := by omega
    refine hA.roundR Try.func3 r3_ok ?_; (try (conv => cbv)); repeat (refine brk_ok hA ?_; (try (conv => cbv)))
    refine br (False) (by rw [e_lss hA, e_ofNat hA]; rfl) (fun q => q.elim) (fun _ => ?_) <;> (try (conv => cbv)) <;> repeat (refine brk_ok hA ?_; (try (conv => cbv)))
    ((try (conv => cbv)); repeat (refine brk_ok hA ?_; (try (conv => cbv))))
    obtain ⟨h12, hh12⟩ : ∃ z, z = h11 := ⟨_, rfl⟩
    have x12' : Ext h3 h12 := by rw [hh12]; exact x4.trans y411
    rw [← hh12]
    have y1 : Ext h1 h12 := (x2.trans x3).trans x12'
    rcases bm2 with ⟨rfl, rfl, rfl, _⟩ | ⟨b2, more, rfl, g1, g2, g3, g4, g5⟩
    · refine hA.roundR Try.func3 r3_ok ?_; (try (conv => cbv)); repeat (refine brk_ok hA ?_; (try (conv => cbv)))
      refine br (False) (by rw [e_lss hA, e_ofNat hA]; rfl) (fun q => q.elim) (fun _ => ?_) <;> (try (conv => cbv)) <;> repeat (refine brk_ok hA ?_; (try (conv => cbv)))
      ((try (conv => cbv)); repeat (refine brk_ok hA ?_; (try (conv => cbv))))
      refine same_ok hA ((x1.trans y1).lowOK hlow) (hl.ext (x1.trans y1)) (t1.recs.ext y1) (by omega) hszn (fun r hm => (hszn r hm).1) (fun bb h14 x14' hbb => ⟨_, rfl, ?_⟩)
      obtain rfl := hbb.2 rfl
      ((try (conv => cbv)); repeat (refine brk_ok hA ?_; (try (conv => cbv))))
      exact hQ h14 ((x1.trans y1).trans x14')
    · refine pokeM_loop hA g1 (by omega) (fun h13 y2 => ?_) 0 (by omega) (by omega) h12 _ y1 (g3.ext (x3.trans x12') g2) (by simp; omega)
      ((try (conv => cbv)); repeat (refine brk_ok hA ?_; (try (conv => cbv))))
      refine same_ok hA ((x1.trans y2).lowOK hlow) (hl.ext (x1.trans y2)) (t1.recs.ext y2) (by omega) hszn (fun r hm => (hszn r hm).1) (fun bb h14 x14' hbb => ⟨_, rfl, ?_⟩)
      obtain rfl := hbb.2 rfl
      ((try (conv => cbv)); repeat (refine brk_ok hA ?_; (try (conv => cbv))))
      exact hQ h14 ((x1.trans y2).trans x14')

end Go.Proofs.Ytopppccddnplkaa
