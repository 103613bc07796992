/-
  Remake, of the program.
-/
import Derived.Test.YtopppccddnplkaaORNeeds
namespace Go.Proofs.Ytopppccddnplkaa
open Go.Sim
open Classical
set_option linter.unusedVariables false
set_option maxRecDepth 100000

/-- The records whose products one has. -/
def hadI (l : List Rec) (hv : List Str) : Int → Prop := fun j => ∃ s ∈ hv, idxOf l s = j
def lostP (l : List Rec) (hv : List Str) (i0 : Int) : Prop := ∃ j : Int, 0 ≤ j ∧ j < l.length ∧ Due l (hadI l hv) i0 j ∧ (rat l j).how = 1

/-- What Remake answers. -/
def RemIs (l : List Rec) (hv : List Str) (name : Str) (e : Int) (r : List Str) : Prop :=
  (AllIs l e none ∧ r = []) ∨ (∃ ps, AllIs l 0 (some ps) ∧ (idxOf l name = -1 ∨ ∃ s ∈ hv, idxOf l s = -1) ∧ e = 6 ∧ r = []) ∨
    (∃ ps, AllIs l 0 (some ps) ∧ 0 ≤ idxOf l name ∧ (∀ s ∈ hv, 0 ≤ idxOf l s) ∧ ((lostP l hv (idxOf l name) ∧ e = 32 ∧ r = []) ∨ (¬ lostP l hv (idxOf l name) ∧ e = 0 ∧ r = outN l (Due l (hadI l hv) (idxOf l name)) l.length)))
theorem RemIs.uniq {l : List Rec} {hv : List Str} {name : Str} {e e' : Int} {r r' : List Str} (h : RemIs l hv name e r) (h' : RemIs l hv name e' r') : e = e' ∧ r = r' := by
  rcases h with ⟨a, rfl⟩ | ⟨ps, a, b, rfl, rfl⟩ | ⟨ps, a, b, c, d⟩ <;> rcases h' with ⟨a', rfl⟩ | ⟨ps', a', b', rfl, rfl⟩ | ⟨ps', a', b', c', d'⟩
  · exact ⟨(a.uniq a').1, rfl⟩
  · cases (a.uniq a').2
  · cases (a.uniq a').2
  · cases (a.uniq a').2
  · exact ⟨rfl, rfl⟩
  · rcases b with q | ⟨s, m, q⟩
    · omega
    · have := c' s m; omega
  · cases (a.uniq a').2
  · rcases b' with q | ⟨s, m, q⟩
    · omega
    · have := c s m; omega
  · rcases d with ⟨x, rfl, rfl⟩ | ⟨x, rfl, rfl⟩ <;> rcases d' with ⟨x', rfl, rfl⟩ | ⟨x', rfl, rfl⟩
    · exact ⟨rfl, rfl⟩
    · exact absurd x x'
    · exact absurd x' x
    · exact ⟨rfl, rfl⟩

theorem had_iff {l : List Rec} {hv : List Str} {f : Str} (h : 0 ≤ idxOf l f) : hadI l hv (idxOf l f) ↔ f ∈ hv := by
  constructor
  · rintro ⟨s, m, q⟩
    have h1 := idx_name h
    have h2 : (rat l (idxOf l s)).name = s := idx_name (by omega)
    rw [q, h1] at h2
    rw [h2]; exact m
  · exact fun m => ⟨f, m, rfl⟩

/-- Names that have to be made, from the records i and behind it. -/
def DS (l : List Rec) (hv : List Str) (name : Str) (i : Int) (s : Str) : Prop := (s = name ∧ s ∉ hv) ∨ ∃ k, i ≤ k ∧ 0 ≤ k ∧ k < l.length ∧ Due l (hadI l hv) (idxOf l name) k ∧ s ∈ (rat l k).frm ∧ s ∉ hv

theorem ds_due {l : List Rec} (hp : Prov l) {hv : List Str} {name : Str} (hn : 0 ≤ idxOf l name) {i : Int} (h0 : 0 ≤ i) (h1 : i < l.length) : DS l hv name (i + 1) (rat l i).name ↔ Due l (hadI l hv) (idxOf l name) i := by
  have hs := hp.self i h0 h1
  constructor
  · rintro (⟨q1, q2⟩ | ⟨k, _, k0, k1, kd, m, q⟩)
    · rw [q1] at hs q2
      rw [← hs]
      exact .base (fun q => q2 ((had_iff hn).1 q))
    · have hs0 : 0 ≤ idxOf l (rat l i).name := by omega
      exact .step kd k0 k1 ⟨_, m, hs⟩ (fun w => q ((had_iff hs0).1 (by rw [hs]; exact w)))
  · intro h
    cases h with
    | base q => exact .inl ⟨idx_name hn, fun w => q ((had_iff hn).2 (by rw [idx_name hn] at w; exact w))⟩
    | @step k _ hk k0 k1 d n =>
      right
      obtain ⟨f, hf, e⟩ := d
      have hd := hp.down k k0 k1 f hf
      have hnm := idx_name hd.1
      rw [e] at hnm hd
      exact ⟨k, by omega, k0, k1, hk, by rw [hnm]; exact hf, fun w => n (by rw [← e]; exact (had_iff (by omega)).2 (by rw [← hnm]; exact w))⟩
theorem ds_next {l : List Rec} {hv : List Str} {name : Str} {i : Int} (h0 : 0 ≤ i) (h1 : i < l.length) (s : Str) : DS l hv name i s ↔ DS l hv name (i + 1) s ∨ (Due l (hadI l hv) (idxOf l name) i ∧ s ∈ (rat l i).frm ∧ s ∉ hv) := by
  constructor
  · rintro (q | ⟨k, k9, k0, k1, kd, m, q⟩)
    · exact .inl (.inl q)
    · by_cases e : k = i
      · subst e; exact .inr ⟨kd, m, q⟩
      · exact .inl (.inr ⟨k, by omega, k0, k1, kd, m, q⟩)
  · rintro ((q | ⟨k, k9, k0, k1, kd, m, q⟩) | ⟨kd, m, q⟩)
    · exact .inl q
    · exact .inr ⟨k, by omega, k0, k1, kd, m, q⟩
    · exact .inr ⟨i, by omega, h0, h1, kd, m, q⟩
theorem ds_low {l : List Rec} {hv : List Str} {name : Str} {i j : Int} (hij : i ≤ j) {s : Str} (h : DS l hv name j s) : DS l hv name i s := by
  rcases h with q | ⟨k, k9, k0, k1, kd, m, q⟩
  · exact .inl q
  · exact .inr ⟨k, by omega, k0, k1, kd, m, q⟩
theorem ds_end {l : List Rec} (hp : Prov l) {hv : List Str} {name : Str} (hn : 0 ≤ idxOf l name) {j : Int} (h0 : 0 ≤ j) (h1 : j < l.length) : DS l hv name 0 (rat l j).name ↔ Due l (hadI l hv) (idxOf l name) j := by
  constructor
  · rintro (⟨q1, q2⟩ | ⟨k, _, k0, k1, kd, m, q⟩)
    · exact (ds_due hp hn h0 h1).1 (.inl ⟨q1, q2⟩)
    · refine (ds_due hp hn h0 h1).1 (.inr ⟨k, ?_, k0, k1, kd, m, q⟩)
      have := (hp.down k k0 k1 _ m).2
      rw [hp.self j h0 h1] at this
      omega
  · exact fun h => ds_low (by omega) ((ds_due hp hn h0 h1).2 h)

theorem MapS.apart {h : AHeap} {M : Nat} {f : Str → Option Value} (p : MapS h M f) (hM : M < h.next) {h' : AHeap} (e : Ext h h') {M' : Nat} (hM' : h.next ≤ M') : M ≠ M' := by omega
theorem BM.other {h h' : AHeap} {M M' : Nat} {P : Str → Prop} (p : BM h M P) (hne : M ≠ M') (hn : h'.next = h.next) (hg : ∀ i, i ≠ M' → h'.m.get i = h.m.get i) : BM h' M P := by
  obtain ⟨f, h1, h2⟩ := p.ex
  exact ⟨⟨f, h1.of_get (hg M hne), h2⟩, by have := p.lt; omega⟩
theorem PM.other {h h' : AHeap} {lo M M' : Nat} {d : List Rec} {ps : List Bytes} (p : PM h lo M d ps) (hne : M ≠ M') {f' : Str → Option Value} (q : MapS h M' f') (hn : h'.next = h.next) (hg : ∀ i, i ≠ M' → h'.m.get i = h.m.get i) : PM h' lo M d ps := by
  obtain ⟨f, h1, h2⟩ := p.ex
  refine ⟨⟨f, h1.of_get (hg M hne), fun s => ⟨(h2 s).1, fun w => ?_⟩⟩, by have := p.lt; omega⟩
  obtain ⟨a, n, c, w1, w2⟩ := (h2 s).2 w
  exact ⟨a, n, c, w1, w2.keep q hn hg⟩

variable {call : FuncId → List Value → AHeap → (Value → AHeap → Prop) → Prop}
  {head : FuncId → Nat → Nat → SS → (Exit → SS → Prop) → Prop}
  {arith : BinOp → IntKind → Int → Int → Int}
  {cmp : BinOp → Int → Int → Bool}
  {scmp : BinOp → ByteArray → ByteArray → Bool}
  {bnot : Bool → Bool}
  {bsame : Bool → Bool → Bool}
  {conv : IntKind → Int → Int}
  {neg : IntKind → Int → Int}
  {imax : Int → Int → Int}
  {imin : Int → Int → Int}
  {ofNat : Nat → Int}
  {slen : ByteArray → Int}
  {place : Nat → Int → Nat → Nat}
  {inR : Int → Nat → Prop}
  {nz : Int → Prop}
  {geZ : Int → Prop}
  {rd : AHeap → Nat → Nat → Nat → List Value → Prop}
  {wr : AHeap → Nat → Nat → List Value → AHeap → Prop}
  {push : AHeap → Nat → List Value → AHeap}
  {next : AHeap → Nat}
  {mkOK : Int → Int → Prop}
  {nat : Int → Nat}
  {zeros : List Value → Int → List Value}
  {sadd : ByteArray → ByteArray → (ByteArray → Prop) → Prop}
  {eqAgg : TypeId → Array Value → Array Value → (Bool → Prop) → Prop}
  {cut : Nat → Int → Prop}
  {slc : TypeId → Value → Option Value → Option Value → Option Value → (Option Addr → Nat → Nat → Prop) → Prop}
  {sslc : TypeId → ByteArray → Option Value → Option Value → (ByteArray → Prop) → Prop}
  {strAt : ByteArray → Int → (Int → Prop) → Prop}
  {part : TypeId → Array Value → Nat → Value → Prop}
  {app : List TypeId → List Value → AHeap → (Option Addr → Nat → Nat → AHeap → Prop) → Prop}
  {cpy : List TypeId → List Value → AHeap → (Int → AHeap → Prop) → Prop}
  {putAt : AHeap → Nat → Nat → List Value → AHeap}
  {fresh : AHeap → AHeap}
  {lowered : AHeap → AHeap → AHeap}
  {bump : AHeap → Nat → AHeap}
  {wrote : AHeap → AHeap → Bool}
  {addN : Nat → Nat → Nat}
  {lt : Nat → Nat → Prop}
  {ne : Nat → Nat → Prop}
  {fpAll : Bool → Bool → Bool → Nat → Nat → Prop}
  {brk : (Unit → Prop) → Prop}
  {yn : Nat → Nat}
  {rng : FuncId → Nat → SS → (Exit → SS → Prop) → Prop}
  {mget : TypeId → Value → Value → AHeap → Value → Bool → Prop}
  {mput : TypeId → Value → Value → Value → AHeap → AHeap → Prop}
  {mnew : AHeap → AHeap}
  {bytes : TypeId → TypeId → Option Addr → Nat → AHeap → ByteArray → Prop}
  {clr : List TypeId → List Value → AHeap → AHeap → Prop}
  (hA : AOK progU hint prims ⟨call, head, arith, cmp, scmp, bnot, bsame, conv, neg, imax, imin, ofNat, slen, place, inR, nz, geZ, rd, wr, push, next, mkOK, nat, zeros, sadd, eqAgg, cut, slc, sslc, strAt, part, app, cpy, putAt, fresh, lowered, bump, wrote, addN, lt, ne, fpAll, brk, yn, rng, mget, mput, mnew, bytes, clr⟩)
include hA

theorem have_loop {h0 : AHeap} (hlow0 : h0.low ≤ h0.next) {ha : Option Addr} {hn hc : Nat} {hv : List Str} (hh : Strs h0 ha hn hc hv) (hhn : (hn : Int) ≤ 1000000) {M MH lo : Nat} (hMH : h0.next ≤ MH) (hne : M ≠ MH) {l : List Rec} {ps : List Bytes} {al : Option Addr} {nl cl : Nat} {name : Str} {Q : Exit → SS → Prop}
    (h1 : ∀ h', Ext h0 h' → BM h' MH (fun s => s ∈ hv) → (∀ s ∈ hv, 0 ≤ idxOf l s) → Q (.exit 0) ⟨[(0, .slice al nl cl), (2, .string name), (12, .map (some MH))], 0, [], h'⟩)
    (h2 : ∀ e kn K h', Ext h0 h' → (∃ s ∈ hv, idxOf l s = -1) → Q .ret ⟨(7, .int .i64 6) :: (6, .slice none 0 0) :: e, kn, K, h'⟩) :
    ∀ k : Int, 0 ≤ k → k ≤ hn → ∀ h, Ext h0 h → PM h lo M l ps → BM h MH (fun s => s ∈ hv.take k.toNat) → (∀ j : Int, 0 ≤ j → j < k → 0 ≤ idxOf l (sat' hv j)) →
      head 28 9 0 ⟨[(0, .slice al nl cl), (2, .string name), (8, .map (some M)), (12, .map (some MH)), (38, .slice ha hn hc), (39, .int .i64 (ofNat hn)), (40, .int .i64 k)], 0, [], h⟩ Q := by
  have hhl := hh.len
  have bt : bnot true = false := by rw [e_bnot hA]; rfl
  have bf : bnot false = true := by rw [e_bnot hA]; rfl
  have mem : ∀ k : Int, 0 ≤ k → k < hn → sat' hv k ∈ hv := fun k k0 k1 => by
    unfold sat'
    rw [List.getD, List.getElem?_eq_getElem (by omega)]
    exact List.getElem_mem _
  refine countUp (fun k hk0 hkn ih h e hp hb hall => ?_)
  refine hA.roundR Try.func28 r28_ok ?_; (try (conv => cbv)); repeat (refine brk_ok hA ?_; (try (conv => cbv)))
  refine br (k < hn) (by rw [e_lss hA, e_ofNat hA]) (fun c1 => ?_) (fun c1 => ?_) <;> (try (conv => cbv)) <;> repeat (refine brk_ok hA ?_; (try (conv => cbv)))
  · obtain ⟨b, o, s, hae, hbn, hs, hrd⟩ := (hh.ext e).at hk0 c1
    refine ⟨b, o, hae, in_ok hA hk0 c1, ?_⟩
    ((try (conv => cbv)); repeat (refine brk_ok hA ?_; (try (conv => cbv))))
    refine ⟨s, rd_ok hA hrd, ?_⟩
    ((try (conv => cbv)); repeat (refine brk_ok hA ?_; (try (conv => cbv))))
    obtain ⟨ga, gn, gc, gb, g1, g2⟩ := mget_ok hA hp s
    refine ⟨ga, gn, gc, gb, g1, ?_⟩
    rcases g2 with ⟨rfl, g2, _⟩ | ⟨rfl, g2⟩
    rotate_left
    · ((try (conv => cbv)); repeat (refine brk_ok hA ?_; (try (conv => cbv))))
      rw [bf]
      ((try (conv => cbv)); repeat (refine brk_ok hA ?_; (try (conv => cbv))))
      exact h2 _ _ _ h e ⟨s, by rw [hs]; exact mem k hk0 c1, g2⟩
    ((try (conv => cbv)); repeat (refine brk_ok hA ?_; (try (conv => cbv))))
    rw [bt]
    ((try (conv => cbv)); repeat (refine brk_ok hA ?_; (try (conv => cbv))))
    obtain ⟨h', u1, u2, u3, u4, u5⟩ := hb.put s true
    have u1' : mput 70 (.map (some MH)) (.string s) (.bool true) h h' := by rw [e_mput hA]; exact u1
    refine ⟨h', u1', ?_⟩
    ((try (conv => cbv)); repeat (refine brk_ok hA ?_; (try (conv => cbv))))
    rw [add64 hA (by omega) (by omega)]
    obtain ⟨f', m', _⟩ := hb.ex
    refine ih c1 h' (u5 h0 e hMH) (hp.other hne m' u3 u4) (u2.cong (fun u => ?_)) (fun j j0 j1 => ?_)
    · have htk : hv.take (k + 1).toNat = hv.take k.toNat ++ [sat' hv k] := by
        rw [toNat_succ hk0, List.take_add_one, getD_some hv k.toNat ByteArray.empty (by omega)]
        rfl
      rw [htk, ← hs, List.mem_append, List.mem_singleton]
      by_cases eu : u = s <;> simp [eu]
    · by_cases ej : j = k
      · rw [ej, ← hs]; exact g2
      · exact hall j j0 (by omega)
  · rw [List.take_of_length_le (by omega)] at hb
    refine h1 h e hb (fun s hs => ?_)
    obtain ⟨j, hj⟩ := List.getElem?_of_mem hs
    have hjl : j < hv.length := (List.getElem?_eq_some_iff.1 hj).1
    have := hall j (by omega) (by omega)
    unfold sat' at this
    rw [Int.toNat_natCast, List.getD, hj] at this
    exact this

theorem dput_loop {h0 : AHeap} {fa : Option Addr} {fn fc : Nat} {fs : List Str} (hf : Strs h0 fa fn fc fs) (hfn : (fn : Int) ≤ 1000000) {MH MD : Nat} (hMD : h0.next ≤ MD) (hne : MH ≠ MD) {hv : List Str} {P : Str → Prop} (hP : ∀ s, P s → s ∉ hv) {al : Option Addr} {nl cl : Nat} {j : Int} {Q : Exit → SS → Prop}
    (h1 : ∀ h', Ext h0 h' → BM h' MD (fun s => P s ∨ (s ∈ fs ∧ s ∉ hv)) → BM h' MH (fun s => s ∈ hv) → Q (.exit 4) ⟨[(0, .slice al nl cl), (12, .map (some MH)), (17, .map (some MD)), (18, .int .i64 j)], 0, [], h'⟩) :
    ∀ k : Int, 0 ≤ k → k ≤ fn → ∀ h, Ext h0 h → BM h MD (fun s => P s ∨ (s ∈ fs.take k.toNat ∧ s ∉ hv)) → BM h MH (fun s => s ∈ hv) → head 28 25 0 ⟨[(0, .slice al nl cl), (12, .map (some MH)), (17, .map (some MD)), (18, .int .i64 j), (87, .slice fa fn fc), (88, .int .i64 (ofNat fn)), (89, .int .i64 k)], 0, [], h⟩ Q := by
  have hfl := hf.len
  refine countUp (fun k hk0 hkn ih h e hb hh => ?_)
  refine hA.roundR Try.func28 r28_ok ?_; (try (conv => cbv)); repeat (refine brk_ok hA ?_; (try (conv => cbv)))
  refine br (k < fn) (by rw [e_lss hA, e_ofNat hA]) (fun c1 => ?_) (fun c1 => ?_) <;> (try (conv => cbv)) <;> repeat (refine brk_ok hA ?_; (try (conv => cbv)))
  · obtain ⟨b, o, s, hae, hbn, hs, hrd⟩ := (hf.ext e).at hk0 c1
    refine ⟨b, o, hae, in_ok hA hk0 c1, ?_⟩
    ((try (conv => cbv)); repeat (refine brk_ok hA ?_; (try (conv => cbv))))
    refine ⟨s, rd_ok hA hrd, ?_⟩
    ((try (conv => cbv)); repeat (refine brk_ok hA ?_; (try (conv => cbv))))
    obtain ⟨bb, r, g1, g2⟩ := bm_get hA hh s
    refine ⟨bb, r, g1, ?_⟩
    ((try (conv => cbv)); repeat (refine brk_ok hA ?_; (try (conv => cbv))))
    have hbn' : bnot bb = !bb := e_bnot hA bb
    rw [hbn']
    obtain ⟨h', u1, u2, u3, u4, u5⟩ := hb.put s (!bb)
    have u1' : mput 70 (.map (some MD)) (.string s) (.bool (!bb)) h h' := by rw [e_mput hA]; exact u1
    obtain ⟨nb, hnb⟩ : ∃ v, v = !bb := ⟨_, rfl⟩
    rw [← hnb] at u1' u2 ⊢
    refine ⟨h', u1', ?_⟩
    ((try (conv => cbv)); repeat (refine brk_ok hA ?_; (try (conv => cbv))))
    rw [add64 hA (by omega) (by omega)]
    refine ih c1 h' (u5 h0 e hMD) (u2.cong (fun u => ?_)) (hh.other hne u3 u4)
    have htk : fs.take (k + 1).toNat = fs.take k.toNat ++ [sat' fs k] := by
      rw [toNat_succ hk0, List.take_add_one, getD_some fs k.toNat ByteArray.empty (by omega)]
      rfl
    rw [htk, ← hs, List.mem_append, List.mem_singleton]
    by_cases eu : u = s
    · subst eu
      cases bb with
      | true =>
        have hin := g2.1 rfl
        simp [hnb, hin]
        exact fun q => hP u q hin
      | false =>
        have hin : u ∉ hv := fun q => by have := g2.2 q; cases this
        simp [hnb, hin]
    · simp [eu]
  · rw [List.take_of_length_le (by omega)] at hb
    exact h1 h e hb hh

theorem due_loop {h0 : AHeap} (hlow0 : h0.low ≤ h0.next) {al : Option Addr} {nl cl : Nat} {l : List Rec} (hl : Recs h0 al nl l) (hnl : (nl : Int) ≤ 40) (hok : okL l) (hp : Prov l) {hv : List Str} {name : Str} (hi : 0 ≤ idxOf l name) {MH MD : Nat} (hMD : h0.next ≤ MD) (hne : MH ≠ MD) {Q : Exit → SS → Prop}
    (h1 : ∀ h', Ext h0 h' → BM h' MD (DS l hv name 0) → ¬ lostP l hv (idxOf l name) → Q (.exit 2) ⟨[(0, .slice al nl cl), (17, .map (some MD))], 0, [], h'⟩)
    (h2 : ∀ e kn K h', Ext h0 h' → lostP l hv (idxOf l name) → Q .ret ⟨(7, .int .i64 32) :: (6, .slice none 0 0) :: e, kn, K, h'⟩) :
    ∀ i : Int, 0 ≤ i → i ≤ nl → ∀ j : Int, j = i - 1 → ∀ h, Ext h0 h → BM h MD (DS l hv name i) → BM h MH (fun s => s ∈ hv) → (∀ k : Int, i ≤ k → k < nl → Due l (hadI l hv) (idxOf l name) k → (rat l k).how ≠ 1) →
      head 28 19 0 ⟨[(0, .slice al nl cl), (12, .map (some MH)), (17, .map (some MD)), (18, .int .i64 j)], 0, [], h⟩ Q := by
  have hll := hl.len
  have bt : bnot true = false := by rw [e_bnot hA]; rfl
  have bf : bnot false = true := by rw [e_bnot hA]; rfl
  refine countDown (fun i hi0 ih hin j hj h e hb hh hno => ?_)
  refine hA.roundR Try.func28 r28_ok ?_; (try (conv => cbv)); repeat (refine brk_ok hA ?_; (try (conv => cbv)))
  refine br (0 ≤ j) (by rw [e_geq hA]) (fun c1 => ?_) (fun c1 => ?_) <;> (try (conv => cbv)) <;> repeat (refine brk_ok hA ?_; (try (conv => cbv)))
  · obtain ⟨b, o, x, hae, hbn, rel, _, r0, r1, r2, _⟩ := hl.at2 e c1 (by omega)
    obtain ⟨ok1, ok2, ok3⟩ := okL_at hok c1 (by omega : j < l.length)
    obtain ⟨xnm, xhow, xfa, xfn, xfc, xarg, xda, xdn, xdc, xdg⟩ := x
    have hnm : xnm = (rat l j).name := rel.name
    have hhw : xhow = (rat l j).how := rel.how
    have hfr : Strs h0 xfa xfn xfc (rat l j).frm := rel.frm
    have hfl := hfr.len
    simp only [] at r0 r1 r2
    have hij : i = j + 1 := by omega
    have hdue := ds_due (hv := hv) hp hi c1 (by omega : j < l.length)
    rw [← hij, ← hnm] at hdue
    have hnx := ds_next (hv := hv) (name := name) c1 (by omega : j < l.length)
    rw [← hij] at hnx
    have hback : arith .sub .i64 j 1 = j - 1 := sub64 hA (by omega) (by omega)
    refine ⟨b, o, hae, in_ok hA c1 (by omega), ?_⟩
    ((try (conv => cbv)); repeat (refine brk_ok hA ?_; (try (conv => cbv))))
    refine ⟨xnm, rd_fld hA r0, ?_⟩
    ((try (conv => cbv)); repeat (refine brk_ok hA ?_; (try (conv => cbv))))
    obtain ⟨bb, r, g1, g2⟩ := bm_get hA hb xnm
    rw [hdue] at g2
    refine ⟨bb, r, g1, ?_⟩
    cases bb with
    | false =>
      have hnd : ¬ Due l (hadI l hv) (idxOf l name) j := fun q => by have := g2.2 q; cases this
      ((try (conv => cbv)); repeat (refine brk_ok hA ?_; (try (conv => cbv))))
      rw [bf]
      ((try (conv => cbv)); repeat (refine brk_ok hA ?_; (try (conv => cbv))))
      rw [hback]
      refine ih (by omega) (by omega) _ (by omega) h e (hb.cong (fun s => ?_)) hh (fun k k0 k1 kd => ?_)
      · rw [show i - 1 = j by omega, hnx s]
        exact ⟨.inl, fun q => q.elim id (fun q => absurd q.1 hnd)⟩
      · by_cases ek : k = j
        · rw [ek] at kd; exact absurd kd hnd
        · exact hno k (by omega) k1 kd
    | true =>
      have hd := g2.1 rfl
      ((try (conv => cbv)); repeat (refine brk_ok hA ?_; (try (conv => cbv))))
      rw [bt]
      ((try (conv => cbv)); repeat (refine brk_ok hA ?_; (try (conv => cbv))))
      refine ⟨b, o, hae, in_ok hA c1 (by omega), ?_⟩
      ((try (conv => cbv)); repeat (refine brk_ok hA ?_; (try (conv => cbv))))
      refine ⟨xhow, rd_fld hA r1, ?_⟩
      ((try (conv => cbv)); repeat (refine brk_ok hA ?_; (try (conv => cbv))))
      refine br (xhow = 1) (by rw [e_eql hA]) (fun c2 => ?_) (fun c2 => ?_) <;> (try (conv => cbv)) <;> repeat (refine brk_ok hA ?_; (try (conv => cbv)))
      · exact h2 _ _ _ h e ⟨j, c1, by omega, hd, by rw [← hhw]; exact c2⟩
      refine ⟨b, o, hae, in_ok hA c1 (by omega), ?_⟩
      ((try (conv => cbv)); repeat (refine brk_ok hA ?_; (try (conv => cbv))))
      refine ⟨xfa, xfn, xfc, rd_fld hA r2, ?_⟩
      ((try (conv => cbv)); repeat (refine brk_ok hA ?_; (try (conv => cbv))))
      refine dput_loop hA hfr (by omega) hMD hne (hv := hv) (P := DS l hv name i) (fun s q => ?_) (fun h' e' hb' hh' => ?_) 0 (by omega) (by omega) h e (hb.cong (fun s => by simp)) hh
      · rcases q with ⟨_, q⟩ | ⟨k, _, _, _, _, _, q⟩ <;> exact q
      · ((try (conv => cbv)); repeat (refine brk_ok hA ?_; (try (conv => cbv))))
        rw [hback]
        refine ih (by omega) (by omega) _ (by omega) h' e' (hb'.cong (fun s => ?_)) hh' (fun k k0 k1 kd => ?_)
        · rw [show i - 1 = j by omega, hnx s]
          exact ⟨fun q => q.elim .inl (fun q => .inr ⟨hd, q.1, q.2⟩), fun q => q.elim .inl (fun q => .inr q.2)⟩
        · by_cases ek : k = j
          · rw [ek, ← hhw]; exact c2
          · exact hno k (by omega) k1 kd
  · have : i = 0 := by omega
    subst this
    refine h1 h e hb ?_
    rintro ⟨k, k0, k1, kd, kh⟩
    exact hno k k0 (by omega) kd kh

theorem remake_ok {h : AHeap} (hlow : h.low ≤ h.next) {al : Option Addr} {nl cl : Nat} {l : List Rec} (hl : Recs h al nl l) (hok : l.length ≤ 40 → okL l) {ha : Option Addr} {hn hc : Nat} {hv : List Str} (hh : Strs h ha hn hc hv) (hhn : (hn : Int) ≤ 1000000) {name : Str} {Q : Value → AHeap → Prop}
    (hQ : ∀ a n c e r h', Ext h h' → Strs h' a n c r → RemIs l hv name e r → (n : Int) ≤ 40 → Q (.tuple #[.slice a n c, .int .i64 e]) h') : call 28 [.slice al nl cl, .slice ha hn hc, .string name] h Q := by
  have hll := hl.len
  have bt : bnot true = false := by rw [e_bnot hA]; rfl
  have bf : bnot false = true := by rw [e_bnot hA]; rfl
  refine hA.bodyR Try.func28 r28_ok (show prims _ _ _ = none from rfl) hlow ?_; (try (conv => cbv)); repeat (refine brk_ok hA ?_; (try (conv => cbv)))
  refine prods_ok hA hlow hl hok (fun M ps h1 e1 hp hall hM => ⟨_, _, rfl, ?_⟩) (fun e h1 e1 hall => ⟨_, _, rfl, ?_⟩)
  rotate_left
  · ((try (conv => cbv)); repeat (refine brk_ok hA ?_; (try (conv => cbv))))
    have he : e ≠ 0 := fun q => by have := hall.zero.1 q; exact this rfl
    refine br (e ≠ 0) (by rw [e_neq hA]) (fun _ => ?_) (fun q => absurd he q) <;> (try (conv => cbv)) <;> repeat (refine brk_ok hA ?_; (try (conv => cbv)))
    exact hQ _ _ _ _ _ h1 e1 (Strs.nil h1) (.inl ⟨hall, rfl⟩) (by omega)
  ((try (conv => cbv)); repeat (refine brk_ok hA ?_; (try (conv => cbv))))
  refine br (False) (by rw [e_neq hA]; rfl) (fun q => q.elim) (fun _ => ?_) <;> (try (conv => cbv)) <;> repeat (refine brk_ok hA ?_; (try (conv => cbv)))
  obtain ⟨pv, hform, h40⟩ := hall.prov
  obtain ⟨ga, gn, gc, gb, g1, g2⟩ := mget_ok hA hp name
  refine ⟨ga, gn, gc, gb, g1, ?_⟩
  rcases g2 with ⟨rfl, g2, _⟩ | ⟨rfl, g2⟩
  rotate_left
  · ((try (conv => cbv)); repeat (refine brk_ok hA ?_; (try (conv => cbv))))
    rw [bf]
    ((try (conv => cbv)); repeat (refine brk_ok hA ?_; (try (conv => cbv))))
    exact hQ _ _ _ _ _ h1 e1 (Strs.nil h1) (.inr (.inl ⟨ps, hall, .inl g2, rfl, rfl⟩)) (by omega)
  ((try (conv => cbv)); repeat (refine brk_ok hA ?_; (try (conv => cbv))))
  rw [bt]
  ((try (conv => cbv)); repeat (refine brk_ok hA ?_; (try (conv => cbv))))
  simp only [e_next hA, e_mnew hA]
  obtain ⟨MH, hMH⟩ : ∃ v, v = h1.next := ⟨_, rfl⟩
  have e2 := Ext.pushB h1 (.map [])
  have m2 := MapS.new h1
  have n2 : (h1.pushB (.map [])).next = h1.next + 1 := rfl
  generalize h1.pushB (.map []) = h2 at *
  rw [← hMH] at m2 n2 ⊢
  have e12 := e1.trans e2
  have hen := e1.next
  have hplt := hp.lt
  refine have_loop hA hlow hh hhn (M := M) (MH := MH) (lo := h.next) (l := l) (ps := ps) (by omega) (by omega) (fun h3 e3 hb3 hknown => ?_) (fun e kn K h3 e3 hlack => ?_) 0 (by omega) (by omega) h2 e12 (hp.ext e2) ⟨⟨_, m2, fun s => ⟨fun q => by simp at q, fun _ => .inl rfl⟩⟩, by omega⟩ (fun j j0 j1 => by omega)
  rotate_left
  · ((try (conv => cbv)); repeat (refine brk_ok hA ?_; (try (conv => cbv))))
    exact hQ _ _ _ _ _ h3 e3 (Strs.nil h3) (.inr (.inl ⟨ps, hall, .inr hlack, rfl, rfl⟩)) (by omega)
  ((try (conv => cbv)); repeat (refine brk_ok hA ?_; (try (conv => cbv))))
  simp only [e_next hA, e_mnew hA]
  obtain ⟨MD, hMD⟩ : ∃ v, v = h3.next := ⟨_, rfl⟩
  have e4 := Ext.pushB h3 (.map [])
  have m4 := MapS.new h3
  have n4 : (h3.pushB (.map [])).next = h3.next + 1 := rfl
  have hb4 := hb3.ext e4
  have hblt := hb3.lt
  generalize h3.pushB (.map []) = h4 at *
  rw [← hMD] at m4 n4 ⊢
  have e34 := e3.trans e4
  have hen3 := e3.next
  have hd4 : BM h4 MD (fun _ => False) := ⟨⟨_, m4, fun s => ⟨fun q => q.elim, fun _ => .inl rfl⟩⟩, by omega⟩
  obtain ⟨bb, r, q1, q2⟩ := bm_get hA hb4 name
  refine ⟨bb, r, q1, ?_⟩
  ((try (conv => cbv)); repeat (refine brk_ok hA ?_; (try (conv => cbv))))
  have hbn' : bnot bb = !bb := e_bnot hA bb
  rw [hbn']
  obtain ⟨h5, u1, u2, u3, u4, u5⟩ := hd4.put name (!bb)
  have u1' : mput 70 (.map (some MD)) (.string name) (.bool (!bb)) h4 h5 := by rw [e_mput hA]; exact u1
  obtain ⟨nb, hnb⟩ : ∃ v, v = !bb := ⟨_, rfl⟩
  rw [← hnb] at u1' u2 ⊢
  refine ⟨h5, u1', ?_⟩
  ((try (conv => cbv)); repeat (refine brk_ok hA ?_; (try (conv => cbv))))
  rw [e_ofNat hA, sub64 hA (by omega) (by omega)]
  obtain ⟨jj, hjj⟩ : ∃ v, v = (nl : Int) - 1 := ⟨_, rfl⟩
  rw [← hjj]
  have hne : MH ≠ MD := by omega
  have hbase : ∀ s, ((s = name ∧ nb = true) ∨ (s ≠ name ∧ False)) ↔ DS l hv name nl s := by
    intro s
    have hnin : nb = true ↔ name ∉ hv := by
      rw [hnb, ← q2]; cases bb <;> simp
    constructor
    · rintro (⟨rfl, q⟩ | ⟨_, q⟩)
      · exact .inl ⟨rfl, hnin.1 q⟩
      · exact q.elim
    · rintro (⟨rfl, q⟩ | ⟨k, k9, k0, k1, _⟩)
      · exact .inl ⟨rfl, hnin.2 q⟩
      · omega
  refine due_loop hA hlow hl (by omega) (hok h40) pv g2 (MH := MH) (MD := MD) (by omega) hne (fun h6 e6 hb6 hnl => ?_) (fun e kn K h6 e6 hlost => ?_) nl (by omega) (by omega) jj hjj h5 (u5 h e34 (by omega)) (u2.cong hbase) (hb4.other hne u3 u4) (fun k k0 k1 => by omega)
  · ((try (conv => cbv)); repeat (refine brk_ok hA ?_; (try (conv => cbv))))
    refine chosen_ok hA (e6.lowOK hlow) (hl.ext e6) (by omega) hb6 (fun a n c h7 e7 ho => ⟨_, _, _, rfl, ?_⟩)
    ((try (conv => cbv)); repeat (refine brk_ok hA ?_; (try (conv => cbv))))
    have hcg := outN_cong (l := l) (p := fun j => DS l hv name 0 (rat l j).name) (q := fun j => Due l (hadI l hv) (idxOf l name) j) l.length (fun j j0 j1 => ds_end pv g2 j0 j1)
    have hol := outN_len l (fun j => DS l hv name 0 (rat l j).name) l.length
    have hon := ho.len
    rw [hcg] at ho
    exact hQ _ _ _ _ _ h7 (e6.trans e7) ho.strs (.inr (.inr ⟨ps, hall, g2, hknown, .inr ⟨hnl, rfl, rfl⟩⟩)) (by omega)
  · ((try (conv => cbv)); repeat (refine brk_ok hA ?_; (try (conv => cbv))))
    exact hQ _ _ _ _ _ h6 e6 (Strs.nil h6) (.inr (.inr ⟨ps, hall, g2, hknown, .inl ⟨hlost, rfl, rfl⟩⟩)) (by omega)

end Go.Proofs.Ytopppccddnplkaa
