/-
  ALL PRODUCTS (origin.products).
-/
import Derived.Test.YtopppccddnplkaaOMap
namespace Go.Proofs.Ytopppccddnplkaa
open Go.Sim
set_option linter.unusedVariables false
set_option maxRecDepth 100000

/-- The records, one behind the other; the error of the first one that has one, or all products. -/
inductive Alls : List Rec → List Bytes → List Rec → Int → Option (List Bytes) → Prop
  | nil (d : List Rec) (ps : List Bytes) : Alls d ps [] 0 (some ps)
  | twice {d : List Rec} {ps : List Bytes} {r : Rec} {l : List Rec} (h : 0 ≤ idxOf d r.name) : Alls d ps (r :: l) 14 none
  | lacks {d : List Rec} {ps : List Bytes} {r : Rec} {l : List Rec} (h : idxOf d r.name = -1) (h2 : ∃ f ∈ r.frm, idxOf d f = -1) : Alls d ps (r :: l) 6 none
  | bad {d : List Rec} {ps : List Bytes} {r : Rec} {l : List Rec} (h : idxOf d r.name = -1) (h2 : ∀ f ∈ r.frm, 0 ≤ idxOf d f) (h3 : ¬ formP r) : Alls d ps (r :: l) 8 none
  | big {d : List Rec} {ps : List Bytes} {r : Rec} {l : List Rec} (h : idxOf d r.name = -1) (h2 : ∀ f ∈ r.frm, 0 ≤ idxOf d f) (h3 : formP r) (h4 : 1000 < (madeS r (insOf d ps r)).length) : Alls d ps (r :: l) 16 none
  | go {d : List Rec} {ps : List Bytes} {r : Rec} {l : List Rec} {e : Int} {o : Option (List Bytes)} (h : idxOf d r.name = -1) (h2 : ∀ f ∈ r.frm, 0 ≤ idxOf d f) (h3 : formP r) (h4 : (madeS r (insOf d ps r)).length ≤ 1000) (t : Alls (d ++ [r]) (ps ++ [madeS r (insOf d ps r)]) l e o) : Alls d ps (r :: l) e o

theorem lack_no {d : List Rec} {r : Rec} (h : ∃ f ∈ r.frm, idxOf d f = -1) : ¬ ∀ f ∈ r.frm, 0 ≤ idxOf d f := by
  rintro q
  obtain ⟨f, h1, h2⟩ := h
  have := q f h1
  omega

theorem Alls.uniq {d : List Rec} {ps : List Bytes} {l : List Rec} {e e' : Int} {o o' : Option (List Bytes)} (h : Alls d ps l e o) (h' : Alls d ps l e' o') : e = e' ∧ o = o' := by
  induction h generalizing e' o' with
  | nil d ps => cases h'; exact ⟨rfl, rfl⟩
  | twice a =>
    cases h' with
    | twice a' => exact ⟨rfl, rfl⟩
    | lacks a' => omega
    | bad a' => omega
    | big a' => omega
    | go a' => omega
  | lacks a b =>
    cases h' with
    | twice a' => omega
    | lacks a' => exact ⟨rfl, rfl⟩
    | bad a' b' => exact absurd b' (lack_no b)
    | big a' b' => exact absurd b' (lack_no b)
    | go a' b' => exact absurd b' (lack_no b)
  | bad a b c =>
    cases h' with
    | twice a' => omega
    | lacks a' b' => exact absurd b (lack_no b')
    | bad a' b' c' => exact ⟨rfl, rfl⟩
    | big a' b' c' => exact absurd c' c
    | go a' b' c' => exact absurd c' c
  | big a b c q =>
    cases h' with
    | twice a' => omega
    | lacks a' b' => exact absurd b (lack_no b')
    | bad a' b' c' => exact absurd c c'
    | big a' b' c' => exact ⟨rfl, rfl⟩
    | go a' b' c' q' => omega
  | go a b c q t ih =>
    cases h' with
    | twice a' => omega
    | lacks a' b' => exact absurd b (lack_no b')
    | bad a' b' c' => exact absurd c c'
    | big a' b' c' q' => omega
    | go a' b' c' q' t' => exact ih t'

/-- What products (or All) answers. -/
def AllIs (l : List Rec) (e : Int) (o : Option (List Bytes)) : Prop := (40 < l.length ∧ e = 4 ∧ o = none) ∨ (l.length ≤ 40 ∧ Alls [] [] l e o)
theorem AllIs.uniq {l : List Rec} {e e' : Int} {o o' : Option (List Bytes)} (h : AllIs l e o) (h' : AllIs l e' o') : e = e' ∧ o = o' := by
  rcases h with ⟨a, rfl, rfl⟩ | ⟨a, b⟩ <;> rcases h' with ⟨a', rfl, rfl⟩ | ⟨a', b'⟩
  · exact ⟨rfl, rfl⟩
  · omega
  · omega
  · exact b.uniq b'

/-- Records that are not great. -/
def okL (l : List Rec) : Prop := ∀ r ∈ l, okR r ∧ r.name.size ≤ 1000000 ∧ r.frm.length ≤ 1000
theorem okL_at {l : List Rec} (h : okL l) {i : Int} (h0 : 0 ≤ i) (h1 : i < l.length) : okR (rat l i) ∧ (rat l i).name.size ≤ 1000000 ∧ (rat l i).frm.length ≤ 1000 := by
  refine h _ ?_
  unfold rat
  rw [List.getD, List.getElem?_eq_getElem (by omega)]
  exact List.getElem_mem _
theorem drop_rat {l : List Rec} {i : Int} (h0 : 0 ≤ i) (hi : i < l.length) : l.drop i.toNat = rat l i :: l.drop (i + 1).toNat := by
  rw [toNat_succ h0, List.drop_eq_getElem_cons (by omega : i.toNat < l.length)]
  congr 1
  unfold rat
  rw [List.getD_eq_getElem?_getD, List.getElem?_eq_getElem (by omega)]
  rfl
theorem take_rat {l : List Rec} {i : Int} (h0 : 0 ≤ i) (hi : i < l.length) : l.take (i + 1).toNat = l.take i.toNat ++ [rat l i] := by
  rw [toNat_succ h0, List.take_add_one, getD_some l i.toNat noRec (by omega)]
  rfl

theorem rat_app_lt {d : List Rec} {r : Rec} {i : Int} (h0 : 0 ≤ i) (h1 : i < d.length) : rat (d ++ [r]) i = rat d i := by
  unfold rat
  rw [List.getD, List.getElem?_append_left (by omega)]
  rfl
theorem rat_app_eq {d : List Rec} {r : Rec} : rat (d ++ [r]) d.length = r := by
  unfold rat
  rw [Int.toNat_natCast, List.getD, List.getElem?_append_right (Nat.le_refl _), Nat.sub_self]
  rfl
/-- Where a name is among one record more. -/
theorem idx_snoc (d : List Rec) (r : Rec) (s : Str) : idxOf (d ++ [r]) s = if 0 ≤ idxOf d s then idxOf d s else if r.name = s then (d.length : Int) else -1 := by
  rcases idx_cases d s with ⟨q1, q2⟩ | ⟨q1, q2, q3, q4⟩
  · rw [if_neg (by omega)]
    by_cases e : r.name = s
    · rw [if_pos e]
      refine idx_at (by omega) (by simp; omega) (by rw [rat_app_eq]; exact e) (fun j j0 j1 => ?_)
      rw [rat_app_lt j0 j1]
      exact q2 j j0 j1
    · rw [if_neg e]
      refine idx_none (fun j j0 j1 => ?_)
      rw [List.length_append, List.length_singleton] at j1
      by_cases ej : j < d.length
      · rw [rat_app_lt j0 ej]; exact q2 j j0 ej
      · have : j = d.length := by omega
        rw [this, rat_app_eq]; exact e
  · rw [if_pos q1]
    refine idx_at q1 (by simp; omega) (by rw [rat_app_lt q1 q2]; exact q3) (fun j j0 j1 => ?_)
    rw [rat_app_lt j0 (by omega)]
    exact q4 j j0 j1
theorem bat_app_lt {ps : List Bytes} {p : Bytes} {i : Int} (h0 : 0 ≤ i) (h1 : i < ps.length) : bat (ps ++ [p]) i = bat ps i := by
  unfold bat
  rw [List.getD, List.getElem?_append_left (by omega)]
  rfl
theorem bat_app_eq {ps : List Bytes} {p : Bytes} : bat (ps ++ [p]) ps.length = p := by
  unfold bat
  rw [Int.toNat_natCast, List.getD, List.getElem?_append_right (Nat.le_refl _), Nat.sub_self]
  rfl

theorem MapS.ne {h : AHeap} {M : Nat} {f : Str → Option Value} (p : MapS h M f) {b es : Nat} {cs : List Value} (o : Own h b es cs) : b ≠ M := by
  rintro rfl
  obtain ⟨kv, h1, _⟩ := p.ex
  have : h.m.get b = some (.live true es cs) := o
  rw [this] at h1
  cases h1
theorem BMem.keep {h h' : AHeap} {lo : Nat} {a : Option Addr} {n c : Nat} {l : Bytes} (p : BMem h lo a n c l) {M : Nat} {f : Str → Option Value} (hM : MapS h M f) (hn : h'.next = h.next) (hg : ∀ i, i ≠ M → h'.m.get i = h.m.get i) : BMem h' lo a n c l := by
  rcases p with q | ⟨b, more, rfl, hlo, hb, ho, hl, hcap⟩
  · exact .inl q
  · exact .inr ⟨b, more, rfl, hlo, by omega, ho.of_get (hg b (hM.ne ho)), hl, hcap⟩
/-- One product more. -/
theorem PM.add {h : AHeap} {lo M : Nat} {d : List Rec} {ps : List Bytes} (p : PM h lo M d ps) {r : Rec} (hr : idxOf d r.name = -1) (hlen : ps.length = d.length) {a : Option Addr} {n c : Nat} {b : Bytes} (hb : BMem h lo a n c b) :
    ∃ h', updateH Try.prog h 63 (.map (some M)) (.string r.name) (.slice a n c) = some (undef, h') ∧ PM h' lo M (d ++ [r]) (ps ++ [b]) ∧ h'.next = h.next ∧ (∀ i, i ≠ M → h'.m.get i = h.m.get i) ∧ (∀ h0, Ext h0 h → h0.next ≤ M → Ext h0 h') := by
  obtain ⟨f, m1, m2⟩ := p.ex
  obtain ⟨h', w1, w2, w3, w4, w5⟩ := m1.put T63 r.name (.slice a n c) rfl
  refine ⟨h', w1, ⟨⟨_, w2, fun s => ?_⟩, by have := p.lt; omega⟩, w3, w4, w5⟩
  rw [idx_snoc]
  by_cases e : s = r.name
  · subst e
    rw [if_neg (by omega), if_pos rfl, if_pos rfl]
    refine ⟨fun q => by omega, fun _ => ⟨a, n, c, rfl, ?_⟩⟩
    have : bat (ps ++ [b]) (d.length : Int) = b := by rw [← hlen]; exact bat_app_eq
    rw [this]
    exact hb.keep m1 w3 w4
  · rw [if_neg e]
    rcases idx_cases d s with ⟨q, _⟩ | ⟨q, q2, _⟩
    · rw [if_neg (by omega), if_neg (fun x => e x.symm)]
      exact ⟨fun _ => (m2 s).1 q, fun x => by omega⟩
    · rw [if_pos q]
      refine ⟨fun x => by omega, fun _ => ?_⟩
      obtain ⟨a', n', c', v1, v2⟩ := (m2 s).2 q
      exact ⟨a', n', c', v1, by rw [bat_app_lt q (by omega)]; exact v2.keep m1 w3 w4⟩

variable {call : FuncId → List Value → AHeap → (Value → AHeap → Prop) → Prop}
  {head : FuncId → Nat → Nat → SS → (Exit → SS → Prop) → Prop}
  {arith : BinOp → IntKind → Int → Int → Int}
  {cmp : BinOp → Int → Int → Bool}
  {scmp : BinOp → ByteArray → ByteArray → Bool}
  {bnot : Bool → Bool}
  {bsame : Bool → Bool → Bool}
  {conv : IntKind → Int → Int}
  {neg : IntKind → Int → Int}
  {imax : Int → Int → Int}
  {imin : Int → Int → Int}
  {ofNat : Nat → Int}
  {slen : ByteArray → Int}
  {place : Nat → Int → Nat → Nat}
  {inR : Int → Nat → Prop}
  {nz : Int → Prop}
  {geZ : Int → Prop}
  {rd : AHeap → Nat → Nat → Nat → List Value → Prop}
  {wr : AHeap → Nat → Nat → List Value → AHeap → Prop}
  {push : AHeap → Nat → List Value → AHeap}
  {next : AHeap → Nat}
  {mkOK : Int → Int → Prop}
  {nat : Int → Nat}
  {zeros : List Value → Int → List Value}
  {sadd : ByteArray → ByteArray → (ByteArray → Prop) → Prop}
  {eqAgg : TypeId → Array Value → Array Value → (Bool → Prop) → Prop}
  {cut : Nat → Int → Prop}
  {slc : TypeId → Value → Option Value → Option Value → Option Value → (Option Addr → Nat → Nat → Prop) → Prop}
  {sslc : TypeId → ByteArray → Option Value → Option Value → (ByteArray → Prop) → Prop}
  {strAt : ByteArray → Int → (Int → Prop) → Prop}
  {part : TypeId → Array Value → Nat → Value → Prop}
  {app : List TypeId → List Value → AHeap → (Option Addr → Nat → Nat → AHeap → Prop) → Prop}
  {cpy : List TypeId → List Value → AHeap → (Int → AHeap → Prop) → Prop}
  {putAt : AHeap → Nat → Nat → List Value → AHeap}
  {fresh : AHeap → AHeap}
  {lowered : AHeap → AHeap → AHeap}
  {bump : AHeap → Nat → AHeap}
  {wrote : AHeap → AHeap → Bool}
  {addN : Nat → Nat → Nat}
  {lt : Nat → Nat → Prop}
  {ne : Nat → Nat → Prop}
  {fpAll : Bool → Bool → Bool → Nat → Nat → Prop}
  {brk : (Unit → Prop) → Prop}
  {yn : Nat → Nat}
  {rng : FuncId → Nat → SS → (Exit → SS → Prop) → Prop}
  {mget : TypeId → Value → Value → AHeap → Value → Bool → Prop}
  {mput : TypeId → Value → Value → Value → AHeap → AHeap → Prop}
  {mnew : AHeap → AHeap}
  {bytes : TypeId → TypeId → Option Addr → Nat → AHeap → ByteArray → Prop}
  {clr : List TypeId → List Value → AHeap → AHeap → Prop}
  (hA : AOK progU hint prims ⟨call, head, arith, cmp, scmp, bnot, bsame, conv, neg, imax, imin, ofNat, slen, place, inR, nz, geZ, rd, wr, push, next, mkOK, nat, zeros, sadd, eqAgg, cut, slc, sslc, strAt, part, app, cpy, putAt, fresh, lowered, bump, wrote, addN, lt, ne, fpAll, brk, yn, rng, mget, mput, mnew, bytes, clr⟩)
include hA

theorem gives_ok {h0 : AHeap} (hlow0 : h0.low ≤ h0.next) {b4 b6 M lo : Nat} {x : RH} {r : Rec} (o4 : Own h0 b4 1 [.map (some M)]) (o6 : Own h0 b6 6 x.cells) (l4 : b4 < h0.next) (l6 : b6 < h0.next) (hx : RelR h0 x r) {d : List Rec} {ps : List Bytes} (hp : PM h0 lo M d ps) (hall : ∀ f ∈ r.frm, 0 ≤ idxOf d f) :
    GivesB call h0 [.pointer (some ⟨b4, 0, none⟩), .pointer (some ⟨b6, 0, none⟩)] (insOf d ps r) := by
  intro i h Q hi0 hi1 e hQ
  rw [ins_len] at hi1
  have hfl := hx.frm.len
  have hlow := e.lowOK hlow0
  obtain ⟨xnm, xhow, xfa, xfn, xfc, xarg, xda, xdn, xdc, xdg⟩ := x
  simp only [] at hfl
  refine hA.bodyR Try.func44 r44_ok (show prims _ _ _ = none from rfl) hlow ?_; (try (conv => cbv)); repeat (refine brk_ok hA ?_; (try (conv => cbv)))
  obtain ⟨h9, hh9⟩ : ∃ z, z = bump h 8 := ⟨_, rfl⟩
  obtain ⟨nh, hnh⟩ : ∃ z, z = next h := ⟨_, rfl⟩
  have e9 : Ext h h9 := by rw [hh9, e_bump hA]; exact .bump _ _
  rw [← hh9, ← hnh]
  have e09 := e.trans e9
  have o6' := o6.ext e09 l6
  have r6 : h9.readG ⟨b6, 0 + 2, none⟩ 1 = some [.slice xfa xfn xfc] := o6'.readG (by simp [RH.cells])
  refine ⟨_, rd_at hA (Own.get1 (o4.ext e09 l4)), ?_⟩
  ((try (conv => cbv)); repeat (refine brk_ok hA ?_; (try (conv => cbv))))
  refine ⟨xfa, xfn, xfc, rd_fld0 hA r6, ?_⟩
  ((try (conv => cbv)); repeat (refine brk_ok hA ?_; (try (conv => cbv))))
  obtain ⟨b, o, s, hae, hbn, hs, hrd⟩ := (hx.frm.ext e09).at hi0 (by simp only []; omega)
  refine ⟨b, o, hae, in_ok hA hi0 (by omega), ?_⟩
  ((try (conv => cbv)); repeat (refine brk_ok hA ?_; (try (conv => cbv))))
  refine ⟨s, rd_ok hA hrd, ?_⟩
  ((try (conv => cbv)); repeat (refine brk_ok hA ?_; (try (conv => cbv))))
  have fX := ext_fresh hA h9
  obtain ⟨f, m1, m2⟩ := hp.ex
  have hm : sat' r.frm i ∈ r.frm := by
    unfold sat'
    rw [List.getD, List.getElem?_eq_getElem (by omega)]
    exact List.getElem_mem _
  obtain ⟨a, n, c, w1, w2⟩ := (m2 s).2 (by rw [hs]; exact hall _ hm)
  have hg := (m1.ext (e09.trans fX) hp.lt).get T63 s
  rw [w1] at hg
  have hg' : mget 63 (.map (some M)) (.string s) (fresh h9) (.slice a n c) true := by rw [e_mget hA]; exact hg
  refine ⟨a, n, c, true, hg', ?_⟩
  ((try (conv => cbv)); repeat (refine brk_ok hA ?_; (try (conv => cbv))))
  refine hQ a n c _ (ext_low hA hlow e9 (.refl _)) ?_
  rw [ins_bat hi0 hi1, ← hs]
  exact w2.byts

theorem from_loop {h0 : AHeap} (hlow0 : h0.low ≤ h0.next) {b4 b6 M lo : Nat} {fa : Option Addr} {fn fc : Nat} {fs : List Str} (o4 : Own h0 b4 1 [.map (some M)]) (l4 : b4 < h0.next) (hf : Strs h0 fa fn fc fs) (hfn : (fn : Int) ≤ 1000000) {d : List Rec} {ps : List Bytes} (hp : PM h0 lo M d ps) {al : Option Addr} {nl cl : Nat} {i : Int} {Q : Exit → SS → Prop}
    (h1 : (∀ f ∈ fs, 0 ≤ idxOf d f) → Q (.exit 2) ⟨[(4, .pointer (some ⟨b4, 0, none⟩)), (6, .pointer (some ⟨b6, 0, none⟩)), (18, .slice al nl cl), (19, .int .i64 (ofNat nl)), (20, .int .i64 i)], 0, [], h0⟩)
    (h2 : ∀ e kn K, (∃ f ∈ fs, idxOf d f = -1) → Q .ret ⟨(3, .int .i64 6) :: (2, .map none) :: e, kn, K, h0⟩) :
    ∀ k : Int, 0 ≤ k → k ≤ fn → (∀ j : Int, 0 ≤ j → j < k → 0 ≤ idxOf d (sat' fs j)) → head 36 11 0 ⟨[(4, .pointer (some ⟨b4, 0, none⟩)), (6, .pointer (some ⟨b6, 0, none⟩)), (18, .slice al nl cl), (19, .int .i64 (ofNat nl)), (20, .int .i64 i), (33, .slice fa fn fc), (34, .int .i64 (ofNat fn)), (35, .int .i64 k)], 0, [], h0⟩ Q := by
  have hfl := hf.len
  refine countUp (fun k hk0 hkn ih hall => ?_)
  refine hA.roundR Try.func36 r36_ok ?_; (try (conv => cbv)); repeat (refine brk_ok hA ?_; (try (conv => cbv)))
  refine br (k < fn) (by rw [e_lss hA, e_ofNat hA]) (fun c1 => ?_) (fun c1 => ?_) <;> (try (conv => cbv)) <;> repeat (refine brk_ok hA ?_; (try (conv => cbv)))
  · obtain ⟨b, o, s, hae, hbn, hs, hrd⟩ := hf.at hk0 c1
    refine ⟨b, o, hae, in_ok hA hk0 c1, ?_⟩
    ((try (conv => cbv)); repeat (refine brk_ok hA ?_; (try (conv => cbv))))
    refine ⟨s, rd_ok hA hrd, ?_⟩
    ((try (conv => cbv)); repeat (refine brk_ok hA ?_; (try (conv => cbv))))
    refine ⟨_, rd_at hA (Own.get1 o4), ?_⟩
    ((try (conv => cbv)); repeat (refine brk_ok hA ?_; (try (conv => cbv))))
    obtain ⟨a, n, c, bb, w1, w2⟩ := mget_ok hA hp s
    refine ⟨a, n, c, bb, w1, ?_⟩
    ((try (conv => cbv)); repeat (refine brk_ok hA ?_; (try (conv => cbv))))
    rcases w2 with ⟨rfl, q, _⟩ | ⟨rfl, q⟩
    · refine br (False) (by rw [e_bnot hA]; rfl) (fun q => q.elim) (fun _ => ?_) <;> (try (conv => cbv)) <;> repeat (refine brk_ok hA ?_; (try (conv => cbv)))
      rw [add64 hA (by omega) (by omega)]
      refine ih c1 (fun j j0 j1 => ?_)
      by_cases e : j = k
      · rw [e, ← hs]; exact q
      · exact hall j j0 (by omega)
    · refine br (True) (by rw [e_bnot hA]; rfl) (fun _ => ?_) (fun q => absurd trivial q) <;> (try (conv => cbv)) <;> repeat (refine brk_ok hA ?_; (try (conv => cbv)))
      refine h2 _ _ _ ⟨s, ?_, q⟩
      rw [hs]
      unfold sat'
      rw [List.getD, List.getElem?_eq_getElem (by omega)]
      exact List.getElem_mem _
  · refine h1 (fun f hf' => ?_)
    obtain ⟨j, hj⟩ := List.getElem?_of_mem hf'
    have hjl : j < fs.length := (List.getElem?_eq_some_iff.1 hj).1
    have := hall j (by omega) (by omega)
    unfold sat' at this
    rw [Int.toNat_natCast, List.getD, hj] at this
    exact this

theorem prod_loop {h0 : AHeap} (hlow0 : h0.low ≤ h0.next) {al : Option Addr} {nl cl : Nat} {l : List Rec} (hl : Recs h0 al nl l) (hnl : (nl : Int) ≤ 40) (hok : okL l) {b4 M lo : Nat} (hlo4 : h0.next ≤ b4) (hloM : h0.next ≤ M) (h4M : b4 ≠ M) (hlo : lo = h0.next) {Q : Exit → SS → Prop}
    (h1 : ∀ h' ps, Ext h0 h' → Own h' b4 1 [.map (some M)] → PM h' lo M l ps → Alls [] [] l 0 (some ps) → Q (.exit 0) ⟨[(4, .pointer (some ⟨b4, 0, none⟩))], 0, [], h'⟩)
    (h2 : ∀ e kn K h' er, Ext h0 h' → Alls [] [] l er none → Q .ret ⟨(3, .int .i64 er) :: (2, .map none) :: e, kn, K, h'⟩) :
    ∀ i : Int, 0 ≤ i → i ≤ nl → ∀ h ps, Ext h0 h → Own h b4 1 [.map (some M)] → b4 < h.next → PM h lo M (l.take i.toNat) ps → ps.length = i.toNat → (∀ b ∈ ps, b.length ≤ 1000 ∧ okB b) → (∀ e o, Alls (l.take i.toNat) ps (l.drop i.toNat) e o → Alls [] [] l e o) →
      head 36 5 0 ⟨[(4, .pointer (some ⟨b4, 0, none⟩)), (18, .slice al nl cl), (19, .int .i64 (ofNat nl)), (20, .int .i64 i)], 0, [], h⟩ Q := by
  have hll := hl.len
  refine countUp (fun i hi0 hin ih h ps e o4 l4 hp hpl hps hf => ?_)
  refine hA.roundR Try.func36 r36_ok ?_; (try (conv => cbv)); repeat (refine brk_ok hA ?_; (try (conv => cbv)))
  refine br (i < nl) (by rw [e_lss hA, e_ofNat hA]) (fun c1 => ?_) (fun c1 => ?_) <;> (try (conv => cbv)) <;> repeat (refine brk_ok hA ?_; (try (conv => cbv)))
  · obtain ⟨b, o, x, hae, hbn, rel, hrd, _⟩ := (hl.ext e).at hi0 c1
    obtain ⟨ok1, ok2, ok3⟩ := okL_at hok hi0 (by omega : i < l.length)
    have hdr := drop_rat hi0 (by omega : i < l.length)
    have htk := take_rat hi0 (by omega : i < l.length)
    have hen := e.next
    generalize hrr : rat l i = r at *
    obtain ⟨xnm, xhow, xfa, xfn, xfc, xarg, xda, xdn, xdc, xdg⟩ := x
    refine ⟨b, o, hae, in_ok hA hi0 c1, ?_⟩
    ((try (conv => cbv)); repeat (refine brk_ok hA ?_; (try (conv => cbv))))
    refine ⟨xnm, xhow, xfa, xfn, xfc, xarg, xda, xdn, xdc, xdg, rd_ok hA hrd, ?_⟩
    ((try (conv => cbv)); repeat (refine brk_ok hA ?_; (try (conv => cbv))))
    rw [e_next hA, e_push hA]
    have e1 := Ext.push h 6 [Value.string ⟨⟨[]⟩⟩, Value.int .u8 0, Value.slice none 0 0, Value.int .i64 0, Value.slice none 0 0, Value.int .i64 0]
    have o1 := Own.push h 6 [Value.string ⟨⟨[]⟩⟩, Value.int .u8 0, Value.slice none 0 0, Value.int .i64 0, Value.slice none 0 0, Value.int .i64 0]
    have n1 : (h.push 6 [Value.string ⟨⟨[]⟩⟩, Value.int .u8 0, Value.slice none 0 0, Value.int .i64 0, Value.slice none 0 0, Value.int .i64 0]).next = h.next + 1 := rfl
    generalize h.push 6 [Value.string ⟨⟨[]⟩⟩, Value.int .u8 0, Value.slice none 0 0, Value.int .i64 0, Value.slice none 0 0, Value.int .i64 0] = h1' at *
    obtain ⟨b6, hb6⟩ : ∃ v, v = h.next := ⟨_, rfl⟩
    rw [← hb6] at o1 n1 hen hbn l4 ⊢
    obtain ⟨hw, w2, o2, k2⟩ := o1.write (o := 0) (vs := [Value.string xnm, Value.int .u8 xhow, Value.slice xfa xfn xfc, Value.int .i64 xarg, Value.slice xda xdn xdc, Value.int .i64 xdg]) (by simp)
    have o6 : Own hw b6 6 (RH.cells ⟨xnm, xhow, xfa, xfn, xfc, xarg, xda, xdn, xdc, xdg⟩) := o2
    refine ⟨hw, wr_at hA w2, ?_⟩
    ((try (conv => cbv)); repeat (refine brk_ok hA ?_; (try (conv => cbv))))
    have n2 := k2.next
    have ew : Ext h hw := k2.ext e1 (by omega)
    have ew0 : Ext h0 hw := e.trans ew
    have o4w := o4.ext ew (by omega)
    have hpw := hp.ext ew
    have relw := rel.ext ew
    have lw := ew0.lowOK hlow0
    refine ⟨_, rd_at hA (Own.get1 o4w), ?_⟩
    ((try (conv => cbv)); repeat (refine brk_ok hA ?_; (try (conv => cbv))))
    have r0 : hw.readG ⟨b6, 0 + 0, none⟩ 1 = some [.string xnm] := o6.readG (by simp [RH.cells])
    have r2 : hw.readG ⟨b6, 0 + 2, none⟩ 1 = some [.slice xfa xfn xfc] := o6.readG (by simp [RH.cells])
    have r6 : hw.readG ⟨b6, 0, none⟩ 6 = some (RH.cells ⟨xnm, xhow, xfa, xfn, xfc, xarg, xda, xdn, xdc, xdg⟩) := o6.readG (by simp [RH.cells])
    have hnm : xnm = r.name := rel.name
    have hfr : Strs hw xfa xfn xfc r.frm := relw.frm
    have hfl := hfr.len
    refine ⟨xnm, rd_fld0 hA r0, ?_⟩
    ((try (conv => cbv)); repeat (refine brk_ok hA ?_; (try (conv => cbv))))
    obtain ⟨ga, gn, gc, gb, g1, g2⟩ := mget_ok hA hpw xnm
    refine ⟨ga, gn, gc, gb, g1, ?_⟩
    rw [hnm] at g2
    rcases g2 with ⟨rfl, g2, _⟩ | ⟨rfl, g2⟩
    · ((try (conv => cbv)); repeat (refine brk_ok hA ?_; (try (conv => cbv))))
      refine h2 _ _ _ hw 14 ew0 (hf _ _ ?_)
      rw [hdr]
      exact .twice g2
    ((try (conv => cbv)); repeat (refine brk_ok hA ?_; (try (conv => cbv))))
    refine ⟨xfa, xfn, xfc, rd_fld0 hA r2, ?_⟩
    ((try (conv => cbv)); repeat (refine brk_ok hA ?_; (try (conv => cbv))))
    refine from_loop hA lw o4w (by omega) hfr (by omega) hpw (fun hall => ?_) (fun e9 kn K hlack => ?_) 0 (by omega) (by omega) (fun j j0 j1 => by omega)
    rotate_left
    · refine h2 _ _ _ hw 6 ew0 (hf _ _ ?_)
      rw [hdr]
      exact .lacks g2 hlack
    ((try (conv => cbv)); repeat (refine brk_ok hA ?_; (try (conv => cbv))))
    refine ⟨xnm, xhow, xfa, xfn, xfc, xarg, xda, xdn, xdc, xdg, rd_at hA r6, ?_⟩
    ((try (conv => cbv)); repeat (refine brk_ok hA ?_; (try (conv => cbv))))
    refine isRec_ok hA lw relw ok2 (fun bb hbb => ⟨_, rfl, ?_⟩)
    ((try (conv => cbv)); repeat (refine brk_ok hA ?_; (try (conv => cbv))))
    cases bb with
    | false =>
      ((try (conv => cbv)); repeat (refine brk_ok hA ?_; (try (conv => cbv))))
      refine br (True) (by rw [e_bnot hA]; rfl) (fun _ => ?_) (fun q => absurd trivial q) <;> (try (conv => cbv)) <;> repeat (refine brk_ok hA ?_; (try (conv => cbv)))
      refine h2 _ _ _ hw 8 ew0 (hf _ _ ?_)
      rw [hdr]
      exact .bad g2 hall (fun q => by have := hbb.2 q; cases this)
    | true =>
    have hform := hbb.1 rfl
    ((try (conv => cbv)); repeat (refine brk_ok hA ?_; (try (conv => cbv))))
    refine br (False) (by rw [e_bnot hA]; rfl) (fun q => q.elim) (fun _ => ?_) <;> (try (conv => cbv)) <;> repeat (refine brk_ok hA ?_; (try (conv => cbv)))
    refine ⟨xnm, xhow, xfa, xfn, xfc, xarg, xda, xdn, xdc, xdg, rd_at hA r6, ?_⟩
    ((try (conv => cbv)); repeat (refine brk_ok hA ?_; (try (conv => cbv))))
    have hil := ins_len (l.take i.toNat) ps r
    have i1000 := ins_all (P := fun b => b.length ≤ 1000) (l := l.take i.toNat) (r := r) (fun b hb => (hps b hb).1) (by simp)
    have iok := ins_all (P := okB) (l := l.take i.toNat) (r := r) (fun b hb => (hps b hb).2) (fun x hx => by cases hx)
    refine made_ok hA lw relw hform.2.2.2 ok1 (gives_ok hA lw o4w o6 (by omega) (by omega) relw hpw hall) hil i1000 iok (fun pa pn pc h3 e3 hb3 => ⟨_, _, _, rfl, ?_⟩)
    ((try (conv => cbv)); repeat (refine brk_ok hA ?_; (try (conv => cbv))))
    have hpn := hb3.len
    have x3 := ew0.trans e3
    refine br (1000 < (pn : Int)) (by rw [e_gtr hA, e_ofNat hA]) (fun c2 => ?_) (fun c2 => ?_) <;> (try (conv => cbv)) <;> repeat (refine brk_ok hA ?_; (try (conv => cbv)))
    · refine h2 _ _ _ h3 16 x3 (hf _ _ ?_)
      rw [hdr]
      exact .big g2 hall hform (by omega)
    have o43 := o4w.ext e3 (by omega)
    have o63 := o6.ext e3 (by omega)
    have r03 : h3.readG ⟨b6, 0 + 0, none⟩ 1 = some [.string xnm] := o63.readG (by simp [RH.cells])
    refine ⟨_, rd_at hA (Own.get1 o43), ?_⟩
    ((try (conv => cbv)); repeat (refine brk_ok hA ?_; (try (conv => cbv))))
    refine ⟨xnm, rd_fld0 hA r03, ?_⟩
    ((try (conv => cbv)); repeat (refine brk_ok hA ?_; (try (conv => cbv))))
    have hdl : (l.take i.toNat).length = i.toNat := by rw [List.length_take]; omega
    have hen2 := ew0.next
    obtain ⟨h4, u1, u2, u3, u4, u5⟩ := (hpw.ext e3).add g2 (by omega) (hb3.lower (lo' := lo) (by omega))
    rw [← hnm] at u1
    have u1' : mput 63 (.map (some M)) (.string xnm) (.slice pa pn pc) h3 h4 := by rw [e_mput hA]; exact u1
    refine ⟨h4, u1', ?_⟩
    ((try (conv => cbv)); repeat (refine brk_ok hA ?_; (try (conv => cbv))))
    rw [add64 hA (by omega) (by omega)]
    have m3 := e3.next
    have hform2 := hform.2.2.2
    have harg : 0 ≤ r.arg := by unfold kindP at hform2; omega
    refine ih c1 h4 (ps ++ [madeS r (insOf (l.take i.toNat) ps r)]) (u5 h0 x3 hloM) (o43.of_get (u4 _ h4M)) (by omega) (by rw [htk]; exact u2) (by rw [List.length_append, List.length_singleton]; omega) (fun b hb => ?_) (fun er o ha => hf er o ?_)
    · rcases List.mem_append.1 hb with q | q
      · exact hps b q
      · rw [List.mem_singleton.1 q]
        exact ⟨by omega, made_okB ok1 iok harg⟩
    · rw [hdr]
      rw [htk] at ha
      exact .go g2 hall hform (by omega) ha
  · rw [List.take_of_length_le (by omega)] at hp
    refine h1 h ps e o4 hp (hf _ _ ?_)
    rw [List.drop_eq_nil_of_le (by omega)]
    exact .nil _ _

end Go.Proofs.Ytopppccddnplkaa
