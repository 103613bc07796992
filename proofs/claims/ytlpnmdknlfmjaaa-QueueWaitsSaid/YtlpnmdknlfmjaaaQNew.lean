/-
  NEW QUEUES AND BOUNDS: queue.New, Bound; fringeref42.New, Bound: what they return.
-/
import Derived.Test.YtlpnmdknlfmjaaaQAsk
namespace Go.Proofs.Ytlpnmdknlfmjaaa
open Go.Sim
set_option linter.unusedVariables false
set_option maxRecDepth 100000

def newP (p : Proj) : Proj := ⟨p.name, p.share, 0, 0⟩
def newL (l : List Proj) : List Proj := l.map newP
noncomputable def newE (l : List Proj) : Int := checkQ (newL l) 0 1

theorem newL_take (l : List Proj) {i : Int} (h0 : 0 ≤ i) (h1 : i < l.length) : newL (l.take (i + 1).toNat) = newL (l.take i.toNat) ++ [newP (pj l i)] := by
  rw [show (i + 1).toNat = i.toNat + 1 by omega, List.take_succ_eq_append_getElem (by omega)]
  unfold newL pj
  rw [List.map_append, pj_at l (by omega)]
  rfl

theorem newL_short {l : List Proj} (h : shortN l) : shortN (newL l) := by
  intro p hp
  unfold newL at hp
  rw [List.mem_map] at hp
  obtain ⟨q, hq, rfl⟩ := hp
  exact h q hq

/-- What is counted of a project in the bound of another one. -/
def bdAt (l : List Proj) (i : Int) (j : Int) : Int := if j = i then 0 else 1 + (pj l j).share / (pj l i).share
def bdTo (l : List Proj) (i : Int) : Nat → Int
  | 0 => 0
  | n + 1 => bdTo l i n + bdAt l i n
noncomputable def bdE (l : List Proj) (nu de i : Int) : Int := if checkQ l nu de = 0 then (if i < 0 ∨ (l.length : Int) ≤ i then 2 else 0) else checkQ l nu de
noncomputable def bdV (l : List Proj) (nu de i : Int) : Int := if bdE l nu de i = 0 then bdTo l i l.length else 0

theorem bdTo_succ (l : List Proj) (i : Int) {j : Int} (h : 0 ≤ j) : bdTo l i (j + 1).toNat = bdTo l i j.toNat + bdAt l i j := by
  rw [show (j + 1).toNat = j.toNat + 1 by omega]
  show bdTo l i j.toNat + bdAt l i (j.toNat : Nat) = _
  rw [show ((j.toNat : Nat) : Int) = j by omega]

theorem bdTo_small {l : List Proj} (hb : bounds l) {i : Int} (i0 : 0 ≤ i) (i1 : i < l.length) : ∀ n : Nat, n ≤ l.length → 0 ≤ bdTo l i n ∧ bdTo l i n ≤ n * 101
  | 0, _ => by simp [bdTo]
  | n + 1, hn => by
    have ih := bdTo_small hb i0 i1 n (by omega)
    have bn := hb _ (pj_mem l (i := (n : Int)) (by omega) (by omega))
    have bi := hb _ (pj_mem l i0 i1)
    obtain ⟨a1, a2, _⟩ := bn
    obtain ⟨b1, b2, _⟩ := bi
    have d1 : 0 ≤ (pj l (n : Int)).share / (pj l i).share := Int.ediv_nonneg (by omega) (by omega)
    have d2 : (pj l (n : Int)).share / (pj l i).share ≤ (pj l (n : Int)).share := Int.ediv_le_self _ (by omega)
    simp only [bdTo]
    unfold bdAt
    split <;> omega

variable {call : FuncId → List Value → AHeap → (Value → AHeap → Prop) → Prop}
  {head : FuncId → Nat → Nat → SS → (Exit → SS → Prop) → Prop}
  {arith : BinOp → IntKind → Int → Int → Int}
  {cmp : BinOp → Int → Int → Bool}
  {scmp : BinOp → ByteArray → ByteArray → Bool}
  {bnot : Bool → Bool}
  {bsame : Bool → Bool → Bool}
  {conv : IntKind → Int → Int}
  {neg : IntKind → Int → Int}
  {imax : Int → Int → Int}
  {imin : Int → Int → Int}
  {ofNat : Nat → Int}
  {slen : ByteArray → Int}
  {place : Nat → Int → Nat → Nat}
  {inR : Int → Nat → Prop}
  {nz : Int → Prop}
  {geZ : Int → Prop}
  {rd : AHeap → Nat → Nat → Nat → List Value → Prop}
  {wr : AHeap → Nat → Nat → List Value → AHeap → Prop}
  {push : AHeap → Nat → List Value → AHeap}
  {next : AHeap → Nat}
  {mkOK : Int → Int → Prop}
  {nat : Int → Nat}
  {zeros : List Value → Int → List Value}
  {sadd : ByteArray → ByteArray → (ByteArray → Prop) → Prop}
  {eqAgg : TypeId → Array Value → Array Value → (Bool → Prop) → Prop}
  {cut : Nat → Int → Prop}
  {slc : TypeId → Value → Option Value → Option Value → Option Value → (Option Addr → Nat → Nat → Prop) → Prop}
  {sslc : TypeId → ByteArray → Option Value → Option Value → (ByteArray → Prop) → Prop}
  {strAt : ByteArray → Int → (Int → Prop) → Prop}
  {part : TypeId → Array Value → Nat → Value → Prop}
  {app : List TypeId → List Value → AHeap → (Option Addr → Nat → Nat → AHeap → Prop) → Prop}
  {cpy : List TypeId → List Value → AHeap → (Int → AHeap → Prop) → Prop}
  {putAt : AHeap → Nat → Nat → List Value → AHeap}
  {fresh : AHeap → AHeap}
  {lowered : AHeap → AHeap → AHeap}
  {bump : AHeap → Nat → AHeap}
  {wrote : AHeap → AHeap → Bool}
  {addN : Nat → Nat → Nat}
  {lt : Nat → Nat → Prop}
  {ne : Nat → Nat → Prop}
  {fpAll : Bool → Bool → Bool → Nat → Nat → Prop}
  {brk : (Unit → Prop) → Prop}
  (hA : AOK progU hint prims ⟨call, head, arith, cmp, scmp, bnot, bsame, conv, neg, imax, imin, ofNat, slen, place, inR, nz, geZ, rd, wr, push, next, mkOK, nat, zeros, sadd, eqAgg, cut, slc, sslc, strAt, part, app, cpy, putAt, fresh, lowered, bump, wrote, addN, lt, ne, fpAll, brk⟩)
include hA

/-- 'append(x, v)' of a slice of projects. -/
theorem appP_ok {h : AHeap} {a : Option Addr} {n c : Nat} {l : List Proj} {p : Proj} {nb : Nat} (hp : Apd h 4 a n c (flatP l)) (ho : Own h nb 4 p.cells) (hnb : nb < h.next) (hn : n ≤ 10000) {C : Option Addr → Nat → Nat → AHeap → Prop}
    (hC : ∀ a' c' h', Apd h' 4 a' (n + 1) c' (flatP (l ++ [p])) → (∀ h0, Ext h0 h → From h0.next a → Ext h0 h' ∧ From h0.next a') → C a' (n + 1) c' h') :
    app [22, 22] [.slice a n c, .slice (some ⟨nb, 0, none⟩) 1 1] h C := by
  rw [e_app hA]
  have hs : Cells h (some ⟨nb, 0, none⟩) 1 4 p.cells := ⟨rfl, hnb, by rw [ho.readG (by simp [Proj.cells])]; rfl⟩
  obtain ⟨a', c', h', h1, h2, h3, h4, h5, h6⟩ := append_keep T22 T22.und (c2 := 1) hp hs (flatP_ok _) rfl (by omega) (by omega)
  refine ⟨a', n + 1, c', h', h1, hC a' c' h' ?_ h3⟩
  rw [flatP_cat, flatP_cons]
  simpa [flatP] using h2

theorem new_loop {h : AHeap} (hlow : h.low ≤ h.next) {a : Option Addr} {n c : Nat} (hn : n ≤ 1000) {l : List Proj} (hs : Projs h a n l) {Q : Exit → SS → Prop}
    (h0 : ∀ h' a' c', Ext h h' → From h.next a' → Apd h' 4 a' n c' (flatP (newL l)) → Q (.exit 0) ⟨[(2, .pointer (some ⟨0, 0, some 0⟩)), (4, .pointer (some ⟨1, 0, some 0⟩))], 2, [(0, [.slice none 0 0, .int .i64 0, .int .i64 0]), (1, [.slice a' n c', .int .i64 0, .int .i64 1])], h'⟩) :
    ∀ (i : Int), 0 ≤ i → i ≤ n → ∀ h' a' (m : Nat) c', (m : Int) = i → Ext h h' → From h.next a' → Apd h' 4 a' m c' (flatP (newL (l.take i.toNat))) →
      head 18 5 2 ⟨[(2, .pointer (some ⟨0, 0, some 0⟩)), (4, .pointer (some ⟨1, 0, some 0⟩)), (13, .slice a n c), (14, .int .i64 (ofNat n)), (15, .int .i64 i)], 2, [(0, [.slice none 0 0, .int .i64 0, .int .i64 0]), (1, [.slice a' m c', .int .i64 0, .int .i64 1])], h'⟩ Q := by
  have hl := hs.len
  refine countUp (fun i hi0 hin ih h' a' m c' hm he hf ha => ?_)
  refine hA.roundR Try.func18 r18_ok ?_; (try (conv => cbv)); repeat (refine brk_ok hA ?_; (try (conv => cbv)))
  refine br (i < n) (by rw [e_lss hA, e_ofNat hA]) (fun c1 => ?_) (fun c1 => ?_) <;> (try (conv => cbv)) <;> repeat (refine brk_ok hA ?_; (try (conv => cbv)))
  · obtain ⟨b, o, nm, sh, us, wt, rfl, hb3, hp, hr, _, _, _, _⟩ := (hs.ext he).at hi0 c1
    have ht := newL_take l hi0 (by omega)
    rw [hp] at ht
    refine ⟨b, o, rfl, in_ok hA hi0 c1, ?_⟩
    ((try (conv => cbv)); repeat (refine brk_ok hA ?_; (try (conv => cbv))))
    refine ⟨nm, sh, us, wt, rd_ok hA hr, ?_⟩
    ((try (conv => cbv)); repeat (refine brk_ok hA ?_; (try (conv => cbv))))
    rw [e_push hA, e_next hA]
    have e1 := Ext.push h' 4 [.string nm, .int .i64 sh, .int .i64 0, .int .i64 0]
    have o1 := Own.push h' 4 [.string nm, .int .i64 sh, .int .i64 0, .int .i64 0]
    have x1 : h'.next < (h'.push 4 [.string nm, .int .i64 sh, .int .i64 0, .int .i64 0]).next := Nat.lt_succ_self _
    generalize h'.push 4 [Value.string nm, Value.int IntKind.i64 sh, Value.int IntKind.i64 0, Value.int IntKind.i64 0] = h1 at *
    obtain ⟨nb, hnb⟩ : ∃ x, x = h'.next := ⟨_, rfl⟩
    rw [← hnb] at o1 x1 ⊢
    refine appP_ok hA (p := ⟨nm, sh, 0, 0⟩) (ha.ext e1) o1 x1 (by omega) (fun a2 c2 h2 ha2 hE => ?_)
    ((try (conv => cbv)); repeat (refine brk_ok hA ?_; (try (conv => cbv))))
    obtain ⟨e2, f2⟩ := hE h (he.trans e1) hf
    rw [add64 hA (by omega) (by omega)]
    exact ih c1 h2 a2 (m + 1) c2 (by omega) e2 f2 (by rw [ht]; exact ha2)
  · have e : m = n := by omega
    subst e
    rw [List.take_of_length_le (by omega)] at ha
    exact h0 h' a' c' he hf ha

theorem new_ok {h : AHeap} (hlow : h.low ≤ h.next) {a : Option Addr} {n c : Nat} (hn : n ≤ 1000000) {l : List Proj} (hs : Projs h a n l) (hsh : shortN l) {Q : Value → AHeap → Prop}
    (hbad : ∀ e h', Ext h h' → e = newE l → e ≠ 0 → Q (.tuple #[.agg #[.slice none 0 0, .int .i64 0, .int .i64 0], .int .i64 e]) h')
    (hok : ∀ a' c' h', Ext h h' → From h.next a' → Projs h' a' n (newL l) → newE l = 0 → Q (.tuple #[.agg #[.slice a' n c', .int .i64 0, .int .i64 1], .int .i64 0]) h') :
    call 18 [.slice a n c] h Q := by
  have hl := hs.len
  have hnl : (newL l).length = n := by unfold newL; rw [List.length_map]; exact hl
  refine hA.bodyR Try.func18 r18_ok (show prims _ _ _ = none from rfl) hlow ?_; (try (conv => cbv)); repeat (refine brk_ok hA ?_; (try (conv => cbv)))
  refine br (8 < (n : Int)) (by rw [e_gtr hA, e_ofNat hA]) (fun c1 => ?_) (fun c1 => ?_) <;> (try (conv => cbv)) <;> repeat (refine brk_ok hA ?_; (try (conv => cbv)))
  · exact hbad 4 h (.refl _) (by unfold newE checkQ; rw [if_pos (by omega)]) (by omega)
  refine new_loop hA hlow (by omega) hs (fun h1 a1 c1' e1 f1 ha1 => ?_) 0 (by omega) (by omega) h none 0 0 rfl (.refl _) (.none _) (.nil _ _)
  ((try (conv => cbv)); repeat (refine brk_ok hA ?_; (try (conv => cbv))))
  have hp1 : Projs h1 a1 n (newL l) := ⟨ha1.cells⟩
  have hcap : n ≤ capLow c1' := by
    rcases ha1 with ⟨_, h2, h3, _⟩ | ⟨b, _, h3, _, _, _⟩
    · omega
    · rw [h3, capLow_some (by unfold slack; omega)]; omega
  refine check_ok hA (e1.lowOK hlow) hn hcap hp1 (newL_short hsh) 0 1 (fun r h2 hr e2 => ⟨_, rfl, ?_⟩)
  ((try (conv => cbv)); repeat (refine brk_ok hA ?_; (try (conv => cbv))))
  refine br (r ≠ 0) (e_neq hA _ _) (fun c2 => ?_) (fun c2 => ?_) <;> (try (conv => cbv)) <;> repeat (refine brk_ok hA ?_; (try (conv => cbv)))
  · exact hbad r h2 (e1.trans e2) hr c2
  · exact hok a1 c1' h2 (e1.trans e2) f1 (hp1.ext e2) (by unfold newE; omega)

theorem rnew_loop {h : AHeap} (hlow : h.low ≤ h.next) {a : Option Addr} {n c : Nat} (hn : n ≤ 1000) {l : List Proj} (hs : Projs h a n l) {Q : Exit → SS → Prop}
    (h0 : ∀ h' a' c', Ext h h' → From h.next a' → Apd h' 4 a' n c' (flatP (newL l)) → Q (.exit 0) ⟨[(2, .pointer (some ⟨0, 0, some 0⟩)), (4, .pointer (some ⟨1, 0, some 0⟩))], 2, [(0, [.slice none 0 0, .int .i64 0, .int .i64 0]), (1, [.slice a' n c', .int .i64 0, .int .i64 1])], h'⟩) :
    ∀ (i : Int), 0 ≤ i → i ≤ n → ∀ h' a' (m : Nat) c', (m : Int) = i → Ext h h' → From h.next a' → Apd h' 4 a' m c' (flatP (newL (l.take i.toNat))) →
      head 19 3 2 ⟨[(0, .slice a n c), (2, .pointer (some ⟨0, 0, some 0⟩)), (4, .pointer (some ⟨1, 0, some 0⟩)), (5, .int .i64 i)], 2, [(0, [.slice none 0 0, .int .i64 0, .int .i64 0]), (1, [.slice a' m c', .int .i64 0, .int .i64 1])], h'⟩ Q := by
  have hl := hs.len
  refine countUp (fun i hi0 hin ih h' a' m c' hm he hf ha => ?_)
  refine hA.roundR Try.func19 r19_ok ?_; (try (conv => cbv)); repeat (refine brk_ok hA ?_; (try (conv => cbv)))
  refine br (i < n) (by rw [e_lss hA, e_ofNat hA]) (fun c1 => ?_) (fun c1 => ?_) <;> (try (conv => cbv)) <;> repeat (refine brk_ok hA ?_; (try (conv => cbv)))
  · obtain ⟨b, o, nm, sh, us, wt, rfl, hb3, hp, hr, f0, f1, _, _⟩ := (hs.ext he).at hi0 c1
    have ht := newL_take l hi0 (by omega)
    rw [hp] at ht
    refine ⟨b, o, rfl, in_ok hA hi0 c1, ?_⟩
    ((try (conv => cbv)); repeat (refine brk_ok hA ?_; (try (conv => cbv))))
    refine ⟨nm, rd_fld hA (by rw [e_bump hA]; exact f0), ?_⟩
    ((try (conv => cbv)); repeat (refine brk_ok hA ?_; (try (conv => cbv))))
    refine ⟨b, o, rfl, in_ok hA hi0 c1, ?_⟩
    ((try (conv => cbv)); repeat (refine brk_ok hA ?_; (try (conv => cbv))))
    refine ⟨sh, rd_fld hA (by rw [e_bump hA]; exact f1), ?_⟩
    ((try (conv => cbv)); repeat (refine brk_ok hA ?_; (try (conv => cbv))))
    rw [e_next hA, e_addN hA, e_bump hA, e_putAt hA, e_fresh hA]
    have e1 := Ext.bumpPut h' 17 (b := h'.next + 13) (by omega) 4 [.string nm, .int .i64 sh, .int .i64 0, .int .i64 0]
    have o1 := Own.putAt (h'.bump 17) (h'.next + 13) 4 [.string nm, .int .i64 sh, .int .i64 0, .int .i64 0]
    have x1 : h'.next + 13 < ((h'.bump 17).putAt (h'.next + 13) 4 [.string nm, .int .i64 sh, .int .i64 0, .int .i64 0]).next := by show h'.next + 13 < h'.next + 17; omega
    generalize (h'.bump 17).putAt (h'.next + 13) 4 [Value.string nm, Value.int IntKind.i64 sh, Value.int IntKind.i64 0, Value.int IntKind.i64 0] = h1 at *
    obtain ⟨nb, hnb⟩ : ∃ x, x = h'.next + 13 := ⟨_, rfl⟩
    rw [← hnb] at o1 x1 ⊢
    have e1f := e1.trans (Ext.freshed h1)
    refine appP_ok hA (p := ⟨nm, sh, 0, 0⟩) (ha.ext e1f) o1 x1 (by omega) (fun a2 c2 h2 ha2 hE => ?_)
    ((try (conv => cbv)); repeat (refine brk_ok hA ?_; (try (conv => cbv))))
    obtain ⟨e2, f2⟩ := hE h (he.trans e1f) hf
    rw [add64 hA (by omega) (by omega), e_lowered hA]
    exact ih c1 _ a2 (m + 1) c2 (by omega) (e2.lowered' (he.trans e1) hlow) f2 (by rw [ht]; exact ha2)
  · have e : m = n := by omega
    subst e
    rw [List.take_of_length_le (by omega)] at ha
    exact h0 h' a' c' he hf ha

theorem rnew_ok {h : AHeap} (hlow : h.low ≤ h.next) {a : Option Addr} {n c : Nat} (hn : n ≤ 1000) {l : List Proj} (hs : Projs h a n l) (hsh : shortN l) {Q : Value → AHeap → Prop}
    (hbad : ∀ e h', Ext h h' → e = newE l → e ≠ 0 → Q (.tuple #[.agg #[.slice none 0 0, .int .i64 0, .int .i64 0], .int .i64 e]) h')
    (hok : ∀ a' c' h', Ext h h' → From h.next a' → Projs h' a' n (newL l) → newE l = 0 → Q (.tuple #[.agg #[.slice a' n c', .int .i64 0, .int .i64 1], .int .i64 0]) h') :
    call 19 [.slice a n c] h Q := by
  have hl := hs.len
  refine hA.bodyR Try.func19 r19_ok (show prims _ _ _ = none from rfl) hlow ?_; (try (conv => cbv)); repeat (refine brk_ok hA ?_; (try (conv => cbv)))
  refine rnew_loop hA hlow hn hs (fun h1 a1 c1' e1 f1 ha1 => ?_) 0 (by omega) (by omega) h none 0 0 rfl (.refl _) (.none _) (.nil _ _)
  ((try (conv => cbv)); repeat (refine brk_ok hA ?_; (try (conv => cbv))))
  have hp1 : Projs h1 a1 n (newL l) := ⟨ha1.cells⟩
  refine rcheck_ok hA (e1.lowOK hlow) (by omega) hp1 (newL_short hsh) 0 1 (fun r h2 hr e2 => ⟨_, rfl, ?_⟩)
  ((try (conv => cbv)); repeat (refine brk_ok hA ?_; (try (conv => cbv))))
  refine br (r ≠ 0) (e_neq hA _ _) (fun c2 => ?_) (fun c2 => ?_) <;> (try (conv => cbv)) <;> repeat (refine brk_ok hA ?_; (try (conv => cbv)))
  · exact hbad r h2 (e1.trans e2) hr c2
  · exact hok a1 c1' h2 (e1.trans e2) f1 (hp1.ext e2) (by unfold newE; omega)

theorem bound_loop {h : AHeap} (hlow : h.low ≤ h.next) {a : Option Addr} {n c : Nat} {l : List Proj} (hs : Projs h a n l) (hb : bounds l) (h8 : l.length ≤ 8) {nu de i : Int} (i0 : 0 ≤ i) (i1 : i < l.length) {Q : Exit → SS → Prop}
    (h0 : ∀ h' r, Ext h h' → r = bdTo l i l.length → Q (.exit 0) ⟨[(7, .int .i64 r)], 1, [(0, [.slice a n c, .int .i64 nu, .int .i64 de])], h'⟩) :
    ∀ (j : Int), 0 ≤ j → j ≤ n → ∀ h' r, Ext h h' → r = bdTo l i j.toNat →
      head 24 8 1 ⟨[(1, .int .i64 i), (2, .pointer (some ⟨0, 0, some 0⟩)), (7, .int .i64 r), (25, .slice a n c), (26, .int .i64 (ofNat n)), (27, .int .i64 j)], 1, [(0, [.slice a n c, .int .i64 nu, .int .i64 de])], h'⟩ Q := by
  have hl := hs.len
  refine countUp (fun j hj0 hjn ih h' r he hr => ?_)
  have sm := bdTo_small hb i0 i1 j.toNat (by omega)
  have hsu := bdTo_succ l i hj0
  unfold bdAt at hsu
  refine hA.roundR Try.func24 r24_ok ?_; (try (conv => cbv)); repeat (refine brk_ok hA ?_; (try (conv => cbv)))
  refine br (j < n) (by rw [e_lss hA, e_ofNat hA]) (fun c1 => ?_) (fun c1 => ?_) <;> (try (conv => cbv)) <;> repeat (refine brk_ok hA ?_; (try (conv => cbv)))
  · obtain ⟨b, o, nm, sh, us, wt, rfl, hb3, hp, hrr, _, _, _, _⟩ := (hs.ext he).at hj0 c1
    have hbd := hb _ (pj_mem l hj0 (by omega : j < l.length))
    rw [hp] at hbd hsu
    obtain ⟨p1, p2, _⟩ := hbd
    simp only at p1 p2 hsu
    refine ⟨b, o, rfl, in_ok hA hj0 c1, ?_⟩
    ((try (conv => cbv)); repeat (refine brk_ok hA ?_; (try (conv => cbv))))
    refine ⟨nm, sh, us, wt, rd_ok hA hrr, ?_⟩
    ((try (conv => cbv)); repeat (refine brk_ok hA ?_; (try (conv => cbv))))
    refine br (j ≠ i) (e_neq hA _ _) (fun c2 => ?_) (fun c2 => ?_) <;> (try (conv => cbv)) <;> repeat (refine brk_ok hA ?_; (try (conv => cbv)))
    · obtain ⟨b', o', nm1, sh1, us1, wt1, e', hb1, hp1, hr', f0, f1, f2, f3⟩ := (hs.ext he).at (i := i) i0 (by omega)
      simp only [Option.some.injEq, Addr.mk.injEq, and_true] at e'
      obtain ⟨rfl, rfl⟩ := e'
      have hbd := hb _ (pj_mem l i0 i1)
      rw [hp1] at hbd hsu
      obtain ⟨q1, q2, _⟩ := hbd
      simp only at q1 q2 hsu
      have d1 : 0 ≤ sh / sh1 := Int.ediv_nonneg (by omega) (by omega)
      have d2 : sh / sh1 ≤ sh := Int.ediv_le_self _ (by omega)
      refine ⟨b, o, rfl, in_ok hA i0 (by omega), ?_⟩
      ((try (conv => cbv)); repeat (refine brk_ok hA ?_; (try (conv => cbv))))
      refine ⟨sh1, rd_fld hA (by rw [e_bump hA]; exact f1), ?_⟩
      ((try (conv => cbv)); repeat (refine brk_ok hA ?_; (try (conv => cbv))))
      refine ⟨nz_ok hA (by omega), ?_⟩
      ((try (conv => cbv)); repeat (refine brk_ok hA ?_; (try (conv => cbv))))
      rw [quo64 hA (by omega) (by omega) (by omega), add64 hA (a := 1) (b := sh / sh1) (by omega) (by omega), add64 hA (a := r) (b := 1 + sh / sh1) (by omega) (by omega), add64 hA (a := j) (b := 1) (by omega) (by omega)]
      refine ih c1 _ _ (by rw [e_bump hA]; exact he.trans (.bump _ _)) ?_
      rw [hsu, if_neg c2, ← hr]
    · rw [add64 hA (by omega) (by omega)]
      exact ih c1 h' r he (by rw [hsu, if_pos (by omega), ← hr]; omega)
  · exact h0 h' r he (by rw [hr, show l.length = j.toNat by omega])

theorem bound_ok {h : AHeap} (hlow : h.low ≤ h.next) {a : Option Addr} {n c : Nat} (hn : n ≤ 1000000) (hc : n ≤ capLow c) {l : List Proj} (hs : Projs h a n l) (hsh : shortN l) (nu de i : Int) {Q : Value → AHeap → Prop}
    (hQ : ∀ r e h', Ext h h' → e = bdE l nu de i → r = bdV l nu de i → Q (.tuple #[.int .i64 r, .int .i64 e]) h') : call 24 [.agg #[.slice a n c, .int .i64 nu, .int .i64 de], .int .i64 i] h Q := by
  have hl := hs.len
  refine hA.bodyR Try.func24 r24_ok (show prims _ _ _ = none from rfl) hlow ?_; (try (conv => cbv)); repeat (refine brk_ok hA ?_; (try (conv => cbv)))
  refine check_ok hA hlow hn hc hs hsh nu de (fun r h1 hr e1 => ⟨_, rfl, ?_⟩)
  ((try (conv => cbv)); repeat (refine brk_ok hA ?_; (try (conv => cbv))))
  have bad : ∀ e, e ≠ 0 → e = bdE l nu de i → Q (.tuple #[.int .i64 0, .int .i64 e]) h1 := fun e he0 he => hQ 0 e h1 e1 he (by unfold bdV; rw [← he, if_neg he0])
  refine br (r ≠ 0) (e_neq hA _ _) (fun c1 => ?_) (fun c1 => ?_) <;> (try (conv => cbv)) <;> repeat (refine brk_ok hA ?_; (try (conv => cbv)))
  · exact bad r c1 (by unfold bdE; rw [← hr, if_neg c1])
  have hz : checkQ l nu de = 0 := by omega
  obtain ⟨h8, _, _, hd, hnu, _⟩ := checkQ_zero hz
  refine br (i < 0) (e_lss hA _ _) (fun c2 => ?_) (fun c2 => ?_) <;> (try (conv => cbv)) <;> repeat (refine brk_ok hA ?_; (try (conv => cbv)))
  · exact bad 2 (by omega) (by unfold bdE; rw [if_pos hz, if_pos (.inl c2)])
  refine br ((n : Int) ≤ i) (by rw [e_geq hA, e_ofNat hA]) (fun c3 => ?_) (fun c3 => ?_) <;> (try (conv => cbv)) <;> repeat (refine brk_ok hA ?_; (try (conv => cbv)))
  · exact bad 2 (by omega) (by unfold bdE; rw [if_pos hz, if_pos (.inr (by omega))])
  refine bound_loop hA (e1.lowOK hlow) (hs.ext e1) (checkQ_bounds hz) h8 (by omega) (by omega) (fun h2 r2 e2 hr2 => ?_) 0 (by omega) (by omega) h1 0 (.refl _) rfl
  ((try (conv => cbv)); repeat (refine brk_ok hA ?_; (try (conv => cbv))))
  have hE : bdE l nu de i = 0 := by unfold bdE; rw [if_pos hz, if_neg (by omega)]
  exact hQ r2 0 h2 (e1.trans e2) hE.symm (by unfold bdV; rw [if_pos hE, hr2])

theorem rbound_loop {h : AHeap} (hlow : h.low ≤ h.next) {a : Option Addr} {n c : Nat} {l : List Proj} (hs : Projs h a n l) (hb : bounds l) (h8 : l.length ≤ 8) {nu de i : Int} (i0 : 0 ≤ i) (i1 : i < l.length) {Q : Exit → SS → Prop}
    (h0 : ∀ h' r, Ext h h' → r = bdTo l i l.length → Q (.exit 0) ⟨[(7, .int .i64 r)], 1, [(0, [.slice a n c, .int .i64 nu, .int .i64 de])], h'⟩) :
    ∀ (j : Int), 0 ≤ j → j ≤ n → ∀ h' r, Ext h h' → r = bdTo l i j.toNat →
      head 25 8 1 ⟨[(1, .int .i64 i), (2, .pointer (some ⟨0, 0, some 0⟩)), (7, .int .i64 r), (8, .int .i64 j)], 1, [(0, [.slice a n c, .int .i64 nu, .int .i64 de])], h'⟩ Q := by
  have hl := hs.len
  refine countUp (fun j hj0 hjn ih h' r he hr => ?_)
  have sm := bdTo_small hb i0 i1 j.toNat (by omega)
  have hsu := bdTo_succ l i hj0
  unfold bdAt at hsu
  refine hA.roundR Try.func25 r25_ok ?_; (try (conv => cbv)); repeat (refine brk_ok hA ?_; (try (conv => cbv)))
  refine br (j < n) (by rw [e_lss hA, e_ofNat hA]) (fun c1 => ?_) (fun c1 => ?_) <;> (try (conv => cbv)) <;> repeat (refine brk_ok hA ?_; (try (conv => cbv)))
  · obtain ⟨b, o, nm, sh, us, wt, rfl, hb3, hp, hrr, _, g1, _, _⟩ := (hs.ext he).at hj0 c1
    have hbd := hb _ (pj_mem l hj0 (by omega : j < l.length))
    rw [hp] at hbd hsu
    obtain ⟨p1, p2, _⟩ := hbd
    simp only at p1 p2 hsu
    refine br (j ≠ i) (e_neq hA _ _) (fun c2 => ?_) (fun c2 => ?_) <;> (try (conv => cbv)) <;> repeat (refine brk_ok hA ?_; (try (conv => cbv)))
    · obtain ⟨b', o', nm1, sh1, us1, wt1, e', hb1, hp1, hr', f0, f1, f2, f3⟩ := (hs.ext he).at (i := i) i0 (by omega)
      simp only [Option.some.injEq, Addr.mk.injEq, and_true] at e'
      obtain ⟨rfl, rfl⟩ := e'
      have hbd := hb _ (pj_mem l i0 i1)
      rw [hp1] at hbd hsu
      obtain ⟨q1, q2, _⟩ := hbd
      simp only at q1 q2 hsu
      have d1 : 0 ≤ sh / sh1 := Int.ediv_nonneg (by omega) (by omega)
      have d2 : sh / sh1 ≤ sh := Int.ediv_le_self _ (by omega)
      refine ⟨b, o, rfl, in_ok hA hj0 c1, ?_⟩
      ((try (conv => cbv)); repeat (refine brk_ok hA ?_; (try (conv => cbv))))
      refine ⟨sh, rd_fld hA (by rw [e_bump hA]; exact g1), ?_⟩
      ((try (conv => cbv)); repeat (refine brk_ok hA ?_; (try (conv => cbv))))
      refine ⟨b, o, rfl, in_ok hA i0 (by omega), ?_⟩
      ((try (conv => cbv)); repeat (refine brk_ok hA ?_; (try (conv => cbv))))
      refine ⟨sh1, rd_fld hA (by rw [e_bump hA]; exact f1), ?_⟩
      ((try (conv => cbv)); repeat (refine brk_ok hA ?_; (try (conv => cbv))))
      refine ⟨nz_ok hA (by omega), ?_⟩
      ((try (conv => cbv)); repeat (refine brk_ok hA ?_; (try (conv => cbv))))
      rw [quo64 hA (by omega) (by omega) (by omega), add64 hA (a := 1) (b := sh / sh1) (by omega) (by omega), add64 hA (a := r) (b := 1 + sh / sh1) (by omega) (by omega), add64 hA (a := j) (b := 1) (by omega) (by omega)]
      refine ih c1 _ _ (by rw [e_bump hA]; exact he.trans (.bump _ _)) ?_
      rw [hsu, if_neg c2, ← hr]
    · rw [add64 hA (by omega) (by omega)]
      exact ih c1 h' r he (by rw [hsu, if_pos (by omega), ← hr]; omega)
  · exact h0 h' r he (by rw [hr, show l.length = j.toNat by omega])

theorem rbound_ok {h : AHeap} (hlow : h.low ≤ h.next) {a : Option Addr} {n c : Nat} (hn : n ≤ 1000000) {l : List Proj} (hs : Projs h a n l) (hsh : shortN l) (nu de i : Int) {Q : Value → AHeap → Prop}
    (hQ : ∀ r e h', Ext h h' → e = bdE l nu de i → r = bdV l nu de i → Q (.tuple #[.int .i64 r, .int .i64 e]) h') : call 25 [.agg #[.slice a n c, .int .i64 nu, .int .i64 de], .int .i64 i] h Q := by
  have hl := hs.len
  refine hA.bodyR Try.func25 r25_ok (show prims _ _ _ = none from rfl) hlow ?_; (try (conv => cbv)); repeat (refine brk_ok hA ?_; (try (conv => cbv)))
  refine rcheck_ok hA hlow hn hs hsh nu de (fun r h1 hr e1 => ⟨_, rfl, ?_⟩)
  ((try (conv => cbv)); repeat (refine brk_ok hA ?_; (try (conv => cbv))))
  have bad : ∀ e, e ≠ 0 → e = bdE l nu de i → Q (.tuple #[.int .i64 0, .int .i64 e]) h1 := fun e he0 he => hQ 0 e h1 e1 he (by unfold bdV; rw [← he, if_neg he0])
  refine br (r ≠ 0) (e_neq hA _ _) (fun c1 => ?_) (fun c1 => ?_) <;> (try (conv => cbv)) <;> repeat (refine brk_ok hA ?_; (try (conv => cbv)))
  · exact bad r c1 (by unfold bdE; rw [← hr, if_neg c1])
  have hz : checkQ l nu de = 0 := by omega
  obtain ⟨h8, _, _, hd, hnu, _⟩ := checkQ_zero hz
  refine br (i < 0) (e_lss hA _ _) (fun c2 => ?_) (fun c2 => ?_) <;> (try (conv => cbv)) <;> repeat (refine brk_ok hA ?_; (try (conv => cbv)))
  · exact bad 2 (by omega) (by unfold bdE; rw [if_pos hz, if_pos (.inl c2)])
  refine br ((n : Int) ≤ i) (by rw [e_geq hA, e_ofNat hA]) (fun c3 => ?_) (fun c3 => ?_) <;> (try (conv => cbv)) <;> repeat (refine brk_ok hA ?_; (try (conv => cbv)))
  · exact bad 2 (by omega) (by unfold bdE; rw [if_pos hz, if_pos (.inr (by omega))])
  refine rbound_loop hA (e1.lowOK hlow) (hs.ext e1) (checkQ_bounds hz) h8 (by omega) (by omega) (fun h2 r2 e2 hr2 => ?_) 0 (by omega) (by omega) h1 0 (.refl _) rfl
  ((try (conv => cbv)); repeat (refine brk_ok hA ?_; (try (conv => cbv))))
  have hE : bdE l nu de i = 0 := by unfold bdE; rw [if_pos hz, if_neg (by omega)]
  exact hQ r2 0 h2 (e1.trans e2) hE.symm (by unfold bdV; rw [if_pos hE, hr2])

end Go.Proofs.Ytlpnmdknlfmjaaa
