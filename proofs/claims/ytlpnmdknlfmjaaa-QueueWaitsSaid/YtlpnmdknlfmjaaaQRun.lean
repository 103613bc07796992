/-
  SERVING MANY TIMES: queue.Serve, fringeref42.Serve: what they return.
-/
import Derived.Test.YtlpnmdknlfmjaaaQServe
import Derived.Test.YtlpnmdknlfmjaaaSymC
namespace Go.Proofs.Ytlpnmdknlfmjaaa
open Go.Sim
set_option linter.unusedVariables false
set_option maxRecDepth 100000

def itL (l : List Proj) : Nat → List Proj
  | 0 => l
  | k + 1 => serveL (itL l k)
def itNu (l : List Proj) (nu : Int) : Nat → Int
  | 0 => nu
  | k + 1 => newNu (itL l k)
def itDe (l : List Proj) (de : Int) : Nat → Int
  | 0 => de
  | k + 1 => newDe (itL l k)
def itS (l : List Proj) : Nat → List Int
  | 0 => []
  | k + 1 => itS l k ++ [turnF (itL l k)]

/-- Serving m times ends behind k of them, with an error. -/
def Stops (l : List Proj) (m : Int) (k : Nat) (e : Int) : Prop :=
  (∀ j, j < k → serveE (itL l j) = 0) ∧ (k : Int) ≤ m ∧ ((e = 0 ∧ ((k : Int) = m ∨ serveE (itL l k) = 6)) ∨ (e = 16 ∧ (k : Int) < m ∧ serveE (itL l k) = 16))

theorem Stops.unique {l : List Proj} {m : Int} {k k' : Nat} {e e' : Int} (h : Stops l m k e) (h' : Stops l m k' e') : k = k' ∧ e = e' := by
  obtain ⟨a1, a2, a3⟩ := h
  obtain ⟨b1, b2, b3⟩ := h'
  have key : k = k' := by
    rcases Nat.lt_trichotomy k k' with h | h | h
    · have := b1 k h
      rcases a3 with ⟨_, a3 | a3⟩ | ⟨_, _, a3⟩ <;> omega
    · exact h
    · have := a1 k' h
      rcases b3 with ⟨_, b3 | b3⟩ | ⟨_, _, b3⟩ <;> omega
  subst key
  refine ⟨rfl, ?_⟩
  rcases a3 with ⟨a4, a3 | a3⟩ | ⟨a4, a5, a3⟩ <;> rcases b3 with ⟨b4, b3 | b3⟩ | ⟨b4, b5, b3⟩ <;> omega

theorem serveE_vals (l : List Proj) : serveE l = 0 ∨ serveE l = 6 ∨ serveE l = 16 := by
  unfold serveE
  split
  · exact .inr (.inl rfl)
  · split
    · exact .inr (.inr rfl)
    · exact .inl rfl

theorem frac_trans {a b c d e f : Int} (hd : 0 < d) (hb : 0 ≤ b) (hf : 0 ≤ f) (h1 : a * d ≤ c * b) (h2 : c * f ≤ e * d) : a * f ≤ e * b := by
  have h3 := Int.mul_le_mul_of_nonneg_right h1 hf
  have h4 := Int.mul_le_mul_of_nonneg_right h2 hb
  have h5 : a * f * d ≤ e * b * d := by
    calc a * f * d = a * d * f := by rw [Int.mul_right_comm]
      _ ≤ c * b * f := h3
      _ = c * f * b := by rw [Int.mul_right_comm]
      _ ≤ e * d * b := h4
      _ = e * b * d := by rw [Int.mul_right_comm]
  exact Int.le_of_mul_le_mul_right h5 hd

/-- Who is next waits, and nobody who waits comes before. -/
theorem turnTo_spec {l : List Proj} (hb : bounds l) : ∀ n : Nat, n ≤ l.length → (turnTo l n < 0 → ∀ j : Int, 0 ≤ j → j < n → (pj l j).waiting ≤ 0) ∧
    (0 ≤ turnTo l n → 0 < (pj l (turnTo l n)).waiting ∧ ∀ j : Int, 0 ≤ j → j < n → 0 < (pj l j).waiting → ((pj l (turnTo l n)).used + 1) * (pj l j).share ≤ ((pj l j).used + 1) * (pj l (turnTo l n)).share)
  | 0, _ => ⟨fun _ j h0 h1 => by omega, fun h => by simp [turnTo] at h⟩
  | n + 1, hn => by
    obtain ⟨ih1, ih2⟩ := turnTo_spec hb n (by omega)
    have rg := turnTo_range l n
    have bn := hb _ (pj_mem l (i := (n : Int)) (by omega) (by omega))
    have hst : turnTo l (n + 1) = turnStep l (turnTo l n) n := rfl
    rw [hst]
    unfold turnStep
    generalize turnTo l n = t at *
    have bt : 0 ≤ t → boundP (pj l t) := fun h => hb _ (pj_mem l h (by omega))
    split
    · rename_i hc
      obtain ⟨hw, hs⟩ := hc
      refine ⟨fun h => by omega, fun _ => ⟨hw, fun j h0 h1 h2 => ?_⟩⟩
      by_cases ej : j = n
      · subst ej; exact Int.le_refl _
      · rcases hs with hs | hs
        · have := ih1 hs j h0 (by omega); omega
        · by_cases ht : t < 0
          · have := ih1 ht j h0 (by omega); omega
          · have h3 := (ih2 (by omega)).2 j h0 (by omega) h2
            have bj := hb _ (pj_mem l h0 (by omega : j < l.length))
            have b1 := bt (by omega)
            exact frac_trans (d := (pj l t).share) (by have := b1.1; omega) (by have := bn.1; omega) (by have := bj.1; omega) (Int.le_of_lt hs) h3
    · rename_i hc
      refine ⟨fun h j h0 h1 => ?_, fun h => ⟨(ih2 h).1, fun j h0 h1 h2 => ?_⟩⟩
      · by_cases ej : j = n
        · subst ej
          by_cases hw : 0 < (pj l (n : Int)).waiting
          · exact absurd ⟨hw, .inl h⟩ hc
          · omega
        · exact ih1 h j h0 (by omega)
      · by_cases ej : j = n
        · subst ej
          by_cases hq : ((pj l (n : Int)).used + 1) * (pj l t).share < ((pj l t).used + 1) * (pj l (n : Int)).share
          · exact absurd ⟨h2, .inr hq⟩ hc
          · omega
        · exact (ih2 h).2 j h0 (by omega) h2

theorem turn_spec {l : List Proj} (hb : bounds l) (h : 0 ≤ turnF l) : 0 < (pj l (turnF l)).waiting ∧ ∀ j : Int, 0 ≤ j → j < l.length → 0 < (pj l j).waiting → ((pj l (turnF l)).used + 1) * (pj l j).share ≤ ((pj l j).used + 1) * (pj l (turnF l)).share :=
  (turnTo_spec hb l.length (Nat.le_refl _)).2 h
theorem turn_none {l : List Proj} (hb : bounds l) (h : turnF l < 0) : ∀ j : Int, 0 ≤ j → j < l.length → (pj l j).waiting ≤ 0 :=
  (turnTo_spec hb l.length (Nat.le_refl _)).1 h

theorem serveE_six {l : List Proj} : serveE l = 6 ↔ turnF l < 0 := by
  unfold serveE
  split
  · rename_i h; exact ⟨fun _ => h, fun _ => rfl⟩
  · rename_i h
    split
    · exact ⟨fun h => by omega, fun h2 => absurd h2 h⟩
    · exact ⟨fun h => by omega, fun h2 => absurd h2 h⟩

theorem serveE_zero {l : List Proj} (h : serveE l = 0) : 0 ≤ turnF l ∧ (pj l (turnF l)).used < 1000000 := by
  unfold serveE at h
  split at h
  · omega
  split at h
  · omega
  · omega

theorem checkQ_mk {l : List Proj} {nu de : Int} (h8 : l.length ≤ 8) (ht : ¬ twice l) (h1 : 1 ≤ l.length) (hd : 1 ≤ de ∧ de ≤ 100) (hn : 0 ≤ nu ∧ nu ≤ 1000000) (ha : allFit nu de l) : checkQ l nu de = 0 := by
  unfold checkQ
  rw [if_neg (by omega), if_neg ht, if_neg (by omega), if_pos ha]

theorem twice_set {l : List Proj} {i : Int} {p : Proj} (h0 : 0 ≤ i) (h1 : i < l.length) (hn : p.name = (pj l i).name) (h : ¬ twice l) : ¬ twice (setP l i p) := by
  intro ⟨j, k, hj, hjk, hk, hs⟩
  rw [setP_len] at hk
  have hnm : ∀ x : Int, 0 ≤ x → (pj (setP l i p) x).name = (pj l x).name := fun x hx => by
    rw [pj_set h0 hx h1]
    split
    · rename_i e; rw [e, hn]
    · rfl
  unfold sameName at hs
  rw [hnm j hj, hnm k (by omega)] at hs
  exact h ⟨j, k, hj, hjk, hk, hs⟩

/-- Serving keeps a queue valid. -/
theorem serve_valid {l : List Proj} {nu de : Int} (h : checkQ l nu de = 0) (he : serveE l = 0) : checkQ (serveL l) (newNu l) (newDe l) = 0 := by
  obtain ⟨h8, ht, h1, hd, hn, hf⟩ := checkQ_zero h
  have hb := checkQ_bounds h
  obtain ⟨i0, iu⟩ := serveE_zero he
  have i1 := (turnF_range l).2
  obtain ⟨hw, hmin⟩ := turn_spec hb i0
  have fi := hf _ i0 i1
  unfold serveL newNu newDe
  generalize turnF l = i at *
  obtain ⟨⟨nm, sh, us, wt⟩, hp⟩ : ∃ p, pj l i = p := ⟨_, rfl⟩
  rw [hp] at fi hw iu ⊢
  obtain ⟨⟨p1, p2, p3, p4, p5, p6, p7⟩, f1, f2⟩ := fi
  simp only at p1 p2 p3 p4 p5 p6 p7 f1 f2 hw iu
  refine checkQ_mk (by rw [setP_len]; exact h8) (twice_set i0 i1 (by rw [hp]; rfl) ht) (by rw [setP_len]; exact h1) ⟨p2, p3⟩ ⟨by simp only; omega, by simp only; omega⟩ (fun j j0 j1 => ?_)
  rw [setP_len] at j1
  rw [pj_set i0 j0 i1]
  by_cases ej : j = i
  · rw [if_pos ej]
    refine ⟨⟨p1, p2, p3, ?_, ?_, ?_, ?_⟩, ?_, fun _ => ?_⟩ <;> simp only [served]
    · omega
    · omega
    · omega
    · omega
    · exact Int.le_refl _
    · exact Int.mul_le_mul_of_nonneg_right (by omega) (by omega)
  · rw [if_neg ej]
    obtain ⟨pr, g1, g2⟩ := hf j j0 j1
    refine ⟨pr, ?_, fun hwj => ?_⟩
    · exact frac_trans (d := de) (f := sh) (e := us + 1) (by omega) (by have := pr.2.1; omega) (by omega) g1 (f2 hw)
    · have := hmin j j0 j1 hwj
      rw [hp] at this
      exact this

theorem checkQ_short {l : List Proj} {nu de : Int} (h : checkQ l nu de = 0) : shortN l := by
  obtain ⟨_, _, _, _, _, hf⟩ := checkQ_zero h
  intro p hp
  obtain ⟨j, hj, rfl⟩ := List.getElem_of_mem hp
  have := (hf j (by omega) (by omega)).1.1.2.1
  unfold pj at this
  rw [Int.toNat_natCast, pj_at l hj] at this
  omega

theorem it_valid {l : List Proj} {nu de : Int} (h : checkQ l nu de = 0) : ∀ k, (∀ j, j < k → serveE (itL l j) = 0) → checkQ (itL l k) (itNu l nu k) (itDe l de k) = 0
  | 0, _ => h
  | k + 1, hk => serve_valid (it_valid h k (fun j hj => hk j (by omega))) (hk k (by omega))

theorem serveL_len (l : List Proj) : (serveL l).length = l.length := setP_len _ _ _
theorem itL_len (l : List Proj) (k : Nat) : (itL l k).length = l.length := by
  induction k with
  | zero => rfl
  | succ k ih => rw [← ih]; exact serveL_len _
theorem itS_len (l : List Proj) (k : Nat) : (itS l k).length = k := by
  induction k with
  | zero => rfl
  | succ k ih => simp only [itS, List.length_append, ih, List.length_cons, List.length_nil]

theorem T31 : SliceT Try.prog 31 3 1 := ⟨by kernel_rfl, by kernel_rfl, ⟨8, by kernel_rfl, by omega⟩, ⟨.int .i64 0, by kernel_rfl, rfl⟩⟩

variable {call : FuncId → List Value → AHeap → (Value → AHeap → Prop) → Prop}
  {head : FuncId → Nat → Nat → SS → (Exit → SS → Prop) → Prop}
  {arith : BinOp → IntKind → Int → Int → Int}
  {cmp : BinOp → Int → Int → Bool}
  {scmp : BinOp → ByteArray → ByteArray → Bool}
  {bnot : Bool → Bool}
  {bsame : Bool → Bool → Bool}
  {conv : IntKind → Int → Int}
  {neg : IntKind → Int → Int}
  {imax : Int → Int → Int}
  {imin : Int → Int → Int}
  {ofNat : Nat → Int}
  {slen : ByteArray → Int}
  {place : Nat → Int → Nat → Nat}
  {inR : Int → Nat → Prop}
  {nz : Int → Prop}
  {geZ : Int → Prop}
  {rd : AHeap → Nat → Nat → Nat → List Value → Prop}
  {wr : AHeap → Nat → Nat → List Value → AHeap → Prop}
  {push : AHeap → Nat → List Value → AHeap}
  {next : AHeap → Nat}
  {mkOK : Int → Int → Prop}
  {nat : Int → Nat}
  {zeros : List Value → Int → List Value}
  {sadd : ByteArray → ByteArray → (ByteArray → Prop) → Prop}
  {eqAgg : TypeId → Array Value → Array Value → (Bool → Prop) → Prop}
  {cut : Nat → Int → Prop}
  {slc : TypeId → Value → Option Value → Option Value → Option Value → (Option Addr → Nat → Nat → Prop) → Prop}
  {sslc : TypeId → ByteArray → Option Value → Option Value → (ByteArray → Prop) → Prop}
  {strAt : ByteArray → Int → (Int → Prop) → Prop}
  {part : TypeId → Array Value → Nat → Value → Prop}
  {app : List TypeId → List Value → AHeap → (Option Addr → Nat → Nat → AHeap → Prop) → Prop}
  {cpy : List TypeId → List Value → AHeap → (Int → AHeap → Prop) → Prop}
  {putAt : AHeap → Nat → Nat → List Value → AHeap}
  {fresh : AHeap → AHeap}
  {lowered : AHeap → AHeap → AHeap}
  {bump : AHeap → Nat → AHeap}
  {wrote : AHeap → AHeap → Bool}
  {addN : Nat → Nat → Nat}
  {lt : Nat → Nat → Prop}
  {ne : Nat → Nat → Prop}
  {fpAll : Bool → Bool → Bool → Nat → Nat → Prop}
  {brk : (Unit → Prop) → Prop}
  (hA : AOK progU hint prims ⟨call, head, arith, cmp, scmp, bnot, bsame, conv, neg, imax, imin, ofNat, slen, place, inR, nz, geZ, rd, wr, push, next, mkOK, nat, zeros, sadd, eqAgg, cut, slc, sslc, strAt, part, app, cpy, putAt, fresh, lowered, bump, wrote, addN, lt, ne, fpAll, brk⟩)
include hA

/-- 'append(x, v)' of a slice of numbers. -/
theorem app1_ok {h : AHeap} {a : Option Addr} {n c : Nat} {l : List Int} {v : Int} (hp : Apd h 1 a n c (l.map (.int .i64))) (hn : n ≤ 10000) {C : Option Addr → Nat → Nat → AHeap → Prop}
    (hC : ∀ a' c' h', Apd h' 1 a' (n + 1) c' ((l ++ [v]).map (.int .i64)) → (∀ h0, Ext h0 h → From h0.next a → Ext h0 h' ∧ From h0.next a') → h.next ≤ h'.next → From h.next a' → (∀ i, i < h.next → (∀ ad, a = some ad → ad.block ≠ i) → h'.m.get i = h.m.get i) → C a' (n + 1) c' h') :
    app [31, 31] [.slice a n c, .slice (some ⟨next h, 0, none⟩) 1 1] (push h 1 [.int .i64 v]) C := by
  rw [e_app hA, e_push hA, e_next hA]
  have hs : Cells (h.push 1 [.int .i64 v]) (some ⟨h.next, 0, none⟩) 1 1 [.int .i64 v] := ⟨rfl, by simp [AHeap.push], by rw [(Own.push h 1 _).readG (by simp)]; rfl⟩
  obtain ⟨a', c', h', h1, h2, h3, h4, h5, h6⟩ := append_keep T31 T31.und (c2 := 1) (hp.ext (.push h 1 [.int .i64 v])) hs (ints_ok _ _) rfl (by omega) (by omega)
  have hn1 : (h.push 1 [Value.int .i64 v]).next = h.next + 1 := rfl
  refine ⟨a', n + 1, c', h', h1, hC a' c' h' (by simpa using h2) (fun h0 e0 f0 => h3 h0 (e0.trans (.push _ _ _)) f0) (by omega) (fun ad had => by have := h5 ad had; omega) (fun i hi hne => ?_)⟩
  rw [h6 i (by omega) hne]
  show (h.m.set h.next _).get i = _
  rw [Tri.get_set_ne _ _ (by omega)]

theorem serveN_loop {h : AHeap} (hlow : h.low ≤ h.next) {a : Option Addr} {n c : Nat} {l : List Proj} {nu de : Int} (hz : checkQ l nu de = 0) (hl : l.length = n) {m : Int} (hm0 : 0 ≤ m) (hm : m ≤ 1000) {qb pb : Nat} (hq0 : h.next ≤ qb) (hp0 : h.next ≤ pb) (hne : qb ≠ pb) {Q : Exit → SS → Prop}
    (h0 : ∀ k h' sa sc u s, Stops l m k 0 → Ext h h' → qb < h'.next → pb < h'.next → u = itNu l nu k → s = itDe l de k → Own h' qb 3 [.slice (some ⟨pb, 0, none⟩) n n, .int .i64 u, .int .i64 s] → Own h' pb 4 (flatP (itL l k)) → Apd h' 1 sa k sc ((itS l k).map (.int .i64)) → Q (.exit 0) ⟨[(4, .pointer (some ⟨1, 0, some 0⟩)), (8, .pointer (some ⟨qb, 0, none⟩)), (9, .slice sa k sc)], 2, [(1, [.slice none 0 0, .int .i64 0, .int .i64 0]), (0, [.slice a n c, .int .i64 nu, .int .i64 de])], h'⟩)
    (h1 : ∀ k e K' h', Stops l m k 16 → Ext h h' → Q .ret ⟨(6, .int .i64 16) :: (5, .slice none 0 0) :: (39, .int .i64 16) :: (38, .agg #[.slice none 0 0, .int .i64 0, .int .i64 0]) :: (4, .pointer (some ⟨1, 0, some 0⟩)) :: e, 2, (1, [.slice none 0 0, .int .i64 0, .int .i64 0]) :: K', h'⟩) :
    ∀ (i : Int), 0 ≤ i → i ≤ m.toNat → ∀ h' sa (k : Nat) sc u s, (k : Int) = i → (∀ j, j < k → serveE (itL l j) = 0) → Ext h h' → qb < h'.next → pb < h'.next → u = itNu l nu k → s = itDe l de k → Own h' qb 3 [.slice (some ⟨pb, 0, none⟩) n n, .int .i64 u, .int .i64 s] → Own h' pb 4 (flatP (itL l k)) → From h.next sa → (∀ ad, sa = some ad → ad.block ≠ qb ∧ ad.block ≠ pb) → Apd h' 1 sa k sc ((itS l k).map (.int .i64)) →
      head 13 9 2 ⟨[(4, .pointer (some ⟨1, 0, some 0⟩)), (8, .pointer (some ⟨qb, 0, none⟩)), (9, .slice sa k sc), (27, .int .i64 m), (28, .int .i64 i)], 2, [(1, [.slice none 0 0, .int .i64 0, .int .i64 0]), (0, [.slice a n c, .int .i64 nu, .int .i64 de])], h'⟩ Q := by
  have h8 := (checkQ_zero hz).1
  refine countUp (fun i hi0 hin ih h' sa k sc u s hk hall he hq hp hu hs oq op hf hsep ha => ?_)
  have hbd := checkQ_bounds (it_valid hz k hall)
  have hlk := itL_len l k
  refine hA.roundR Try.func13 r13_ok ?_; (try (conv => cbv)); repeat (refine brk_ok hA ?_; (try (conv => cbv)))
  refine br (i < m) (e_lss hA _ _) (fun c1 => ?_) (fun c1 => ?_) <;> (try (conv => cbv)) <;> repeat (refine brk_ok hA ?_; (try (conv => cbv)))
  · have c1' : i < m.toNat := by omega
    refine serve_ok hA he hlow hq0 hp0 hq hp hne (by omega) (by omega) hbd oq op (fun e j h2 e2 n2 g2 hE hx1 hx2 => ⟨_, _, rfl, ?_⟩)
    ((try (conv => cbv)); repeat (refine brk_ok hA ?_; (try (conv => cbv))))
    have hv := serveE_vals (itL l k)
    have ha2 : Apd h2 1 sa k sc ((itS l k).map (.int .i64)) := ha.of_get n2 (fun ad had hlt => g2 _ hlt (hsep ad had).1 (hsep ad had).2)
    refine br (e = 6) (e_eql hA _ _) (fun c2 => ?_) (fun c2 => ?_) <;> (try (conv => cbv)) <;> repeat (refine brk_ok hA ?_; (try (conv => cbv)))
    · obtain ⟨_, oq2, op2⟩ := hx1 (by omega)
      exact h0 k h2 sa sc u s ⟨hall, by omega, .inl ⟨rfl, .inr (by omega)⟩⟩ e2 (by omega) (by omega) hu hs oq2 op2 ha2
    refine br (e ≠ 0) (e_neq hA _ _) (fun c3 => ?_) (fun c3 => ?_) <;> (try (conv => cbv)) <;> repeat (refine brk_ok hA ?_; (try (conv => cbv)))
    · have e16 : e = 16 := by omega
      subst e16
      exact h1 k _ _ h2 ⟨hall, by omega, .inr ⟨rfl, by omega, by omega⟩⟩ e2
    obtain ⟨hj, oq2, op2⟩ := hx2 (by omega)
    refine app1_ok hA ha2 (by omega) (fun sa3 sc3 h3 ha3 hE3 n3 f3 g3 => ?_)
    ((try (conv => cbv)); repeat (refine brk_ok hA ?_; (try (conv => cbv))))
    obtain ⟨e3, hf3⟩ := hE3 h e2 hf
    have hq2 : qb < h2.next := by omega
    have hp2 : pb < h2.next := by omega
    have oq3 := oq2.of_get (g3 qb hq2 (fun ad had => (hsep ad had).1))
    have op3 := op2.of_get (g3 pb hp2 (fun ad had => (hsep ad had).2))
    obtain ⟨u', hu'⟩ : ∃ x, x = (pj (itL l k) (turnF (itL l k))).used + 1 := ⟨_, rfl⟩
    obtain ⟨s', hs'⟩ : ∃ x, x = (pj (itL l k) (turnF (itL l k))).share := ⟨_, rfl⟩
    rw [← hu', ← hs'] at oq3
    rw [add64 hA (by omega) (by omega)]
    refine ih c1' h3 sa3 (k + 1) sc3 u' s' (by omega) (fun j' hj' => ?_) e3 (by omega) (by omega) hu' hs' oq3 op3 hf3 (fun ad had => ?_) ?_
    · by_cases ej : j' = k
      · subst ej; omega
      · exact hall j' (by omega)
    · have := f3 ad had
      omega
    · rw [itS, ← hj]; exact ha3
  · exact h0 k h' sa sc u s ⟨hall, by omega, .inl ⟨rfl, .inl (by omega)⟩⟩ he hq hp hu hs oq op ha


theorem serveN_ok {h : AHeap} (hlow : h.low ≤ h.next) {a : Option Addr} {n c : Nat} (hn : n ≤ 1000000) (hc : n ≤ capLow c) {l : List Proj} (hs : Projs h a n l) (hsh : shortN l) (nu de m : Int) {Q : Value → AHeap → Prop}
    (hbad : ∀ e h', Ext h h' → e ≠ 0 → (e = checkQ l nu de ∨ (checkQ l nu de = 0 ∧ ¬ (0 ≤ m ∧ m ≤ 1000) ∧ e = 2) ∨ (checkQ l nu de = 0 ∧ (0 ≤ m ∧ m ≤ 1000) ∧ e = 16 ∧ ∃ k, Stops l m k 16)) → Q (.tuple #[.agg #[.slice none 0 0, .int .i64 0, .int .i64 0], .slice none 0 0, .int .i64 e]) h')
    (hok : ∀ b k sa sc u s h', checkQ l nu de = 0 → (0 ≤ m ∧ m ≤ 1000) → Stops l m k 0 → Ext h h' → h.next ≤ b → b < h'.next → Own h' b 4 (flatP (itL l k)) → u = itNu l nu k → s = itDe l de k → Ints h' .i64 sa k (itS l k) → Q (.tuple #[.agg #[.slice (some ⟨b, 0, none⟩) n n, .int .i64 u, .int .i64 s], .slice sa k sc, .int .i64 0]) h') :
    call 13 [.agg #[.slice a n c, .int .i64 nu, .int .i64 de], .int .i64 m] h Q := by
  have hl := hs.len
  refine hA.bodyR Try.func13 r13_ok (show prims _ _ _ = none from rfl) hlow ?_; (try (conv => cbv)); repeat (refine brk_ok hA ?_; (try (conv => cbv)))
  refine check_ok hA hlow hn hc hs hsh nu de (fun r h1 hr e1 => ⟨_, rfl, ?_⟩)
  ((try (conv => cbv)); repeat (refine brk_ok hA ?_; (try (conv => cbv))))
  refine br (r ≠ 0) (e_neq hA _ _) (fun c1 => ?_) (fun c1 => ?_) <;> (try (conv => cbv)) <;> repeat (refine brk_ok hA ?_; (try (conv => cbv)))
  · exact hbad r h1 e1 c1 (.inl hr)
  have hz : checkQ l nu de = 0 := by omega
  refine br (m < 0) (e_lss hA _ _) (fun c2 => ?_) (fun c2 => ?_) <;> (try (conv => cbv)) <;> repeat (refine brk_ok hA ?_; (try (conv => cbv)))
  · exact hbad 2 h1 e1 (by omega) (.inr (.inl ⟨hz, by omega, rfl⟩))
  refine br (1000 < m) (e_gtr hA _ _) (fun c3 => ?_) (fun c3 => ?_) <;> (try (conv => cbv)) <;> repeat (refine brk_ok hA ?_; (try (conv => cbv)))
  · exact hbad 2 h1 e1 (by omega) (.inr (.inl ⟨hz, by omega, rfl⟩))
  refine copied_ok hA (e1.lowOK hlow) hn (hs.ext e1) nu de (fun b h2 e2 hb0 hb1 ob => ⟨_, _, _, _, _, rfl, ?_⟩)
  ((try (conv => cbv)); repeat (refine brk_ok hA ?_; (try (conv => cbv))))
  have e3 := Ext.push h2 3 [.slice none 0 0, .int .i64 0, .int .i64 0]
  have o3 := Own.push h2 3 [.slice none 0 0, .int .i64 0, .int .i64 0]
  have x3 : h2.next < (h2.push 3 [.slice none 0 0, .int .i64 0, .int .i64 0]).next := Nat.lt_succ_self _
  simp only [e_push hA, e_next hA]
  generalize h2.push 3 [Value.slice none 0 0, Value.int IntKind.i64 0, Value.int IntKind.i64 0] = h3 at *
  obtain ⟨qb, hqb⟩ : ∃ x, x = h2.next := ⟨_, rfl⟩
  rw [← hqb] at o3 x3 ⊢
  have n1 := e1.next
  have n2 := e2.next
  have n3 := e3.next
  obtain ⟨h4, w4, oq4, wr4⟩ := o3.write (o := 0) (vs := [.slice (some ⟨b, 0, none⟩) n n, .int .i64 nu, .int .i64 de]) (by simp)
  have e04 : Ext h h4 := wr4.ext ((e1.trans e2).trans e3) (by omega)
  have n4 := wr4.next
  refine ⟨h4, wr_at hA w4, ?_⟩
  ((try (conv => cbv)); repeat (refine brk_ok hA ?_; (try (conv => cbv))))
  refine serveN_loop hA hlow hz hl (by omega) (by omega) (qb := qb) (pb := b) (by omega) (by omega) (by omega) (fun k h5 sa sc u s hst e5 hq5 hp5 hu hs5 oq5 op5 ha5 => ?_) (fun k e K' h5 hst e5 => ?_) 0 (by omega) (by omega) h4 none 0 0 nu de rfl (fun j hj => by omega) e04 (by omega) (by omega) rfl rfl oq4 (wr4.own (ob.ext e3 hb1) (by omega)) (.none _) (fun ad h => by cases h) (.nil _ _)
  · ((try (conv => cbv)); repeat (refine brk_ok hA ?_; (try (conv => cbv))))
    refine ⟨some ⟨b, 0, none⟩, n, n, u, s, rd_at hA (oq5.readG (by simp)), ?_⟩
    ((try (conv => cbv)); repeat (refine brk_ok hA ?_; (try (conv => cbv))))
    exact hok b k sa sc u s h5 hz (by omega) hst e5 (by omega) hp5 op5 hu hs5 ⟨ha5.cells⟩
  · ((try (conv => cbv)); repeat (refine brk_ok hA ?_; (try (conv => cbv))))
    exact hbad 16 h5 e5 (by omega) (.inr (.inr ⟨hz, by omega, rfl, k, hst⟩))

theorem rserveN_loop {h : AHeap} (hlow : h.low ≤ h.next) {a : Option Addr} {n c : Nat} {l : List Proj} {nu de : Int} (hz : checkQ l nu de = 0) (hl : l.length = n) {m : Int} (hm0 : 0 ≤ m) (hm : m ≤ 1000) {Q : Exit → SS → Prop}
    (h0 : ∀ k h' b c' sa sc u s, Stops l m k 0 → Ext h h' → h.next ≤ b → b < h'.next → u = itNu l nu k → s = itDe l de k → Own h' b 4 (flatP (itL l k)) → Apd h' 1 sa k sc ((itS l k).map (.int .i64)) → Q (.exit 0) ⟨[(4, .pointer (some ⟨1, 0, some 0⟩)), (8, .pointer (some ⟨2, 0, some 0⟩)), (9, .slice sa k sc)], 3, [(0, [.slice a n c, .int .i64 nu, .int .i64 de]), (1, [.slice none 0 0, .int .i64 0, .int .i64 0]), (2, [.slice (some ⟨b, 0, none⟩) n c', .int .i64 u, .int .i64 s])], h'⟩)
    (h1 : ∀ k e K' h', Stops l m k 16 → Ext h h' → Q .ret ⟨(6, .int .i64 16) :: (5, .slice none 0 0) :: (43, .int .i64 16) :: (42, .agg #[.slice none 0 0, .int .i64 0, .int .i64 0]) :: (4, .pointer (some ⟨1, 0, some 0⟩)) :: e, 4, (1, [.slice none 0 0, .int .i64 0, .int .i64 0]) :: K', h'⟩) :
    ∀ (i : Int), 0 ≤ i → i ≤ m.toNat → ∀ h' b c' sa (k : Nat) sc u s, (k : Int) = i → (∀ j, j < k → serveE (itL l j) = 0) → Ext h h' → h.next ≤ b → b < h'.next → u = itNu l nu k → s = itDe l de k → Own h' b 4 (flatP (itL l k)) → From h.next sa → (∀ ad, sa = some ad → ad.block ≠ b) → Apd h' 1 sa k sc ((itS l k).map (.int .i64)) →
      head 14 8 3 ⟨[(1, .int .i64 m), (4, .pointer (some ⟨1, 0, some 0⟩)), (8, .pointer (some ⟨2, 0, some 0⟩)), (9, .slice sa k sc)], 3, [(0, [.slice a n c, .int .i64 nu, .int .i64 de]), (1, [.slice none 0 0, .int .i64 0, .int .i64 0]), (2, [.slice (some ⟨b, 0, none⟩) n c', .int .i64 u, .int .i64 s])], h'⟩ Q := by
  have h8 := (checkQ_zero hz).1
  refine countUp (fun i hi0 hin ih h' b c' sa k sc u s hk hall he hb0 hb1 hu hs op hf hsep ha => ?_)
  have hv := it_valid hz k hall
  have hbd := checkQ_bounds hv
  have hlk := itL_len l k
  have hpr := op.projs hb1 (n := n) (by omega)
  rw [← hu, ← hs] at hv
  have hvals := serveE_vals (itL l k)
  refine hA.roundR Try.func14 r14_ok ?_; (try (conv => cbv)); repeat (refine brk_ok hA ?_; (try (conv => cbv)))
  refine br ((k : Int) < m) (by rw [e_lss hA, e_ofNat hA]) (fun c1 => ?_) (fun c1 => ?_) <;> (try (conv => cbv)) <;> repeat (refine brk_ok hA ?_; (try (conv => cbv)))
  · refine rturn_ok hA (he.lowOK hlow) (by omega) hpr hbd u s (fun t h2 e2 ht => ⟨_, rfl, ?_⟩)
    ((try (conv => cbv)); repeat (refine brk_ok hA ?_; (try (conv => cbv))))
    have he2 := he.trans e2
    have n2 := e2.next
    refine br (0 ≤ t) (e_geq hA _ _) (fun c2 => ?_) (fun c2 => ?_) <;> (try (conv => cbv)) <;> repeat (refine brk_ok hA ?_; (try (conv => cbv)))
    · refine rnext_ok hA (he2.lowOK hlow) (by omega) (hpr.ext e2) (checkQ_short hv) u s (fun e h3 e3 hE hE0 => ⟨_, _, _, _, _, _, _, rfl, ?_⟩) (fun pb j u' s' c3' h3 e3 hp0 hp1 op3 hE hj hu' hs' => ⟨_, _, _, _, _, _, _, rfl, ?_⟩)
      · ((try (conv => cbv)); repeat (refine brk_ok hA ?_; (try (conv => cbv))))
        have hE1 : e = serveE (itL l k) := by rw [hE]; unfold nextE; rw [if_pos hv]
        have h6 := serveE_six (l := itL l k)
        have e16 : e = 16 := by
          rcases hvals with q | q | q
          · omega
          · have := h6.1 q; omega
          · omega
        subst e16
        refine br ((16 : Int) ≠ 0) (e_neq hA _ _) (fun c3 => ?_) (fun c3 => absurd (by omega) c3) <;> (try (conv => cbv)) <;> repeat (refine brk_ok hA ?_; (try (conv => cbv)))
        exact h1 k _ _ h3 ⟨hall, by omega, .inr ⟨rfl, by omega, by omega⟩⟩ (he2.trans e3)
      · ((try (conv => cbv)); repeat (refine brk_ok hA ?_; (try (conv => cbv))))
        have hE1 : serveE (itL l k) = 0 := by rw [← hE]; unfold nextE; rw [if_pos hv]
        refine br ((0 : Int) ≠ 0) (e_neq hA _ _) (fun c3 => absurd rfl c3) (fun c3 => ?_) <;> (try (conv => cbv)) <;> repeat (refine brk_ok hA ?_; (try (conv => cbv)))
        have ha3 := ha.ext (e2.trans e3)
        have n3 := e3.next
        refine app1_ok hA ha3 (by omega) (fun sa4 sc4 h4 ha4 hE4 n4 f4 g4 => ?_)
        ((try (conv => cbv)); repeat (refine brk_ok hA ?_; (try (conv => cbv))))
        obtain ⟨e4, hf4⟩ := hE4 h (he2.trans e3) hf
        have op4 := op3.of_get (g4 pb hp1 (fun ad had => by have := ha.lt ad had; omega))
        have hc1' : i < m.toNat := by omega
        refine ih hc1' h4 pb c3' sa4 (k + 1) sc4 u' s' (by omega) (fun j' hj' => ?_) e4 (by omega) (by omega) hu' hs' op4 hf4 (fun ad had => ?_) ?_
        · by_cases ej : j' = k
          · subst ej; exact hE1
          · exact hall j' (by omega)
        · have := f4 ad had
          omega
        · rw [itS, ← hj]; exact ha4
    · exact h0 k h2 b c' sa sc u s ⟨hall, by omega, .inl ⟨rfl, .inr (serveE_six.2 (by omega))⟩⟩ he2 hb0 (by omega) hu hs (op.ext e2 hb1) (ha.ext e2)
  · exact h0 k h' b c' sa sc u s ⟨hall, by omega, .inl ⟨rfl, .inl (by omega)⟩⟩ he hb0 hb1 hu hs op ha

theorem rserveN_ok {h : AHeap} (hlow : h.low ≤ h.next) {a : Option Addr} {n c : Nat} (hn : n ≤ 1000000) {l : List Proj} (hs : Projs h a n l) (hsh : shortN l) (nu de m : Int) {Q : Value → AHeap → Prop}
    (hbad : ∀ e h', Ext h h' → e ≠ 0 → (e = checkQ l nu de ∨ (checkQ l nu de = 0 ∧ ¬ (0 ≤ m ∧ m ≤ 1000) ∧ e = 2) ∨ (checkQ l nu de = 0 ∧ (0 ≤ m ∧ m ≤ 1000) ∧ e = 16 ∧ ∃ k, Stops l m k 16)) → Q (.tuple #[.agg #[.slice none 0 0, .int .i64 0, .int .i64 0], .slice none 0 0, .int .i64 e]) h')
    (hok : ∀ b c' k sa sc u s h', checkQ l nu de = 0 → (0 ≤ m ∧ m ≤ 1000) → Stops l m k 0 → Ext h h' → h.next ≤ b → b < h'.next → Own h' b 4 (flatP (itL l k)) → u = itNu l nu k → s = itDe l de k → Ints h' .i64 sa k (itS l k) → Q (.tuple #[.agg #[.slice (some ⟨b, 0, none⟩) n c', .int .i64 u, .int .i64 s], .slice sa k sc, .int .i64 0]) h') :
    call 14 [.agg #[.slice a n c, .int .i64 nu, .int .i64 de], .int .i64 m] h Q := by
  have hl := hs.len
  have bt := e_bnot hA true
  have bf := e_bnot hA false
  refine hA.bodyR Try.func14 r14_ok (show prims _ _ _ = none from rfl) hlow ?_; (try (conv => cbv)); repeat (refine brk_ok hA ?_; (try (conv => cbv)))
  refine rcheck_ok hA hlow hn hs hsh nu de (fun r h1 hr e1 => ⟨_, rfl, ?_⟩)
  ((try (conv => cbv)); repeat (refine brk_ok hA ?_; (try (conv => cbv))))
  refine br (r ≠ 0) (e_neq hA _ _) (fun c1 => ?_) (fun c1 => ?_) <;> (try (conv => cbv)) <;> repeat (refine brk_ok hA ?_; (try (conv => cbv)))
  · exact hbad r h1 e1 c1 (.inl hr)
  have hz : checkQ l nu de = 0 := by omega
  refine in_fn hA _ _ _ (e1.lowOK hlow) (fun r2 hr2 => ⟨_, rfl, ?_⟩)
  ((try (conv => cbv)); repeat (refine brk_ok hA ?_; (try (conv => cbv))))
  cases r2 with
  | false =>
    rw [bf]
    ((try (conv => cbv)); repeat (refine brk_ok hA ?_; (try (conv => cbv))))
    have := of_decide_eq_false hr2.symm
    exact hbad 2 h1 e1 (by omega) (.inr (.inl ⟨hz, this, rfl⟩))
  | true =>
    rw [bt]
    ((try (conv => cbv)); repeat (refine brk_ok hA ?_; (try (conv => cbv))))
    have hm := of_decide_eq_true hr2.symm
    refine twin_ok hA (e1.lowOK hlow) hn (hs.ext e1) nu de (fun b c' h2 e2 hb0 hb1 ob => ⟨_, _, _, _, _, rfl, ?_⟩)
    ((try (conv => cbv)); repeat (refine brk_ok hA ?_; (try (conv => cbv))))
    have n1 := e1.next
    refine rserveN_loop hA hlow hz hl hm.1 hm.2 (fun k h5 b5 c5 sa sc u s hst e5 hq5 hp5 hu hs5 op5 ha5 => ?_) (fun k e K' h5 hst e5 => ?_) 0 (by omega) (by omega) h2 b c' none 0 0 nu de rfl (fun j hj => by omega) (e1.trans e2) (by omega) hb1 rfl rfl ob (.none _) (fun ad h => by cases h) (.nil _ _)
    · ((try (conv => cbv)); repeat (refine brk_ok hA ?_; (try (conv => cbv))))
      exact hok b5 c5 k sa sc u s h5 hz hm hst e5 hq5 hp5 op5 hu hs5 ⟨ha5.cells⟩
    · ((try (conv => cbv)); repeat (refine brk_ok hA ?_; (try (conv => cbv))))
      exact hbad 16 h5 e5 (by omega) (.inr (.inr ⟨hz, hm, rfl, k, hst⟩))

end Go.Proofs.Ytlpnmdknlfmjaaa
