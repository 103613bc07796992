/-
  ARE TWO LOGS THE SAME (fringeref40.SameLog)? What Clean answers, in memory.
-/
import Derived.Test.YtogofeppflindaaCRClean
import Derived.Test.YtogofeppflindaaCAns
namespace Go.Proofs.Ytogofeppflindaa
open Go.Sim
set_option linter.unusedVariables false
set_option maxRecDepth 100000

theorem guard56 : Try.prog.eqGuardType Try.prog.depth 56 = false := by kernel_rfl
theorem eqC (a b c a' b' c' : Int) : ∃ r, eqA Try.prog 30 56 (.agg #[.int .i64 a, .int .i64 b, .int .i64 c]) (.agg #[.int .i64 a', .int .i64 b', .int .i64 c']) = some r ∧ (r = true ↔ a = a' ∧ b = b' ∧ c = c') := by
  have h3 : Try.prog.underlying 3 = some (.int .i64) := by kernel_rfl
  have hst : Try.prog.stoodInHeld 56 = false := by kernel_rfl
  have i3 : isAggB Try.prog 3 = some false := by kernel_rfl
  have e3 : ∀ (n : Nat) (x y : Int), eqA Try.prog (n + 1) 3 (.int .i64 x) (.int .i64 y) = some (x == y) := by
    intro n x y
    unfold eqA
    rw [h3]
    simp
  have key : eqA Try.prog (28 + 1 + 1) 56 (.agg #[.int .i64 a, .int .i64 b, .int .i64 c]) (.agg #[.int .i64 a', .int .i64 b', .int .i64 c']) = some ((a == a') && (b == b') && (c == c')) := by
    unfold eqA
    rw [Try.underlying56]
    have e3' : ∀ (x y : Int), eqA Try.prog 29 3 (.int .i64 x) (.int .i64 y) = some (x == y) := e3 28
    simp only [hst, cond_false, List.foldr, partA, i3, List.getElem?_cons_zero, List.getElem?_cons_succ, e3', String.reduceEq, if_false]
    cases a == a' <;> cases b == b' <;> cases c == c' <;> rfl
  refine ⟨_, key, ?_⟩
  simp only [Bool.and_eq_true, beq_iff_eq, and_assoc]

theorem comps_ext {l m : List Comp} (hl : l.length = m.length) (h : ∀ j : Int, 0 ≤ j → j < l.length → ca l j = ca m j) : l = m := by
  apply List.ext_getElem hl
  intro i h1 h2
  have := h i (by omega) (by omega)
  unfold ca at this
  simpa [List.getD, List.getElem?_eq_getElem h1, List.getElem?_eq_getElem h2] using this

/-- What a cleaning leaves. -/
theorem Runs.facts {bm : Grid} {n : Int} {c : Cln} (hb : beamP bm n) (hc : clnP c) (n1 : 1 ≤ n) {k : Nat} {g : Grid} {r : Option (Grid × List Comp)} (h : Runs bm n c k g r) : squareP g n 1000000000 → ∀ g' l, r = some (g', l) → squareP g' n 1000000000 ∧ l.length ≤ k ∧ ∀ p ∈ l, compP n p ∧ 1 ≤ p.f := by
  induction h with
  | out g => intro hs g' l q; cases q; exact ⟨hs, by simp, fun p hp => by cases hp⟩
  | low t q => intro hs g' l q; cases q; exact ⟨hs, by simp, fun p hp => by cases hp⟩
  | stop t q w => intro hs g' l q; cases q
  | fail t q w s ih => intro hs g' l q; cases q
  | go t q w s ih =>
    intro hs g' l e
    cases e
    obtain ⟨i1, i2, i3⟩ := ih ((left_square n1).2 w) _ _ rfl
    have hp := pAt_comp hb hc n1 hs t q
    refine ⟨i1, by simp; omega, fun p hp' => ?_⟩
    rcases List.mem_cons.1 hp' with rfl | hp'
    · refine ⟨hp, ?_⟩
      have hf : ¬ flux bm n c (cell _ _ _) = 0 := fun e => q (.inr e)
      have hfl : ¬ cell _ _ _ < c.floor := fun e => q (.inl e)
      have c4 := hc.2.2.2.1
      have t1 := t.x0; have t2 := t.x1; have t3 := t.y0; have t4 := t.y1
      have w9 := (hs.2 _ t3 t4).2 _ t1 t2
      obtain ⟨_, _, _, _, f1, f2⟩ := flux_in hb hc n1 (b := cell _ _ _) (by omega) w9.2
      show 1 ≤ flux bm n c _
      omega
    · exact i3 p hp'

/-- An answer of Clean in memory. -/
def AnsC (img bm : Grid) (c : Cln) (h : AHeap) (a : Option Addr) (m : Nat) (al : Option Addr) (kl : Nat) (e : Int) : Prop :=
  ∃ r : Option (Grid × List Comp), ClnIs img bm c e r ∧ Img h a m ((r.map (·.1)).getD []) ∧ Log h al kl ((r.map (·.2)).getD []) ∧ small ((r.map (·.1)).getD []) ∧ ((r.map (·.2)).getD []).length ≤ 100

theorem AnsC.ext {img bm : Grid} {c : Cln} {h h' : AHeap} {a : Option Addr} {m : Nat} {al : Option Addr} {kl : Nat} {e : Int} (p : AnsC img bm c h a m al kl e) (x : Ext h h') : AnsC img bm c h' a m al kl e := by
  obtain ⟨r, h1, h2, h3, h4, h5⟩ := p
  exact ⟨r, h1, h2.ext x, h3.ext x, h4, h5⟩
theorem AnsC.num {img bm : Grid} {c : Cln} {h h' : AHeap} {a a' : Option Addr} {m m' : Nat} {al al' : Option Addr} {kl kl' : Nat} {e e' : Int} (p : AnsC img bm c h a m al kl e) (p' : AnsC img bm c h' a' m' al' kl' e') : e = e' := by
  obtain ⟨r, h1, _⟩ := p
  obtain ⟨r', h1', _⟩ := p'
  exact (h1.uniq h1').1

theorem Log.nil (h : AHeap) : Log h none 0 [] := ⟨⟨rfl, rfl⟩⟩

variable {call : FuncId → List Value → AHeap → (Value → AHeap → Prop) → Prop}
  {head : FuncId → Nat → Nat → SS → (Exit → SS → Prop) → Prop}
  {arith : BinOp → IntKind → Int → Int → Int}
  {cmp : BinOp → Int → Int → Bool}
  {scmp : BinOp → ByteArray → ByteArray → Bool}
  {bnot : Bool → Bool}
  {bsame : Bool → Bool → Bool}
  {conv : IntKind → Int → Int}
  {neg : IntKind → Int → Int}
  {imax : Int → Int → Int}
  {imin : Int → Int → Int}
  {ofNat : Nat → Int}
  {slen : ByteArray → Int}
  {place : Nat → Int → Nat → Nat}
  {inR : Int → Nat → Prop}
  {nz : Int → Prop}
  {geZ : Int → Prop}
  {rd : AHeap → Nat → Nat → Nat → List Value → Prop}
  {wr : AHeap → Nat → Nat → List Value → AHeap → Prop}
  {push : AHeap → Nat → List Value → AHeap}
  {next : AHeap → Nat}
  {mkOK : Int → Int → Prop}
  {nat : Int → Nat}
  {zeros : List Value → Int → List Value}
  {sadd : ByteArray → ByteArray → (ByteArray → Prop) → Prop}
  {eqAgg : TypeId → Array Value → Array Value → (Bool → Prop) → Prop}
  {cut : Nat → Int → Prop}
  {slc : TypeId → Value → Option Value → Option Value → Option Value → (Option Addr → Nat → Nat → Prop) → Prop}
  {sslc : TypeId → ByteArray → Option Value → Option Value → (ByteArray → Prop) → Prop}
  {strAt : ByteArray → Int → (Int → Prop) → Prop}
  {part : TypeId → Array Value → Nat → Value → Prop}
  {app : List TypeId → List Value → AHeap → (Option Addr → Nat → Nat → AHeap → Prop) → Prop}
  {cpy : List TypeId → List Value → AHeap → (Int → AHeap → Prop) → Prop}
  {putAt : AHeap → Nat → Nat → List Value → AHeap}
  {fresh : AHeap → AHeap}
  {lowered : AHeap → AHeap → AHeap}
  {bump : AHeap → Nat → AHeap}
  {wrote : AHeap → AHeap → Bool}
  {addN : Nat → Nat → Nat}
  {lt : Nat → Nat → Prop}
  {ne : Nat → Nat → Prop}
  {fpAll : Bool → Bool → Bool → Nat → Nat → Prop}
  {brk : (Unit → Prop) → Prop}
  {yn : Nat → Nat}
  {rng : FuncId → Nat → SS → (Exit → SS → Prop) → Prop}
  {mget : TypeId → Value → Value → AHeap → Value → Bool → Prop}
  {mput : TypeId → Value → Value → Value → AHeap → AHeap → Prop}
  {mnew : AHeap → AHeap}
  {bytes : TypeId → TypeId → Option Addr → Nat → AHeap → ByteArray → Prop}
  {clr : List TypeId → List Value → AHeap → AHeap → Prop}
  (hA : AOK progU hint prims ⟨call, head, arith, cmp, scmp, bnot, bsame, conv, neg, imax, imin, ofNat, slen, place, inR, nz, geZ, rd, wr, push, next, mkOK, nat, zeros, sadd, eqAgg, cut, slc, sslc, strAt, part, app, cpy, putAt, fresh, lowered, bump, wrote, addN, lt, ne, fpAll, brk, yn, rng, mget, mput, mnew, bytes, clr⟩)
include hA

theorem samelog_loop {h0 : AHeap} {a a' : Option Addr} {n c c' : Nat} (hn : n ≤ 1000000) {l l' : List Comp} (hs : Log h0 a n l) (hs' : Log h0 a' n l') {Q : Exit → SS → Prop}
    (h1 : ∀ e kn K h', Ext h0 h' → l = l' → Q (.exit 0) ⟨e, kn, K, h'⟩) (h2 : ∀ e kn K h', Ext h0 h' → l ≠ l' → Q .ret ⟨(4, .bool false) :: e, kn, K, h'⟩) :
    ∀ i : Int, 0 ≤ i → i ≤ n → ∀ h, Ext h0 h → (∀ j : Int, 0 ≤ j → j < i → ca l j = ca l' j) → head 19 4 0 ⟨[(0, .slice a n c), (1, .slice a' n c'), (5, .int .i64 i)], 0, [], h⟩ Q := by
  have hl := hs.len
  have hl' := hs'.len
  refine countUp (fun i hi0 hin ih h e hall => ?_)
  refine hA.roundR Try.func19 r19_ok ?_; (try (conv => cbv)); repeat (refine brk_ok hA ?_; (try (conv => cbv)))
  refine br (i < n) (by rw [e_lss hA, e_ofNat hA]) (fun c1 => ?_) (fun c1 => ?_) <;> (try (conv => cbv)) <;> repeat (refine brk_ok hA ?_; (try (conv => cbv)))
  · obtain ⟨h9, hh9⟩ : ∃ x, x = bump h 9 := ⟨_, rfl⟩
    obtain ⟨nh, hnh⟩ : ∃ x, x = next h := ⟨_, rfl⟩
    have e9 : Ext h0 h9 := by rw [hh9, e_bump hA]; exact e.trans (.bump _ _)
    rw [← hh9, ← hnh]
    obtain ⟨b, o, x, y, f, hae, hb, hca, hrd, _, _, _⟩ := (hs.ext e9).at hi0 c1
    refine ⟨b, o, hae, in_ok hA hi0 c1, ?_⟩
    ((try (conv => cbv)); repeat (refine brk_ok hA ?_; (try (conv => cbv))))
    refine ⟨x, y, f, rd_ok hA hrd, ?_⟩
    ((try (conv => cbv)); repeat (refine brk_ok hA ?_; (try (conv => cbv))))
    obtain ⟨b', o', x', y', f', hae', hb', hca', hrd', _, _, _⟩ := (hs'.ext e9).at hi0 c1
    refine ⟨b', o', hae', in_ok hA hi0 c1, ?_⟩
    ((try (conv => cbv)); repeat (refine brk_ok hA ?_; (try (conv => cbv))))
    refine ⟨x', y', f', rd_ok hA hrd', ?_⟩
    ((try (conv => cbv)); repeat (refine brk_ok hA ?_; (try (conv => cbv))))
    obtain ⟨r, hr1, hr2⟩ := eqC x y f x' y' f'
    rw [e_eqAgg hA]
    refine ⟨guard56, r, hr1, ?_⟩
    ((try (conv => cbv)); repeat (refine brk_ok hA ?_; (try (conv => cbv))))
    have bt := e_bnot hA true
    have bf := e_bnot hA false
    cases r with
    | true =>
      rw [bt]
      ((try (conv => cbv)); repeat (refine brk_ok hA ?_; (try (conv => cbv))))
      obtain ⟨rfl, rfl, rfl⟩ := hr2.1 rfl
      rw [add64 hA (by omega) (by omega)]
      refine ih c1 h9 e9 (fun j hj0 hj1 => ?_)
      by_cases e : j = i
      · rw [e, hca, hca']
      · exact hall j hj0 (by omega)
    | false =>
      rw [bf]
      ((try (conv => cbv)); repeat (refine brk_ok hA ?_; (try (conv => cbv))))
      refine h2 _ _ _ h9 e9 (fun e => ?_)
      subst e
      rw [hca] at hca'
      simp only [Comp.mk.injEq] at hca'
      have := hr2.2 hca'
      cases this
  · exact h1 _ _ _ h e (comps_ext (by omega) (fun j hj0 hj1 => hall j hj0 (by omega)))

theorem samelog_ok {h : AHeap} (hlow : h.low ≤ h.next) {a a' : Option Addr} {n n' c c' : Nat} (hn : n ≤ 1000000) {l l' : List Comp} (hs : Log h a n l) (hs' : Log h a' n' l') {Q : Value → AHeap → Prop}
    (hQ : ∀ r h', Ext h h' → (r = true ↔ l = l') → Q (.bool r) h') : call 19 [.slice a n c, .slice a' n' c'] h Q := by
  have hl := hs.len
  have hl' := hs'.len
  refine hA.bodyR Try.func19 r19_ok (show prims _ _ _ = none from rfl) hlow ?_; (try (conv => cbv)); repeat (refine brk_ok hA ?_; (try (conv => cbv)))
  refine br ((n : Int) ≠ n') (by rw [e_neq hA, e_ofNat hA, e_ofNat hA]) (fun c1 => ?_) (fun c1 => ?_) <;> (try (conv => cbv)) <;> repeat (refine brk_ok hA ?_; (try (conv => cbv)))
  · exact hQ _ h (.refl _) (no (fun q => c1 (by subst q; omega)))
  have : n = n' := by omega
  subst this
  refine samelog_loop hA hn hs hs' (fun e kn K h' x q => ?_) (fun e kn K h' x q => ?_) 0 (by omega) (by omega) h (.refl _) (fun j h1 h2 => by omega)
  · ((try (conv => cbv)); repeat (refine brk_ok hA ?_; (try (conv => cbv))))
    exact hQ _ h' x (yes q)
  · ((try (conv => cbv)); repeat (refine brk_ok hA ?_; (try (conv => cbv))))
    exact hQ _ h' x (no q)

theorem clean_is2 {h : AHeap} (hlow : h.low ≤ h.next) {a : Option Addr} {m k : Nat} {img : Grid} (hg : Img h a m img) {ab : Option Addr} {mb kb : Nat} {bm : Grid} (hb : Img h ab mb bm) {c : Cln} {F : FuncId} (hF : F = 12 ∨ F = 13) {Q : Value → AHeap → Prop}
    (hQ : ∀ a' m' c' al kl cl e h', Ext h h' → AnsC img bm c h' a' m' al kl e → (F = 12 → kl ≤ capLow cl) → Q (.tuple #[.slice a' m' c', .slice al kl cl, .int .i64 e]) h') : call F [.slice a m k, .slice ab mb kb, .agg c.cells.toArray] h Q := by
  have fin : ∀ {g l a' m' al kl} {h' : AHeap}, Img h' a' m' g → Log h' al kl l → ClnIs img bm c 0 (some (g, l)) → AnsC img bm c h' a' m' al kl 0 := by
    intro g l a' m' al kl h' hi hl hr
    refine ⟨_, hr, hi, hl, ?_, ?_⟩ <;> (rcases hr with ⟨_, q, _⟩ | ⟨_, _, q, _⟩ | ⟨q1, s, q2, _, q3⟩)
    · exact absurd rfl q
    · cases q
    · cases q3
      obtain ⟨u1, u2, u3⟩ := q1.ok
      have := Runs.facts u2 u3 u1.1 q2 (square_more u1.2.2 (by omega)) _ _ rfl
      exact shp_small (squareP_shp this.1) u1.2.1
    · exact absurd rfl q
    · cases q
    · cases q3
      obtain ⟨u1, u2, u3⟩ := q1.ok
      have := Runs.facts u2 u3 u1.1 q2 (square_more u1.2.2 (by omega)) _ _ rfl
      have c7 := u3.2.2.2.2.2.2
      have := this.2.1
      simp only [Option.map_some, Option.getD_some]
      omega
  rcases hF with rfl | rfl
  · exact cln_ok hA hlow hg hb (fun e h' x hr => hQ _ _ _ _ _ _ _ h' x ⟨none, hr, Img.nil h', Log.nil h', small_nil, by simp⟩ (fun _ => Nat.zero_le _)) (fun g l a' c' bs al kl cl h' x ho hl hcap hr => hQ _ _ _ _ _ _ _ h' x (fin ho.img hl hr) (fun _ => hcap (by obtain ⟨r, q1, q2, q3, q4, q5⟩ := fin ho.img hl hr; have := q3.len; unfold slack; omega)))
  · exact rclean_ok hA hlow hg hb (fun e h' x hr => hQ _ _ _ _ _ _ _ h' x ⟨none, hr, Img.nil h', Log.nil h', small_nil, by simp⟩ (fun _ => Nat.zero_le _)) (fun g l a' c' bs al kl cl h' x ho hl hr => hQ _ _ _ _ _ _ _ h' x (fin ho.img hl hr) (fun q => by cases q))
theorem clean_is {h : AHeap} (hlow : h.low ≤ h.next) {a : Option Addr} {m k : Nat} {img : Grid} (hg : Img h a m img) {ab : Option Addr} {mb kb : Nat} {bm : Grid} (hb : Img h ab mb bm) {c : Cln} {F : FuncId} (hF : F = 12 ∨ F = 13) {Q : Value → AHeap → Prop}
    (hQ : ∀ a' m' c' al kl cl e h', Ext h h' → AnsC img bm c h' a' m' al kl e → Q (.tuple #[.slice a' m' c', .slice al kl cl, .int .i64 e]) h') : call F [.slice a m k, .slice ab mb kb, .agg c.cells.toArray] h Q :=
  clean_is2 hA hlow hg hb hF (fun a' m' c' al kl cl e h' x p _ => hQ a' m' c' al kl cl e h' x p)

theorem ext_fresh (X : AHeap) : Ext X (fresh X) := by rw [e_fresh hA]; exact .freshed _
theorem low_fresh (X : AHeap) : (fresh X).low ≤ (fresh X).next := by rw [e_fresh hA]; exact freshed_low _
theorem ext_low {h X h' : AHeap} (hl : h.low ≤ h.next) (y : Ext h X) (z : Ext (fresh X) h') : Ext h (lowered X h') := by
  rw [e_lowered hA]
  exact Ext.lower' ((y.trans (ext_fresh hA X)).trans z) y hl

theorem same_ansC {img bm : Grid} {c : Cln} {h : AHeap} (hlow : h.low ≤ h.next) {a a' : Option Addr} {m m' k k' : Nat} {al al' : Option Addr} {kl kl' : Nat} {e e' : Int} (p : AnsC img bm c h a m al kl e) (p' : AnsC img bm c h a' m' al' kl' e') {Q : Value → AHeap → Prop} (hQ : ∀ h', Ext h h' → Q (.bool true) h') : call 18 [.slice a m k, .slice a' m' k'] h Q := by
  obtain ⟨r, h1, h2, h3, h4, h5⟩ := p
  obtain ⟨r', h1', h2', h3', h4', h5'⟩ := p'
  obtain ⟨_, rfl⟩ := h1.uniq h1'
  have hl := h2.len
  have := h4.1
  refine same_ok hA hlow h2 h2' (by omega) (fun y q1 q2 => by have := h4.2 y q1 (by omega); omega) (fun b h' x hb => ?_)
  have : b = true := hb.2 rfl
  subst this
  exact hQ h' x
theorem samelog_ansC {img bm : Grid} {c : Cln} {h : AHeap} (hlow : h.low ≤ h.next) {a a' : Option Addr} {m m' k k' : Nat} {al al' : Option Addr} {kl kl' : Nat} {e e' : Int} (p : AnsC img bm c h a m al kl e) (p' : AnsC img bm c h a' m' al' kl' e') {Q : Value → AHeap → Prop} (hQ : ∀ h', Ext h h' → Q (.bool true) h') : call 19 [.slice al kl k, .slice al' kl' k'] h Q := by
  obtain ⟨r, h1, h2, h3, h4, h5⟩ := p
  obtain ⟨r', h1', h2', h3', h4', h5'⟩ := p'
  obtain ⟨_, rfl⟩ := h1.uniq h1'
  have hl := h3.len
  refine samelog_ok hA hlow (by omega) h3 h3' (fun b h' x hb => ?_)
  have : b = true := hb.2 rfl
  subst this
  exact hQ h' x

end Go.Proofs.Ytogofeppflindaa
