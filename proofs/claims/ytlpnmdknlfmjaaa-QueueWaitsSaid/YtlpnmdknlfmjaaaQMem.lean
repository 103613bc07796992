/-
  PROJECTS THAT ARE WRITTEN AND COPIED; queue.copied, fringeref42.Twin: what they return.
-/
import Derived.Test.YtlpnmdknlfmjaaaQRCheck
namespace Go.Proofs.Ytlpnmdknlfmjaaa
open Go.Sim
set_option linter.unusedVariables false
set_option maxRecDepth 100000

theorem flatP_cat (l m : List Proj) : flatP (l ++ m) = flatP l ++ flatP m := by unfold flatP; exact List.flatMap_append ..
theorem flatP_cons (p : Proj) (l : List Proj) : flatP (p :: l) = p.cells ++ flatP l := by unfold flatP; exact List.flatMap_cons ..
theorem flatP_ok (l : List Proj) : (flatP l).all cellOK = true := by
  induction l with
  | nil => rfl
  | cons p l ih => rw [flatP_cons, List.all_append, ih]; rfl

theorem flatP_put {l : List Proj} {i f : Nat} {vs : List Value} {p : Proj} (h : i < l.length) (hf : f + vs.length ≤ 4)
    (hp : p.cells = (l.getD i noProj).cells.take f ++ (vs ++ (l.getD i noProj).cells.drop (f + vs.length))) : (flatP l).take (i * 4 + f) ++ (vs ++ (flatP l).drop (i * 4 + f + vs.length)) = flatP (l.set i p) := by
  have e : flatP l = flatP (l.take i) ++ ((l.getD i noProj).cells ++ flatP (l.drop (i + 1))) := by
    rw [pj_at l h, ← flatP_cons, ← List.drop_eq_getElem_cons h, ← flatP_cat, List.take_append_drop]
  have hA : (flatP (l.take i)).length = i * 4 := by rw [flatP_len, List.length_take, Nat.min_eq_left (by omega)]
  have hB : (l.getD i noProj).cells.length = 4 := rfl
  rw [List.set_eq_take_append_cons_drop, if_pos h, flatP_cat, flatP_cons, hp, e]
  generalize flatP (l.take i) = A at *
  generalize (l.getD i noProj).cells = B at *
  generalize flatP (l.drop (i + 1)) = C at *
  rw [List.take_append, List.drop_append, List.take_append, List.drop_append, hA, hB, List.take_of_length_le (by omega), List.drop_of_length_le (by omega)]
  simp only [List.nil_append, List.append_assoc, Nat.add_sub_cancel_left, show i * 4 + f + vs.length - i * 4 = f + vs.length by omega]
  rw [show f - 4 = 0 by omega, show f + vs.length - 4 = 0 by omega, List.take_zero, List.drop_zero]
  simp

theorem _root_.Go.Sim.Own.setP {h : AHeap} {pb : Nat} {l : List Proj} (c : Own h pb 4 (flatP l)) {i f : Nat} {vs : List Value} {p : Proj} (hi : i < l.length) (hf : f + vs.length ≤ 4)
    (hp : p.cells = (l.getD i noProj).cells.take f ++ (vs ++ (l.getD i noProj).cells.drop (f + vs.length))) : ∃ h', h.write pb (i * 4 + f) vs = some h' ∧ Own h' pb 4 (flatP (l.set i p)) ∧ Wrote h h' pb := by
  obtain ⟨h', hw, ho, hwr⟩ := c.write (o := i * 4 + f) (vs := vs) (by rw [flatP_len]; omega)
  exact ⟨h', hw, by rw [flatP_put hi hf hp] at ho; exact ho, hwr⟩

theorem _root_.Go.Sim.Own.projs {h : AHeap} {pb : Nat} {l : List Proj} (c : Own h pb 4 (flatP l)) (hb : pb < h.next) {n : Nat} (hn : n = l.length) : Projs h (some ⟨pb, 0, none⟩) n l := by
  refine ⟨rfl, hb, ?_⟩
  rw [c.readG (by rw [flatP_len]; omega), List.drop_zero, List.take_of_length_le (by rw [flatP_len]; omega)]

theorem copy_own {P : Program} {t t2 e es : Nat} (hu : P.underlying t = some (.slice e)) (hz : sizeT P e = some es) {h : AHeap} {b n c c2 : Nat} {a2 : Option Addr} {cells news : List Value} (ho : Own h b es cells) (hl : cells.length = n * es) (hs : Cells h a2 n es news) (hok : news.all cellOK = true) :
    ∃ h', copyH P h [t, t2] [.slice (some ⟨b, 0, none⟩) n c, .slice a2 n c2] = some (.int .i64 n, h') ∧ Own h' b es news ∧ h'.next = h.next ∧ ∀ h0, Ext h0 h → h0.next ≤ b → Ext h0 h' := by
  have hlen := hs.length
  unfold copyH
  simp only [hu, hz]
  cases a2 with
  | none =>
    obtain ⟨rfl, rfl⟩ := hs
    have : cells = [] := List.length_eq_zero_iff.1 (by simpa using hl)
    subst this
    exact ⟨h, rfl, ho, rfl, fun h0 e _ => e⟩
  | some ad =>
    obtain ⟨h1, h2, h3⟩ := hs
    obtain ⟨h', hw, ho', hwr⟩ := ho.write (o := 0) (vs := news) (by omega)
    simp only [Nat.min_self, h3]
    refine ⟨h', ?_, ?_, ?_, fun h0 e hb => hwr.ext e hb⟩
    · simp only [AHeap.writeG, hok, cond_true, hw]
    · have e : cells.take 0 ++ (news ++ cells.drop (0 + news.length)) = news := by
        rw [List.take_zero, List.drop_of_length_le (by omega)]; simp
      rw [e] at ho'; exact ho'
    · exact hwr.next

theorem T22 : SliceT Try.prog 22 55 4 := ⟨by kernel_rfl, by kernel_rfl, ⟨40, by kernel_rfl, by omega⟩, ⟨.agg #[.string ⟨#[]⟩, .int .i64 0, .int .i64 0, .int .i64 0], by kernel_rfl, rfl⟩⟩

theorem copies_len (z : List Value) (n : Nat) : (copies z n).length = n * z.length := by
  induction n with
  | zero => simp [copies]
  | succ n ih => simp only [copies, List.length_append, ih, Nat.add_mul]; omega

theorem _root_.Go.Sim.Ext.bumpPut (h : AHeap) (n : Nat) {b : Nat} (hb : h.next ≤ b) (es : Nat) (cs : List Value) : Ext h ((h.bump n).putAt b es cs) :=
  ⟨by simp [AHeap.bump, AHeap.putAt], fun l => by simp only [AHeap.bump, AHeap.putAt]; omega, by simp only [AHeap.bump, AHeap.putAt]; exact Nat.min_le_left _ _, fun i hi => by
    simp only [AHeap.bump, AHeap.putAt]; rw [Tri.get_set_ne _ _ (by omega)]⟩

/-- The mark of what was written is put back. -/
theorem _root_.Go.Sim.Ext.lowered' {h h1 h2 : AHeap} (e : Ext h h2) (e1 : Ext h h1) (hl : h.low ≤ h.next) : Ext h (h2.lowered h1.low) := by
  have a := e.lowG
  have b := e1.lowG
  have c := e.low hl
  refine ⟨e.next, fun _ => ?_, ?_, e.get⟩
  · show Nat.min h1.low h2.low ≤ h2.next
    have : Nat.min h1.low h2.low ≤ h2.low := Nat.min_le_right _ _
    omega
  · show Nat.min h.low h.next ≤ Nat.min h1.low h2.low
    exact Nat.le_min.2 ⟨b, a⟩

variable {call : FuncId → List Value → AHeap → (Value → AHeap → Prop) → Prop}
  {head : FuncId → Nat → Nat → SS → (Exit → SS → Prop) → Prop}
  {arith : BinOp → IntKind → Int → Int → Int}
  {cmp : BinOp → Int → Int → Bool}
  {scmp : BinOp → ByteArray → ByteArray → Bool}
  {bnot : Bool → Bool}
  {bsame : Bool → Bool → Bool}
  {conv : IntKind → Int → Int}
  {neg : IntKind → Int → Int}
  {imax : Int → Int → Int}
  {imin : Int → Int → Int}
  {ofNat : Nat → Int}
  {slen : ByteArray → Int}
  {place : Nat → Int → Nat → Nat}
  {inR : Int → Nat → Prop}
  {nz : Int → Prop}
  {geZ : Int → Prop}
  {rd : AHeap → Nat → Nat → Nat → List Value → Prop}
  {wr : AHeap → Nat → Nat → List Value → AHeap → Prop}
  {push : AHeap → Nat → List Value → AHeap}
  {next : AHeap → Nat}
  {mkOK : Int → Int → Prop}
  {nat : Int → Nat}
  {zeros : List Value → Int → List Value}
  {sadd : ByteArray → ByteArray → (ByteArray → Prop) → Prop}
  {eqAgg : TypeId → Array Value → Array Value → (Bool → Prop) → Prop}
  {cut : Nat → Int → Prop}
  {slc : TypeId → Value → Option Value → Option Value → Option Value → (Option Addr → Nat → Nat → Prop) → Prop}
  {sslc : TypeId → ByteArray → Option Value → Option Value → (ByteArray → Prop) → Prop}
  {strAt : ByteArray → Int → (Int → Prop) → Prop}
  {part : TypeId → Array Value → Nat → Value → Prop}
  {app : List TypeId → List Value → AHeap → (Option Addr → Nat → Nat → AHeap → Prop) → Prop}
  {cpy : List TypeId → List Value → AHeap → (Int → AHeap → Prop) → Prop}
  {putAt : AHeap → Nat → Nat → List Value → AHeap}
  {fresh : AHeap → AHeap}
  {lowered : AHeap → AHeap → AHeap}
  {bump : AHeap → Nat → AHeap}
  {wrote : AHeap → AHeap → Bool}
  {addN : Nat → Nat → Nat}
  {lt : Nat → Nat → Prop}
  {ne : Nat → Nat → Prop}
  {fpAll : Bool → Bool → Bool → Nat → Nat → Prop}
  {brk : (Unit → Prop) → Prop}
  (hA : AOK progU hint prims ⟨call, head, arith, cmp, scmp, bnot, bsame, conv, neg, imax, imin, ofNat, slen, place, inR, nz, geZ, rd, wr, push, next, mkOK, nat, zeros, sadd, eqAgg, cut, slc, sslc, strAt, part, app, cpy, putAt, fresh, lowered, bump, wrote, addN, lt, ne, fpAll, brk⟩)
include hA

theorem copied_ok {h : AHeap} (hlow : h.low ≤ h.next) {a : Option Addr} {n c : Nat} (hn : n ≤ 1000000) {l : List Proj} (hs : Projs h a n l) (nu de : Int) {Q : Value → AHeap → Prop}
    (hQ : ∀ b h', Ext h h' → h.next ≤ b → b < h'.next → Own h' b 4 (flatP l) → Q (.agg #[.slice (some ⟨b, 0, none⟩) n n, .int .i64 nu, .int .i64 de]) h') : call 32 [.agg #[.slice a n c, .int .i64 nu, .int .i64 de]] h Q := by
  refine hA.bodyR Try.func32 r32_ok (show prims _ _ _ = none from rfl) hlow ?_; (try (conv => cbv)); repeat (refine brk_ok hA ?_; (try (conv => cbv)))
  refine ⟨mk_ok hA (by rw [e_ofNat hA]; omega) (by omega) (by rw [e_ofNat hA]; omega), ?_⟩
  ((try (conv => cbv)); repeat (refine brk_ok hA ?_; (try (conv => cbv))))
  rw [e_ofNat hA, e_nat hA, Int.toNat_natCast, e_next hA, e_push hA, e_zeros hA, Int.toNat_natCast]
  have e1 := Ext.push h 4 (copies [.string ⟨#[]⟩, .int .i64 0, .int .i64 0, .int .i64 0] n)
  have o1 := Own.push h 4 (copies [.string ⟨#[]⟩, .int .i64 0, .int .i64 0, .int .i64 0] n)
  have x1 : h.next < (h.push 4 (copies [.string ⟨#[]⟩, .int .i64 0, .int .i64 0, .int .i64 0] n)).next := Nat.lt_succ_self _
  generalize h.push 4 _ = h1 at *
  obtain ⟨nb, hnb⟩ : ∃ x, x = h.next := ⟨_, rfl⟩
  rw [← hnb] at o1 x1 ⊢
  obtain ⟨h2, hc2, ho2, hn2, he2⟩ := copy_own (P := Try.prog) (t := 22) (t2 := 22) (c := n) (c2 := c) T22.und T22.size o1 (by rw [copies_len]; rfl) (hs.cells.ext e1) (flatP_ok l)
  rw [e_cpy hA]
  refine ⟨_, _, hc2, ?_⟩
  ((try (conv => cbv)); repeat (refine brk_ok hA ?_; (try (conv => cbv))))
  exact hQ nb h2 (he2 h e1 (by omega)) (by omega) (by omega) ho2

theorem twin_ok {h : AHeap} (hlow : h.low ≤ h.next) {a : Option Addr} {n c : Nat} (hn : n ≤ 1000000) {l : List Proj} (hs : Projs h a n l) (nu de : Int) {Q : Value → AHeap → Prop}
    (hQ : ∀ b c' h', Ext h h' → h.next ≤ b → b < h'.next → Own h' b 4 (flatP l) → Q (.agg #[.slice (some ⟨b, 0, none⟩) n c', .int .i64 nu, .int .i64 de]) h') : call 17 [.agg #[.slice a n c, .int .i64 nu, .int .i64 de]] h Q := by
  refine hA.bodyR Try.func17 r17_ok (show prims _ _ _ = none from rfl) hlow ?_; (try (conv => cbv)); repeat (refine brk_ok hA ?_; (try (conv => cbv)))
  have e1 := Ext.bumpPut h 10 (b := h.next) (by omega) 4 []
  have o1 := Own.putAt (h.bump 10) h.next 4 []
  have x1 : h.next < ((h.bump 10).putAt h.next 4 []).next := by show h.next < h.next + 10; omega
  have l1 : ((h.bump 10).putAt h.next 4 []).low ≤ ((h.bump 10).putAt h.next 4 []).next := e1.lowOK hlow
  rw [e_next hA, e_addN hA, Nat.add_zero, e_bump hA, e_putAt hA, e_fresh hA]
  generalize (h.bump 10).putAt h.next 4 [] = h1 at *
  obtain ⟨nb, hnb⟩ : ∃ x, x = h.next := ⟨_, rfl⟩
  rw [← hnb] at o1 x1 ⊢
  obtain ⟨b', c', h2, ha, ho2, hb2, he2⟩ := append_new (P := Try.prog) (t := 22) (t2 := 22) (c2 := c) T22 T22.und (h := h1.freshed) (b := nb) o1 x1 (hs.cells.ext (e1.trans (.freshed _))) (flatP_ok l) (by omega)
  rw [e_app hA]
  refine ⟨_, _, _, _, ha, ?_⟩
  ((try (conv => cbv)); repeat (refine brk_ok hA ?_; (try (conv => cbv))))
  rw [e_lowered hA]
  obtain ⟨e2, hb0⟩ := he2 h (e1.trans (.freshed _)) (by omega)
  exact hQ b' c' _ (e2.lowered' e1 hlow) hb0 hb2 ho2

end Go.Proofs.Ytlpnmdknlfmjaaa
