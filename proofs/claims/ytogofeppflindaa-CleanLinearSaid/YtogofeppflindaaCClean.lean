/-
  Clean, of the program.
-/
import Derived.Test.YtogofeppflindaaCSteps
import Derived.Test.YtogofeppflindaaCCopy
namespace Go.Proofs.Ytogofeppflindaa
open Go.Sim
set_option linter.unusedVariables false
set_option maxRecDepth 100000

/-- What Clean answers. -/
def ClnIs (img bm : Grid) (c : Cln) (e : Int) (r : Option (Grid × List Comp)) : Prop :=
  (ChkIs img bm c e ∧ e ≠ 0 ∧ r = none) ∨ (ChkIs img bm c 0 ∧ Runs bm img.length c c.steps.toNat img none ∧ e = 16 ∧ r = none) ∨ (ChkIs img bm c 0 ∧ ∃ s, Runs bm img.length c c.steps.toNat img (some s) ∧ e = 0 ∧ r = some s)

theorem ClnIs.uniq {img bm : Grid} {c : Cln} {e e' : Int} {r r' : Option (Grid × List Comp)} (h : ClnIs img bm c e r) (h' : ClnIs img bm c e' r') : e = e' ∧ r = r' := by
  rcases h with ⟨a, b, rfl⟩ | ⟨a, b, rfl, rfl⟩ | ⟨a, s, b, rfl, rfl⟩ <;> rcases h' with ⟨a', b', rfl⟩ | ⟨a', b', rfl, rfl⟩ | ⟨a', s', b', rfl, rfl⟩
  · exact ⟨a.uniq a', rfl⟩
  · exact absurd (a.uniq a') b
  · exact absurd (a.uniq a') b
  · exact absurd (a'.uniq a) b'
  · exact ⟨rfl, rfl⟩
  · cases b.uniq b'
  · exact absurd (a'.uniq a) b'
  · cases b.uniq b'
  · cases b.uniq b'; exact ⟨rfl, rfl⟩

theorem flatC_ok (l : List Comp) : (flatC l).all cellOK = true := by
  rw [List.all_eq_true]
  intro v hv
  obtain ⟨c, _, hc⟩ := List.mem_flatMap.1 hv
  simp only [Comp.cells, List.mem_cons, List.not_mem_nil, or_false] at hc
  rcases hc with rfl | rfl | rfl <;> rfl

/-- How much a list that grew may hold. -/
theorem _root_.Go.Sim.Apd.cap {h : AHeap} {es : Nat} {a : Option Addr} {n c : Nat} {cells : List Value} (p : Apd h es a n c cells) : n < slack → n ≤ capLow c := by
  intro hn
  rcases p with ⟨_, rfl, rfl, _⟩ | ⟨b, _, rfl, _⟩
  · exact Nat.zero_le _
  · unfold capLow someCap
    rw [Nat.mul_add_mod, Nat.mod_eq_of_lt hn]
    exact Nat.le_refl _

/-- A component behind a log. -/
theorem log_add {h : AHeap} {al : Option Addr} {k cl : Nat} {l : List Comp} (hp : Apd h 3 al k cl (flatC l)) (p : Comp) (hn : l.length < 100000) :
    ∃ a' c' h', appendH Try.prog (h.push 3 p.cells) [27, 27] [.slice al k cl, .slice (some ⟨h.next, 0, none⟩) 1 1] = some (.slice a' (k + 1) c', h') ∧ Apd h' 3 a' (k + 1) c' (flatC (l ++ [p])) ∧ (∀ h0, Ext h0 h → From h0.next al → Ext h0 h') ∧ h.next < h'.next ∧ From (h.next + 1) a' ∧ ∀ i, i < h.next → (∀ ad, al = some ad → ad.block ≠ i) → h'.m.get i = h.m.get i := by
  have hk : k = l.length := by
    have := hp.cells.length
    rw [flatC_len] at this
    omega
  have e2 : Ext h (h.push 3 p.cells) := .push _ _ _
  have ho2 : Own (h.push 3 p.cells) h.next 3 p.cells := Own.push _ _ _
  have hnx : (h.push 3 p.cells).next = h.next + 1 := rfl
  have hs : Cells (h.push 3 p.cells) (some ⟨h.next, 0, none⟩) 1 3 p.cells := ⟨rfl, by rw [hnx]; simp, by rw [ho2.readG (by simp [Comp.cells])]; rfl⟩
  obtain ⟨a', c', h', q1, q2, q3, q4, q5, q6⟩ := append_keep T27 T27.und (hp.ext e2) hs (c2 := 1) (flatC_ok l) rfl (by omega) (by omega)
  have hfl : flatC (l ++ [p]) = flatC l ++ p.cells := by unfold flatC; simp
  refine ⟨a', c', h', q1, by rw [hfl]; exact q2, fun h0 e0 hf => (q3 h0 (e0.trans e2) hf).1, by rw [hnx] at q4; omega, fun ad had => by have := q5 ad had; rw [hnx] at this; exact this, fun i hi hne => ?_⟩
  rw [q6 i (by rw [hnx]; omega) hne, e2.get i hi]

theorem _root_.Go.Sim.Ext.putB {h h1 : AHeap} (k : Ext h h1) {b : Nat} (hb : h.next ≤ b) (x : Blk) : Ext h (h1.putB b x) := by
  refine ⟨k.next, fun l => ?_, ?_, fun i hi => ?_⟩
  · have := k.low l
    have h2 : Nat.min h1.low b ≤ h1.low := Nat.min_le_left _ _
    show Nat.min h1.low b ≤ h1.next
    omega
  · have := k.lowG
    show Nat.min h.low h.next ≤ Nat.min h1.low b
    have h2 : Nat.min h.low h.next ≤ h.next := Nat.min_le_right _ _
    exact Nat.le_min.2 ⟨this, by omega⟩
  · show (h1.m.set b _).get i = _
    rw [Tri.get_set_ne _ _ (by omega)]
    exact k.get i hi
theorem putB_ne {h : AHeap} {b i : Nat} (x : Blk) (hne : i ≠ b) : (h.putB b x).m.get i = h.m.get i := by
  show (h.m.set b _).get i = _
  rw [Tri.get_set_ne _ _ (by omega)]
theorem putB_eq {h : AHeap} {b : Nat} (x : Blk) : (h.putB b x).m.get b = some x := by
  show (h.m.set b _).get b = _
  rw [Tri.get_set_eq]

theorem _root_.Go.Sim.Own.set1 {h : AHeap} {b es : Nat} {v : Value} (o : Own h b es [v]) (w : Value) : ∃ h', h.write b 0 [w] = some h' ∧ Own h' b es [w] ∧ Wrote h h' b := by
  obtain ⟨h', h1, h2, h3⟩ := o.write (o := 0) (vs := [w]) (by simp)
  exact ⟨h', h1, h2, h3⟩
theorem _root_.Go.Sim.Own.get1 {h : AHeap} {b es : Nat} {v : Value} (o : Own h b es [v]) : h.readG ⟨b, 0, none⟩ 1 = some [v] := o.readG (by simp)

variable {call : FuncId → List Value → AHeap → (Value → AHeap → Prop) → Prop}
  {head : FuncId → Nat → Nat → SS → (Exit → SS → Prop) → Prop}
  {arith : BinOp → IntKind → Int → Int → Int}
  {cmp : BinOp → Int → Int → Bool}
  {scmp : BinOp → ByteArray → ByteArray → Bool}
  {bnot : Bool → Bool}
  {bsame : Bool → Bool → Bool}
  {conv : IntKind → Int → Int}
  {neg : IntKind → Int → Int}
  {imax : Int → Int → Int}
  {imin : Int → Int → Int}
  {ofNat : Nat → Int}
  {slen : ByteArray → Int}
  {place : Nat → Int → Nat → Nat}
  {inR : Int → Nat → Prop}
  {nz : Int → Prop}
  {geZ : Int → Prop}
  {rd : AHeap → Nat → Nat → Nat → List Value → Prop}
  {wr : AHeap → Nat → Nat → List Value → AHeap → Prop}
  {push : AHeap → Nat → List Value → AHeap}
  {next : AHeap → Nat}
  {mkOK : Int → Int → Prop}
  {nat : Int → Nat}
  {zeros : List Value → Int → List Value}
  {sadd : ByteArray → ByteArray → (ByteArray → Prop) → Prop}
  {eqAgg : TypeId → Array Value → Array Value → (Bool → Prop) → Prop}
  {cut : Nat → Int → Prop}
  {slc : TypeId → Value → Option Value → Option Value → Option Value → (Option Addr → Nat → Nat → Prop) → Prop}
  {sslc : TypeId → ByteArray → Option Value → Option Value → (ByteArray → Prop) → Prop}
  {strAt : ByteArray → Int → (Int → Prop) → Prop}
  {part : TypeId → Array Value → Nat → Value → Prop}
  {app : List TypeId → List Value → AHeap → (Option Addr → Nat → Nat → AHeap → Prop) → Prop}
  {cpy : List TypeId → List Value → AHeap → (Int → AHeap → Prop) → Prop}
  {putAt : AHeap → Nat → Nat → List Value → AHeap}
  {fresh : AHeap → AHeap}
  {lowered : AHeap → AHeap → AHeap}
  {bump : AHeap → Nat → AHeap}
  {wrote : AHeap → AHeap → Bool}
  {addN : Nat → Nat → Nat}
  {lt : Nat → Nat → Prop}
  {ne : Nat → Nat → Prop}
  {fpAll : Bool → Bool → Bool → Nat → Nat → Prop}
  {brk : (Unit → Prop) → Prop}
  {yn : Nat → Nat}
  {rng : FuncId → Nat → SS → (Exit → SS → Prop) → Prop}
  {mget : TypeId → Value → Value → AHeap → Value → Bool → Prop}
  {mput : TypeId → Value → Value → Value → AHeap → AHeap → Prop}
  {mnew : AHeap → AHeap}
  {bytes : TypeId → TypeId → Option Addr → Nat → AHeap → ByteArray → Prop}
  {clr : List TypeId → List Value → AHeap → AHeap → Prop}
  (hA : AOK progU hint prims ⟨call, head, arith, cmp, scmp, bnot, bsame, conv, neg, imax, imin, ofNat, slen, place, inR, nz, geZ, rd, wr, push, next, mkOK, nat, zeros, sadd, eqAgg, cut, slc, sslc, strAt, part, app, cpy, putAt, fresh, lowered, bump, wrote, addN, lt, ne, fpAll, brk, yn, rng, mget, mput, mnew, bytes, clr⟩)
include hA

theorem yld_true {P : Pl} {h0 : AHeap} (hlow0 : h0.low ≤ h0.next) (hlo : h0.next ≤ P.b6) {vL vB : Value} {c : Cln} {env' : Tri Value} {as1 bo1 : Code} (hat : RangeAt (progU ()) 12 6 as1 bo1)
    (henv : ∀ i v, lk [(6, Value.pointer (some ⟨P.b6, 0, none⟩)), (7, .pointer (some ⟨P.b7, 0, none⟩)), (8, .pointer (some ⟨P.b8, 0, none⟩))] i = some v → env'.get i = some v)
    {h : AHeap} {al : Option Addr} {k cl : Nat} {l : List Comp} {p : Comp} {Q : Value → AHeap → Prop} (hB : Base P h0 vL vB c (.loop .ready none 12 Try.f12.ntmps env' [24, 25] as1 bo1) al k cl l h) (hlow : h.low ≤ h.next) (hlen : l.length < 1000)
    (hQ : ∀ h' al' k' cl', Base P h0 vL vB c (.loop .ready none 12 Try.f12.ntmps env' [24, 25] as1 bo1) al' k' cl' (l ++ [p]) h' → h.next ≤ h'.next → (∀ b, P.lo ≤ b → b < P.hi → h'.m.get b = h.m.get b) → Q (.bool true) h') : call (yn P.y) [.agg p.cells.toArray, .bool true] h Q := by
  have a1 := P.h67; have a2 := P.h78; have a3 := P.h8l; have a4 := P.hlh; have a5 := P.hs1; have a6 := P.h12; have a7 := P.h23; have a8 := P.h3y
  have hlp := hB.lp
  have hnx := hB.nx
  obtain ⟨Y, hY⟩ : ∃ v, v = P.y := ⟨_, rfl⟩
  rw [← hY] at hlp hnx ⊢
  refine hA.yieldR Try.func12 r12_ok (key := 6) rfl hat hlp henv rfl hlow ?_
  ((try (conv => cbv)); repeat (refine brk_ok hA ?_; (try (conv => cbv))))
  simp only [e_next hA, e_push hA]
  have e1 := Ext.push h 3 [Value.int .i64 0, Value.int .i64 0, Value.int .i64 0]
  have o1 := Own.push h 3 [Value.int .i64 0, Value.int .i64 0, Value.int .i64 0]
  have n1 : (h.push 3 [Value.int .i64 0, Value.int .i64 0, Value.int .i64 0]).next = h.next + 1 := rfl
  generalize h.push 3 [Value.int .i64 0, Value.int .i64 0, Value.int .i64 0] = h1 at *
  obtain ⟨b9, hb9⟩ : ∃ v, v = h.next := ⟨_, rfl⟩
  rw [← hb9] at o1 n1 hnx ⊢
  obtain ⟨h2, w2, o2, k2⟩ := o1.write (o := 0) (vs := p.cells) (by simp [Comp.cells])
  have o2' : Own h2 b9 3 p.cells := o2
  refine ⟨h2, wr_at hA w2, ?_⟩
  ((try (conv => cbv)); repeat (refine brk_ok hA ?_; (try (conv => cbv))))
  have n2 := k2.next
  have hlp2 : h2.m.get Y = some (.loop .ready none 12 Try.f12.ntmps env' [24, 25] as1 bo1) := by rw [k2.get Y (by omega), e1.get Y (by omega)]; exact hlp
  refine ⟨none, 12, Try.f12.ntmps, env', [24, 25], as1, bo1, hlp2, ?_⟩
  obtain ⟨h3, hh3⟩ : ∃ v, v = h2.putB Y (.loop .busy none 12 Try.f12.ntmps env' [24, 25] as1 bo1) := ⟨_, rfl⟩
  have g3 : ∀ i, i ≠ Y → h3.m.get i = h2.m.get i := fun i hi => by rw [hh3]; exact putB_ne _ hi
  have g3y : h3.m.get Y = some (.loop .busy none 12 Try.f12.ntmps env' [24, 25] as1 bo1) := by rw [hh3]; exact putB_eq _
  have n3 : h3.next = h2.next := by rw [hh3]; rfl
  have x3 : Ext h0 h3 := by rw [hh3]; exact (k2.ext (hB.ext.trans e1) (by have := hB.ext.next; omega)).putB (by omega) _
  dsimp only
  rw [← hh3]
  ((try (conv => cbv)); repeat (refine brk_ok hA ?_; (try (conv => cbv))))
  have bt : bnot true = false := by rw [e_bnot hA]; rfl
  rw [bt]
  ((try (conv => cbv)); repeat (refine brk_ok hA ?_; (try (conv => cbv))))
  have p7 : Own h3 P.b7 1 [.slice al k cl] := hB.o7.of_get (by rw [g3 _ (by omega), k2.get _ (by omega), e1.get _ (by omega)])
  have p9 : Own h3 b9 3 p.cells := o2'.of_get (by rw [g3 _ (by omega)])
  have plog : Apd h3 3 al k cl (flatC l) := hB.log.of_get (by omega) (fun ad had hb => by have := hB.frm ad had; rw [g3 _ (by omega), k2.get _ (by omega), e1.get _ (by omega)])
  refine ⟨al, k, cl, rd_at hA (Own.get1 p7), ?_⟩
  ((try (conv => cbv)); repeat (refine brk_ok hA ?_; (try (conv => cbv))))
  have r9 : h3.readG ⟨b9, 0, none⟩ 3 = some p.cells := p9.readG (by simp [Comp.cells])
  refine ⟨p.x, p.y, p.f, rd_at hA r9, ?_⟩
  ((try (conv => cbv)); repeat (refine brk_ok hA ?_; (try (conv => cbv))))
  rw [e_next hA, e_push hA]
  obtain ⟨a4, c4, h4, q1, q2, q3, q4, q5, q6⟩ := log_add plog p (by omega)
  refine app_ok hA q1 ?_
  ((try (conv => cbv)); repeat (refine brk_ok hA ?_; (try (conv => cbv))))
  have hal : ∀ ad, al = some ad → Y < ad.block := fun ad had => by have := hB.frm ad had; omega
  have x4 : Ext h0 h4 := q3 h0 x3 (fun ad had => by have := hal ad had; have := hB.ext.next; omega)
  have p7' : Own h4 P.b7 1 [.slice al k cl] := p7.of_get (q6 _ (by omega) (fun ad had => by have := hal ad had; omega))
  obtain ⟨h5, w5, o5, k5⟩ := Own.set1 p7' (.slice a4 (k + 1) c4)
  refine ⟨h5, wr_at hA w5, ?_⟩
  ((try (conv => cbv)); repeat (refine brk_ok hA ?_; (try (conv => cbv))))
  have n5 := k5.next
  have g5y : h5.m.get Y = some (.loop .busy none 12 Try.f12.ntmps env' [24, 25] as1 bo1) := by
    rw [k5.get _ (by omega), q6 _ (by omega) (fun ad had => by have := hal ad had; omega)]; exact g3y
  have x5 : Ext h0 h5 := k5.ext x4 (by omega)
  have fr : ∀ i, i < h.next → i ≠ P.b7 → i ≠ Y → (∀ ad, al = some ad → ad.block ≠ i) → h5.m.get i = h.m.get i := fun i i1 i2 i3 i4 => by
    rw [k5.get _ i2, q6 _ (by omega) i4, g3 _ i3, k2.get _ (by omega), e1.get _ i1]
  refine ⟨none, .bool true, h5.putB Y (.loop .ready none 12 Try.f12.ntmps env' [24, 25] as1 bo1), rfl, by unfold roundEnd; rw [g5y]; rfl, ?_⟩
  have fr' : ∀ i, i < h.next → i ≠ P.b7 → i ≠ Y → (∀ ad, al = some ad → ad.block ≠ i) → (h5.putB Y (.loop .ready none 12 Try.f12.ntmps env' [24, 25] as1 bo1)).m.get i = h.m.get i := fun i i1 i2 i3 i4 => by
    rw [putB_ne _ i3]; exact fr i i1 i2 i3 i4
  refine hQ _ a4 (k + 1) c4 ?_ (by show h.next ≤ h5.next; omega) (fun b i1 i2 => fr' b (by omega) (by omega) (by omega) (fun ad had => by have := hal ad had; omega))
  refine { ext := x5.putB (by omega) _, o6 := hB.o6.of_get (fr' _ (by omega) (by omega) (by omega) (fun ad had => by have := hal ad had; omega)), o7 := o5.of_get (putB_ne _ (by omega)), o8 := hB.o8.of_get (fr' _ (by omega) (by omega) (by omega) (fun ad had => by have := hal ad had; omega)), s1 := hB.s1.of_get (fr' _ (by omega) (by omega) (by omega) (fun ad had => by have := hal ad had; omega)), s2 := hB.s2.of_get (fr' _ (by omega) (by omega) (by omega) (fun ad had => by have := hal ad had; omega)), s3 := hB.s3.of_get (fr' _ (by omega) (by omega) (by omega) (fun ad had => by have := hal ad had; omega)), lp := by rw [← hY]; exact putB_eq _, nx := by show P.y < h5.next; omega, log := ?_, frm := fun ad had => by have := q5 ad had; omega }
  exact q2.of_get (by show h4.next ≤ h5.next; omega) (fun ad had hb => by have := q5 ad had; rw [putB_ne _ (by omega), k5.get _ (by omega)])

theorem yld_false {P : Pl} {h0 : AHeap} (hlow0 : h0.low ≤ h0.next) (hlo : h0.next ≤ P.b6) {vL vB : Value} {c : Cln} {env' : Tri Value} {as1 bo1 : Code} (hat : RangeAt (progU ()) 12 6 as1 bo1)
    (henv : ∀ i v, lk [(6, Value.pointer (some ⟨P.b6, 0, none⟩)), (7, .pointer (some ⟨P.b7, 0, none⟩)), (8, .pointer (some ⟨P.b8, 0, none⟩))] i = some v → env'.get i = some v)
    {h : AHeap} {al : Option Addr} {k cl : Nat} {l : List Comp} {p : Comp} {Q : Value → AHeap → Prop} (hB : Base P h0 vL vB c (.loop .ready none 12 Try.f12.ntmps env' [24, 25] as1 bo1) al k cl l h) (hlow : h.low ≤ h.next)
    (hQ : ∀ h', Bad P h0 h' → Q (.bool false) h') : call (yn P.y) [.agg p.cells.toArray, .bool false] h Q := by
  have a1 := P.h67; have a2 := P.h78; have a3 := P.h8l; have a4 := P.hlh; have a5 := P.hs1; have a6 := P.h12; have a7 := P.h23; have a8 := P.h3y
  have hlp := hB.lp
  have hnx := hB.nx
  obtain ⟨Y, hY⟩ : ∃ v, v = P.y := ⟨_, rfl⟩
  rw [← hY] at hlp hnx ⊢
  refine hA.yieldR Try.func12 r12_ok (key := 6) rfl hat hlp henv rfl hlow ?_
  ((try (conv => cbv)); repeat (refine brk_ok hA ?_; (try (conv => cbv))))
  simp only [e_next hA, e_push hA]
  have e1 := Ext.push h 3 [Value.int .i64 0, Value.int .i64 0, Value.int .i64 0]
  have o1 := Own.push h 3 [Value.int .i64 0, Value.int .i64 0, Value.int .i64 0]
  have n1 : (h.push 3 [Value.int .i64 0, Value.int .i64 0, Value.int .i64 0]).next = h.next + 1 := rfl
  generalize h.push 3 [Value.int .i64 0, Value.int .i64 0, Value.int .i64 0] = h1 at *
  obtain ⟨b9, hb9⟩ : ∃ v, v = h.next := ⟨_, rfl⟩
  rw [← hb9] at o1 n1 hnx ⊢
  obtain ⟨h2, w2, o2, k2⟩ := o1.write (o := 0) (vs := p.cells) (by simp [Comp.cells])
  have o2' : Own h2 b9 3 p.cells := o2
  refine ⟨h2, wr_at hA w2, ?_⟩
  ((try (conv => cbv)); repeat (refine brk_ok hA ?_; (try (conv => cbv))))
  have n2 := k2.next
  have hlp2 : h2.m.get Y = some (.loop .ready none 12 Try.f12.ntmps env' [24, 25] as1 bo1) := by rw [k2.get Y (by omega), e1.get Y (by omega)]; exact hlp
  refine ⟨none, 12, Try.f12.ntmps, env', [24, 25], as1, bo1, hlp2, ?_⟩
  obtain ⟨h3, hh3⟩ : ∃ v, v = h2.putB Y (.loop .busy none 12 Try.f12.ntmps env' [24, 25] as1 bo1) := ⟨_, rfl⟩
  have g3 : ∀ i, i ≠ Y → h3.m.get i = h2.m.get i := fun i hi => by rw [hh3]; exact putB_ne _ hi
  have g3y : h3.m.get Y = some (.loop .busy none 12 Try.f12.ntmps env' [24, 25] as1 bo1) := by rw [hh3]; exact putB_eq _
  have n3 : h3.next = h2.next := by rw [hh3]; rfl
  have x3 : Ext h0 h3 := by rw [hh3]; exact (k2.ext (hB.ext.trans e1) (by have := hB.ext.next; omega)).putB (by omega) _
  dsimp only
  rw [← hh3]
  ((try (conv => cbv)); repeat (refine brk_ok hA ?_; (try (conv => cbv))))
  have bt : bnot false = true := by rw [e_bnot hA]; rfl
  rw [bt]
  ((try (conv => cbv)); repeat (refine brk_ok hA ?_; (try (conv => cbv))))
  have p6 : Own h3 P.b6 1 [vL] := hB.o6.of_get (by rw [g3 _ (by omega), k2.get _ (by omega), e1.get _ (by omega)])
  have p7 : Own h3 P.b7 1 [.slice al k cl] := hB.o7.of_get (by rw [g3 _ (by omega), k2.get _ (by omega), e1.get _ (by omega)])
  have p8 : Own h3 P.b8 1 [.int .i64 0] := hB.o8.of_get (by rw [g3 _ (by omega), k2.get _ (by omega), e1.get _ (by omega)])
  obtain ⟨h4, w4, o4, k4⟩ := Own.set1 p6 (.slice none 0 0)
  refine ⟨h4, wr_at hA w4, ?_⟩
  ((try (conv => cbv)); repeat (refine brk_ok hA ?_; (try (conv => cbv))))
  obtain ⟨h5, w5, o5, k5⟩ := Own.set1 (k4.own p7 (by omega)) (.slice none 0 0)
  refine ⟨h5, wr_at hA w5, ?_⟩
  ((try (conv => cbv)); repeat (refine brk_ok hA ?_; (try (conv => cbv))))
  obtain ⟨h6, w6, o6, k6⟩ := Own.set1 (k5.own (k4.own p8 (by omega)) (by omega)) (.int .i64 16)
  refine ⟨h6, wr_at hA w6, ?_⟩
  ((try (conv => cbv)); repeat (refine brk_ok hA ?_; (try (conv => cbv))))
  have n4 := k4.next
  have n5 := k5.next
  have n6 := k6.next
  have g6y : h6.m.get Y = some (.loop .busy none 12 Try.f12.ntmps env' [24, 25] as1 bo1) := by
    rw [k6.get _ (by omega), k5.get _ (by omega), k4.get _ (by omega)]; exact g3y
  have x6 : Ext h0 h6 := k6.ext (k5.ext (k4.ext x3 (by omega)) (by omega)) (by omega)
  refine ⟨some .ret, .bool false, h6.putB Y (.loop .done (some .ret) 12 Try.f12.ntmps env' [24, 25] as1 bo1), rfl, by unfold roundEnd; rw [g6y]; rfl, ?_⟩
  exact hQ _ { ext := x6.putB (by omega) _, o6 := (k6.own (k5.own o4 (by omega)) (by omega)).of_get (putB_ne _ (by omega)), o7 := (k6.own o5 (by omega)).of_get (putB_ne _ (by omega)), o8 := o6.of_get (putB_ne _ (by omega)), lp := ⟨⟨12, Try.f12.ntmps, env', [24, 25], as1, bo1, by rw [← hY]; exact putB_eq _⟩⟩, nx := by show P.y < h6.next; omega }

theorem cln_rng {P : Pl} {h0 : AHeap} (hlow0 : h0.low ≤ h0.next) (hlo : h0.next ≤ P.b6) {ab : Option Addr} {mb cb : Nat} {bm : Grid} (hb : Img h0 ab mb bm) {a : Option Addr} {m ca : Nat} {bs : List (Nat × Nat)} {n : Int} (hmn : (m : Int) = n) (n1 : 1 ≤ n) (n8 : n ≤ 8) (hbm : beamP bm n) {c : Cln} (hc : clnP c) {img : Grid}
    (hbs : (∀ p ∈ bs, p.1 < P.hi) ∧ ∀ ad, a = some ad → ad.block < P.hi ∧ P.lo ≤ ad.block)
    {env : List (Nat × Value)} (g23 : lk env 23 = some (.func (.func 46) #[] #[.pointer (some ⟨P.s1, 0, none⟩), .pointer (some ⟨P.s2, 0, none⟩), .pointer (some ⟨P.s3, 0, none⟩)]))
    (g6 : lk env 6 = some (.pointer (some ⟨P.b6, 0, none⟩))) (g7 : lk env 7 = some (.pointer (some ⟨P.b7, 0, none⟩))) (g8 : lk env 8 = some (.pointer (some ⟨P.b8, 0, none⟩)))
    {kn : Nat} {K : List (Nat × List Value)} {h : AHeap} (hy : P.y = h.next) (ext : Ext h0 h) (o6 : Own h P.b6 1 [.slice a m ca]) (o7 : Own h P.b7 1 [.slice none 0 0]) (o8 : Own h P.b8 1 [.int .i64 0]) (s1 : Own h P.s1 1 [.slice a m ca]) (s2 : Own h P.s2 1 [.slice ab mb cb]) (s3 : Own h P.s3 4 c.cells)
    (ho : OImg h P.lo a m bs img) (hs : squareP img n 1000000000) {Q : Exit → SS → Prop}
    (h1 : ∀ h' g al k cl l, Ext h0 h' → Own h' P.b6 1 [.slice a m ca] → Own h' P.b7 1 [.slice al k cl] → Own h' P.b8 1 [.int .i64 0] → OImg h' P.lo a m bs g → Log h' al k l → (k < slack → k ≤ capLow cl) → From (P.y + 1) al → Runs bm n c c.steps.toNat img (some (g, l)) → P.y < h'.next → Q .normal ⟨env, kn, K, h'⟩)
    (h2 : ∀ h', Ext h0 h' → Own h' P.b6 1 [.slice none 0 0] → Own h' P.b7 1 [.slice none 0 0] → Own h' P.b8 1 [.int .i64 16] → P.y < h'.next → Runs bm n c c.steps.toNat img none → Q .ret ⟨env, kn, K, h'⟩) : rng 12 6 ⟨env, kn, K, h⟩ Q := by
  have a1 := P.h67; have a2 := P.h78; have a3 := P.h8l; have a4 := P.hlh; have a5 := P.hs1; have a6 := P.h12; have a7 := P.h23; have a8 := P.h3y
  refine hA.rangeR Try.func12 r12_ok (key := 6) rfl (s := ⟨env, kn, K, h⟩) (g := 46) g23 (by kernel_rfl) (fun env' as1 bo1 hat henv => ?_)
  have henv' : ∀ i v, lk [(6, Value.pointer (some ⟨P.b6, 0, none⟩)), (7, .pointer (some ⟨P.b7, 0, none⟩)), (8, .pointer (some ⟨P.b8, 0, none⟩))] i = some v → env'.get i = some v := by
    intro i v hv
    rw [lk_cons] at hv
    split at hv
    · rename_i e; subst e; cases hv; exact henv _ _ g6 rfl
    rw [lk_cons] at hv
    split at hv
    · rename_i e; subst e; cases hv; exact henv _ _ g7 rfl
    rw [lk_cons] at hv
    split at hv
    · rename_i e; subst e; cases hv; exact henv _ _ g8 rfl
    · cases hv
  have hgb : ∀ b, b < h.next → (h.pushB (.loop .ready none 12 Try.f12.ntmps env' [24, 25] as1 bo1)).m.get b = h.m.get b := fun b hb => by
    simp only [AHeap.pushB]; rw [Tri.get_set_ne _ _ (by omega)]
  have hgy : (h.pushB (.loop .ready none 12 Try.f12.ntmps env' [24, 25] as1 bo1)).m.get P.y = some (.loop .ready none 12 Try.f12.ntmps env' [24, 25] as1 bo1) := by
    simp only [AHeap.pushB]; rw [hy, Tri.get_set_eq]
  have hgx : Ext h (h.pushB (.loop .ready none 12 Try.f12.ntmps env' [24, 25] as1 bo1)) :=
    ⟨Nat.le_succ _, fun l => by show h.low ≤ h.next + 1; omega, Nat.min_le_left _ _, hgb⟩
  have hB : Base P h0 (.slice a m ca) (.slice ab mb cb) c (.loop .ready none 12 Try.f12.ntmps env' [24, 25] as1 bo1) none 0 0 [] (h.pushB (.loop .ready none 12 Try.f12.ntmps env' [24, 25] as1 bo1)) :=
    { ext := ext.trans hgx, o6 := o6.ext hgx (by omega), o7 := o7.ext hgx (by omega), o8 := o8.ext hgx (by omega), s1 := s1.ext hgx (by omega), s2 := s2.ext hgx (by omega), s3 := s3.ext hgx (by omega), lp := hgy, nx := by show P.y < h.next + 1; omega, log := Apd.nil _ _, frm := From.none _ }
  show call 46 [.func (.yield h.next) #[] #[], .pointer (some ⟨P.s1, 0, none⟩), .pointer (some ⟨P.s2, 0, none⟩), .pointer (some ⟨P.s3, 0, none⟩)] (h.pushB (.loop .ready none 12 Try.f12.ntmps env' [24, 25] as1 bo1)) (fun _ h2 => rangeQ ⟨env, kn, K, h⟩ Q h2)
  rw [← hy]
  refine steps1_ok hA hlow0 hlo hb hmn n1 n8 hbm hc (img := img) hbs (fun h al k cl l p Q hB hl hlen hQ => yld_true hA hlow0 hlo hat henv' hB hl hlen hQ) (fun h al k cl l p Q hB hl hQ => yld_false hA hlow0 hlo hat henv' hB hl hQ) hB (ho.ext hgx) hs (fun h' g al k cl l hB' ho' hr => ?_) (fun h' hB' hr => ?_)
  · have pn : ∀ i, i ≠ P.y → (h'.putB h.next .dead).m.get i = h'.m.get i := fun i hi => putB_ne _ (by omega)
    refine ⟨.ready, none, .normal, ⟨⟨12, Try.f12.ntmps, env', [24, 25], as1, bo1, by show h'.m.get h.next = _; rw [← hy]; exact hB'.lp⟩⟩, .inl rfl, rfl, ?_⟩
    refine h1 (h'.putB h.next .dead) g al k cl l (hB'.ext.putB (by omega) _) (hB'.o6.of_get (pn _ (by omega))) (hB'.o7.of_get (pn _ (by omega))) (hB'.o8.of_get (pn _ (by omega))) (ho'.of_get (Nat.le_refl _) (fun ad had _ => pn _ (by have := (hbs.2 ad had).1; omega)) (fun x hx _ => pn _ (by have := hbs.1 x hx; omega))) ⟨?_⟩ hB'.log.cap hB'.frm hr hB'.nx
    exact (hB'.log.of_get (h' := h'.putB h.next .dead) (Nat.le_refl _) (fun ad had _ => pn _ (by have := hB'.frm ad had; omega))).cells
  · have pn : ∀ i, i ≠ P.y → (h'.putB h.next .dead).m.get i = h'.m.get i := fun i hi => putB_ne _ (by omega)
    obtain ⟨f1, nt1, env1, ps1, as2, bo2, hlp⟩ := hB'.lp.ex
    refine ⟨.done, some .ret, .ret, ⟨⟨f1, nt1, env1, ps1, as2, bo2, by show h'.m.get h.next = _; rw [← hy]; exact hlp⟩⟩, .inr rfl, rfl, ?_⟩
    exact h2 (h'.putB h.next .dead) (hB'.ext.putB (by omega) _) (hB'.o6.of_get (pn _ (by omega))) (hB'.o7.of_get (pn _ (by omega))) (hB'.o8.of_get (pn _ (by omega))) hB'.nx hr

theorem cln_ok {h : AHeap} (hlow : h.low ≤ h.next) {a : Option Addr} {m k : Nat} {img : Grid} (hg : Img h a m img) {ab : Option Addr} {mb kb : Nat} {bm : Grid} (hb : Img h ab mb bm) {c : Cln} {Q : Value → AHeap → Prop}
    (hbad : ∀ e h', Ext h h' → ClnIs img bm c e none → Q (.tuple #[.slice none 0 0, .slice none 0 0, .int .i64 e]) h')
    (hok : ∀ g l a' c' bs al kl cl h', Ext h h' → OImg h' h.next a' m bs g → Log h' al kl l → (kl < slack → kl ≤ capLow cl) → ClnIs img bm c 0 (some (g, l)) → Q (.tuple #[.slice a' m c', .slice al kl cl, .int .i64 0]) h') : call 12 [.slice a m k, .slice ab mb kb, .agg c.cells.toArray] h Q := by
  have hgl := hg.len
  obtain ⟨num, den, floor, steps⟩ := c
  refine hA.bodyR Try.func12 r12_ok (show prims _ _ _ = none from rfl) hlow ?_; (try (conv => cbv)); repeat (refine brk_ok hA ?_; (try (conv => cbv)))
  simp only [e_next hA, e_push hA]
  obtain ⟨b5, hb5⟩ : ∃ v, v = h.next := ⟨_, rfl⟩
  have e1 := Ext.push h 4 [Value.int .i64 num, Value.int .i64 den, Value.int .i64 floor, Value.int .i64 steps]
  have o1 := Own.push h 4 [Value.int .i64 num, Value.int .i64 den, Value.int .i64 floor, Value.int .i64 steps]
  have n1 : (h.push 4 [Value.int .i64 num, Value.int .i64 den, Value.int .i64 floor, Value.int .i64 steps]).next = h.next + 1 := rfl
  generalize h.push 4 [Value.int .i64 num, Value.int .i64 den, Value.int .i64 floor, Value.int .i64 steps] = h1 at *
  rw [← hb5] at o1 n1 ⊢
  obtain ⟨b6, hb6⟩ : ∃ v, v = h1.next := ⟨_, rfl⟩
  have e2 := Ext.push h1 1 [Value.slice none 0 0]
  have o2 := Own.push h1 1 [Value.slice none 0 0]
  have n2 : (h1.push 1 [Value.slice none 0 0]).next = h1.next + 1 := rfl
  generalize h1.push 1 [Value.slice none 0 0] = h2 at *
  rw [← hb6] at o2 n2 ⊢
  obtain ⟨b7, hb7⟩ : ∃ v, v = h2.next := ⟨_, rfl⟩
  have e3 := Ext.push h2 1 [Value.slice none 0 0]
  have o3 := Own.push h2 1 [Value.slice none 0 0]
  have n3 : (h2.push 1 [Value.slice none 0 0]).next = h2.next + 1 := rfl
  generalize h2.push 1 [Value.slice none 0 0] = h3 at *
  rw [← hb7] at o3 n3 ⊢
  obtain ⟨b8, hb8⟩ : ∃ v, v = h3.next := ⟨_, rfl⟩
  have e4 := Ext.push h3 1 [Value.int .i64 0]
  have o4 := Own.push h3 1 [Value.int .i64 0]
  have n4 : (h3.push 1 [Value.int .i64 0]).next = h3.next + 1 := rfl
  generalize h3.push 1 [Value.int .i64 0] = h4 at *
  rw [← hb8] at o4 n4 ⊢
  have x4 : Ext h h4 := ((e1.trans e2).trans e3).trans e4
  have o5 : Own h4 b5 4 [Value.int .i64 num, Value.int .i64 den, Value.int .i64 floor, Value.int .i64 steps] := o1.ext ((e2.trans e3).trans e4) (by omega)
  have o6 : Own h4 b6 1 [Value.slice none 0 0] := o2.ext (e3.trans e4) (by omega)
  have o7 : Own h4 b7 1 [Value.slice none 0 0] := o3.ext e4 (by omega)
  have r5 : h4.readG ⟨b5, 0, none⟩ 4 = some [Value.int .i64 num, Value.int .i64 den, Value.int .i64 floor, Value.int .i64 steps] := o5.readG (by simp)
  refine ⟨num, den, floor, steps, rd_at hA r5, ?_⟩
  ((try (conv => cbv)); repeat (refine brk_ok hA ?_; (try (conv => cbv))))
  refine chk_ok hA (x4.lowOK hlow) (hg.ext x4) (hb.ext x4) (c := ⟨num, den, floor, steps⟩) (fun e he => ⟨_, rfl, ?_⟩)
  ((try (conv => cbv)); repeat (refine brk_ok hA ?_; (try (conv => cbv))))
  obtain ⟨h5, w5, o8, k5⟩ := Own.set1 o4 (.int .i64 e)
  refine ⟨h5, wr_at hA w5, ?_⟩
  ((try (conv => cbv)); repeat (refine brk_ok hA ?_; (try (conv => cbv))))
  refine ⟨e, rd_at hA (Own.get1 o8), ?_⟩
  ((try (conv => cbv)); repeat (refine brk_ok hA ?_; (try (conv => cbv))))
  have x5 : Ext h h5 := k5.ext x4 (by omega)
  have p5 := k5.own o5 (by omega)
  have p6 := k5.own o6 (by omega)
  have p7 := k5.own o7 (by omega)
  have n5 := k5.next
  clear o1 o2 o3 o4 o5 o6 o7 r5
  refine br (e ≠ 0) (by rw [e_neq hA]) (fun c1 => ?_) (fun c1 => ?_) <;> (try (conv => cbv)) <;> repeat (refine brk_ok hA ?_; (try (conv => cbv)))
  · obtain ⟨h6, hh6⟩ : ∃ v, v = bump h5 4 := ⟨_, rfl⟩
    obtain ⟨nh, hnh⟩ : ∃ v, v = next h5 := ⟨_, rfl⟩
    have e6 : Ext h5 h6 := by rw [hh6, e_bump hA]; exact .bump _ _
    rw [← hh6, ← hnh]
    refine ⟨e, rd_at hA (Own.get1 (o8.ext e6 (by omega))), ?_⟩
    ((try (conv => cbv)); repeat (refine brk_ok hA ?_; (try (conv => cbv))))
    obtain ⟨h7, w7, q6, k7⟩ := Own.set1 (p6.ext e6 (by omega)) (.slice none 0 0)
    refine ⟨h7, wr_at hA w7, ?_⟩
    ((try (conv => cbv)); repeat (refine brk_ok hA ?_; (try (conv => cbv))))
    have m6 := e6.next
    have m7 := k7.next
    obtain ⟨h8, w8, q7, k8⟩ := Own.set1 (k7.own (p7.ext e6 (by omega)) (by omega)) (.slice none 0 0)
    refine ⟨h8, wr_at hA w8, ?_⟩
    ((try (conv => cbv)); repeat (refine brk_ok hA ?_; (try (conv => cbv))))
    obtain ⟨h9, w9, q8, k9⟩ := Own.set1 (k8.own (k7.own (o8.ext e6 (by omega)) (by omega)) (by omega)) (.int .i64 e)
    refine ⟨h9, wr_at hA w9, ?_⟩
    ((try (conv => cbv)); repeat (refine brk_ok hA ?_; (try (conv => cbv))))
    refine ⟨by rw [e_ne hA]; omega, by rw [e_ne hA]; omega, ?_⟩
    ((try (conv => cbv)); repeat (refine brk_ok hA ?_; (try (conv => cbv))))
    have q6' := k9.own (k8.own q6 (by omega)) (by omega)
    have q7' := k9.own q7 (by omega)
    refine ⟨_, _, _, rd_at hA (Own.get1 q6'), ?_⟩
    ((try (conv => cbv)); repeat (refine brk_ok hA ?_; (try (conv => cbv))))
    refine ⟨_, _, _, rd_at hA (Own.get1 q7'), ?_⟩
    ((try (conv => cbv)); repeat (refine brk_ok hA ?_; (try (conv => cbv))))
    refine ⟨_, rd_at hA (Own.get1 q8), ?_⟩
    ((try (conv => cbv)); repeat (refine brk_ok hA ?_; (try (conv => cbv))))
    exact hbad e h9 (k9.ext (k8.ext (k7.ext (x5.trans e6) (by omega)) (by omega)) (by omega)) (.inl ⟨he, c1, rfl⟩)
  · have he0 : e = 0 := by omega
    subst he0
    obtain ⟨hi, hbm, hcl⟩ := he.ok
    have hi1 := hi.1
    have hi2 := hi.2.1
    have hsq := hi.2.2
    refine copied_ok2 hA (x5.lowOK hlow) (hg.ext x5) (by rw [hgl] at hsq; exact squareP_shp hsq) (by omega) (by omega) (fun a' c' bs h6 fr6 e6 ho => ⟨_, _, _, rfl, ?_⟩)
    ((try (conv => cbv)); repeat (refine brk_ok hA ?_; (try (conv => cbv))))
    have m6 := e6.next
    obtain ⟨h7, w7, q6, k7⟩ := Own.set1 (p6.ext e6 (by omega)) (.slice a' m c')
    refine ⟨h7, wr_at hA w7, ?_⟩
    ((try (conv => cbv)); repeat (refine brk_ok hA ?_; (try (conv => cbv))))
    refine ⟨_, _, _, rd_at hA (Own.get1 q6), ?_⟩
    ((try (conv => cbv)); repeat (refine brk_ok hA ?_; (try (conv => cbv))))
    have m7 := k7.next
    have p5' := k7.own (p5.ext e6 (by omega)) (by omega)
    have r5 : h7.readG ⟨b5, 0, none⟩ 4 = some [Value.int .i64 num, Value.int .i64 den, Value.int .i64 floor, Value.int .i64 steps] := p5'.readG (by simp)
    refine ⟨num, den, floor, steps, rd_at hA r5, ?_⟩
    ((try (conv => cbv)); repeat (refine brk_ok hA ?_; (try (conv => cbv))))
    have x7 : Ext h h7 := k7.ext (x5.trans e6) (by omega)
    refine steps_ok hA (x7.lowOK hlow) (vL := undef) (vB := undef) (c := ⟨num, den, floor, steps⟩) (fun s1 s2 s3 h8 e8 l1 l2 l3 l4 os1 os2 os3 => ⟨_, rfl, ?_⟩)
    ((try (conv => cbv)); repeat (refine brk_ok hA ?_; (try (conv => cbv))))
    have m8 := e8.next
    have rows6 : ∀ p ∈ bs, h5.next ≤ p.1 ∧ p.1 < h6.next := fun p hp => by
      refine ⟨ho.lo_mem p hp, ?_⟩
      obtain ⟨i, hi⟩ := List.getElem?_of_mem hp
      have hil : i < bs.length := (List.getElem?_eq_some_iff.1 hi).1
      have hbl := ho.len
      exact (ho.rows i p _ hi (getD_some img i [] (by omega))).2.1
    have out6 : ∀ ad, a' = some ad → ad.block < h6.next ∧ h5.next ≤ ad.block := fun ad had => by
      refine ⟨?_, fr6 ad had⟩
      have := ho.outer
      rw [had] at this
      exact this.2.1
    have ho8 : OImg h8 h5.next a' m bs img := (ho.of_get (h' := h7) (by omega) (fun ad had _ => k7.get _ (by have := (out6 ad had).2; omega)) (fun x hx _ => k7.get _ (by have := (rows6 x hx).1; omega))).ext e8
    refine cln_rng hA (P := ⟨b6, b7, b8, h5.next, h6.next, s1, s2, s3, h8.next, by omega, by omega, by omega, by omega, by omega, by omega, by omega, by omega⟩) hlow (by simp only []; omega) hb (n := (img.length : Int)) (by omega) (by omega) (by omega) hbm (c := ⟨num, den, floor, steps⟩) hcl (img := img) ⟨fun p hp => (rows6 p hp).2, out6⟩ rfl rfl rfl rfl rfl (x7.trans e8) (q6.ext e8 (by omega)) ((k7.own (p7.ext e6 (by omega)) (by omega)).ext e8 (by omega)) ((k7.own (o8.ext e6 (by omega)) (by omega)).ext e8 (by omega)) os1 os2 os3 ho8 (square_more hsq (by omega)) (fun h9 g al kl cl l x9 u6 u7 u8 ho9 hl9 cap9 fr9 hr n9 => ?_) (fun h9 x9 u6 u7 u8 n9 hr => ?_)
    · simp only [] at u6 u7 u8 ho9 n9 hr fr9
      ((try (conv => cbv)); repeat (refine brk_ok hA ?_; (try (conv => cbv))))
      obtain ⟨h10, hh10⟩ : ∃ v, v = bump h9 5 := ⟨_, rfl⟩
      obtain ⟨nh, hnh⟩ : ∃ v, v = next h9 := ⟨_, rfl⟩
      have e10 : Ext h9 h10 := by rw [hh10, e_bump hA]; exact .bump _ _
      have m10 := e10.next
      rw [← hh10, ← hnh]
      refine ⟨_, _, _, rd_at hA (Own.get1 (u6.ext e10 (by omega))), ?_⟩
      ((try (conv => cbv)); repeat (refine brk_ok hA ?_; (try (conv => cbv))))
      refine ⟨_, _, _, rd_at hA (Own.get1 (u7.ext e10 (by omega))), ?_⟩
      ((try (conv => cbv)); repeat (refine brk_ok hA ?_; (try (conv => cbv))))
      obtain ⟨h11, w11, v6, k11⟩ := Own.set1 (u6.ext e10 (by omega)) (.slice a' m c')
      refine ⟨h11, wr_at hA w11, ?_⟩
      ((try (conv => cbv)); repeat (refine brk_ok hA ?_; (try (conv => cbv))))
      obtain ⟨h12, w12, v7, k12⟩ := Own.set1 (k11.own (u7.ext e10 (by omega)) (by omega)) (.slice al kl cl)
      refine ⟨h12, wr_at hA w12, ?_⟩
      ((try (conv => cbv)); repeat (refine brk_ok hA ?_; (try (conv => cbv))))
      obtain ⟨h13, w13, v8, k13⟩ := Own.set1 (k12.own (k11.own (u8.ext e10 (by omega)) (by omega)) (by omega)) (.int .i64 0)
      refine ⟨h13, wr_at hA w13, ?_⟩
      ((try (conv => cbv)); repeat (refine brk_ok hA ?_; (try (conv => cbv))))
      refine ⟨by rw [e_ne hA]; omega, ?_⟩
      ((try (conv => cbv)); repeat (refine brk_ok hA ?_; (try (conv => cbv))))
      have v6' : Own h13 b6 1 [.slice a' m c'] := k13.own (k12.own v6 (by show b6 ≠ b7; omega)) (by show b6 ≠ b8; omega)
      have v7' : Own h13 b7 1 [.slice al kl cl] := k13.own v7 (by show b7 ≠ b8; omega)
      refine ⟨_, _, _, rd_at hA (Own.get1 v6'), ?_⟩
      ((try (conv => cbv)); repeat (refine brk_ok hA ?_; (try (conv => cbv))))
      refine ⟨_, _, _, rd_at hA (Own.get1 v7'), ?_⟩
      ((try (conv => cbv)); repeat (refine brk_ok hA ?_; (try (conv => cbv))))
      refine ⟨_, rd_at hA (Own.get1 v8), ?_⟩
      ((try (conv => cbv)); repeat (refine brk_ok hA ?_; (try (conv => cbv))))
      have m11 := k11.next
      have m12 := k12.next
      have m13 := k13.next
      have fr13 : ∀ i, i < h9.next → i ≠ b6 → i ≠ b7 → i ≠ b8 → h13.m.get i = h9.m.get i := fun i i1 i2 i3 i4 => by
        rw [k13.get _ i4, k12.get _ i3, k11.get _ i2, e10.get _ i1]
      refine hok g l a' c' bs al kl cl h13 (k13.ext (k12.ext (k11.ext (x9.trans e10) (by omega)) (by omega)) (by omega)) ((ho9.of_get (h' := h13) (by omega) (fun ad had hb => fr13 _ hb (by have := (out6 ad had).2; omega) (by have := (out6 ad had).2; omega) (by have := (out6 ad had).2; omega)) (fun x hx hb => fr13 _ hb (by have := (rows6 x hx).1; omega) (by have := (rows6 x hx).1; omega) (by have := (rows6 x hx).1; omega))).lower (by omega)) ⟨?_⟩ cap9 (.inr (.inr ⟨he, (g, l), hr, rfl, rfl⟩))
      exact Cells.of_get hl9.cells (by omega) (fun ad had hb => fr13 _ hb (by have := fr9 ad had; omega) (by have := fr9 ad had; omega) (by have := fr9 ad had; omega))
    · simp only [] at u6 u7 u8 n9 hr
      ((try (conv => cbv)); repeat (refine brk_ok hA ?_; (try (conv => cbv))))
      refine ⟨_, _, _, rd_at hA (Own.get1 u6), ?_⟩
      ((try (conv => cbv)); repeat (refine brk_ok hA ?_; (try (conv => cbv))))
      refine ⟨_, _, _, rd_at hA (Own.get1 u7), ?_⟩
      ((try (conv => cbv)); repeat (refine brk_ok hA ?_; (try (conv => cbv))))
      refine ⟨_, rd_at hA (Own.get1 u8), ?_⟩
      ((try (conv => cbv)); repeat (refine brk_ok hA ?_; (try (conv => cbv))))
      exact hbad 16 h9 x9 (.inr (.inl ⟨he, hr, rfl, rfl⟩))

end Go.Proofs.Ytogofeppflindaa
