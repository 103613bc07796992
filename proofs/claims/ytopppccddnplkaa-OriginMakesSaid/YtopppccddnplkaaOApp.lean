/-
  LISTS THAT GROW; BYTES IN NEW MEMORY (origin.join).
-/
import Derived.Test.YtopppccddnplkaaORec
import Derived.KernelRfl
namespace Go.Proofs.Ytopppccddnplkaa
open Go.Sim
set_option linter.unusedVariables false
set_option maxRecDepth 100000

theorem T23 : SliceT Try.prog 23 5 1 := ⟨by kernel_rfl, by kernel_rfl, ⟨1, by kernel_rfl, by omega⟩, ⟨.int .u8 0, by kernel_rfl, rfl⟩⟩
theorem T35 : SliceT Try.prog 35 9 1 := ⟨by kernel_rfl, by kernel_rfl, ⟨16, by kernel_rfl, by omega⟩, ⟨.string ⟨#[]⟩, by kernel_rfl, rfl⟩⟩
theorem T67 : SliceT Try.prog 67 23 1 := ⟨by kernel_rfl, by kernel_rfl, ⟨24, by kernel_rfl, by omega⟩, ⟨.slice none 0 0, by kernel_rfl, rfl⟩⟩

theorem toNat_succ {i : Int} (h0 : 0 ≤ i) : (i + 1).toNat = i.toNat + 1 := by omega

theorem _root_.Go.Sim.Apd.cap {h : AHeap} {es : Nat} {a : Option Addr} {n c : Nat} {cells : List Value} (p : Apd h es a n c cells) : n < slack → n ≤ capLow c := by
  intro hn
  rcases p with ⟨_, rfl, rfl, _⟩ | ⟨b, _, rfl, _⟩
  · exact Nat.zero_le _
  · unfold capLow someCap
    rw [Nat.mul_add_mod, Nat.mod_eq_of_lt hn]
    exact Nat.le_refl _

/-- Some cells behind others, none as well. -/
theorem append_row {t e : Nat} (hT : SliceT Try.prog t e 1) {h : AHeap} {a : Option Addr} {n c : Nat} {cells : List Value} (hp : Apd h 1 a n c cells) {a2 : Option Addr} {n2 c2 : Nat} {news : List Value} (hr : RowV h a2 n2 c2 news) (ok1 : cells.all cellOK = true) (ok2 : news.all cellOK = true) (hbig : n + n2 ≤ 1000000) :
    ∃ a' c' h', appendH Try.prog h [t, t] [.slice a n c, .slice a2 n2 c2] = some (.slice a' (n + n2) c', h') ∧ Apd h' 1 a' (n + n2) c' (cells ++ news) ∧ (∀ h0, Ext h0 h → From h0.next a → Ext h0 h' ∧ From h0.next a') ∧ h.next ≤ h'.next ∧ ∀ i, i < h.next → (∀ ad, a = some ad → ad.block ≠ i) → h'.m.get i = h.m.get i := by
  have hl2 := hr.len
  by_cases hz : 0 < n2
  · rcases hr with ⟨hr, _⟩ | ⟨_, q, _⟩
    · obtain ⟨a', c', h', q1, q2, q3, q4, q5, q6⟩ := append_keep hT hT.und hp hr (c2 := c2) ok1 ok2 hz hbig
      exact ⟨a', c', h', q1, q2, q3, q4, q6⟩
    · omega
  · obtain rfl : n2 = 0 := by omega
    obtain rfl : news = [] := List.eq_nil_of_length_eq_zero hl2
    obtain ⟨by_, hby, hby2⟩ := hT.bytes
    obtain ⟨z, hz, hz2⟩ := hT.zero
    have hnews : newsA Try.prog h e 1 false (.slice a2 0 c2) = some (0, []) := by
      unfold newsA
      simp only [cond_false]
      rcases hr with ⟨hr, _⟩ | ⟨rfl, _, _, _⟩
      · cases a2 with
        | none => rfl
        | some ad =>
          obtain ⟨_, _, h3⟩ := hr
          simp only [h3]
      · rfl
    have hcap := hp.cap (by unfold slack; omega)
    unfold appendH
    simp only [hT.und, hT.size, hby, hz, isIntDesc, hnews]
    rw [ble_true (show n + 0 ≤ capLow c by omega)]
    simp only [cond_true, List.append_nil, Nat.add_zero]
    rcases hp with ⟨rfl, rfl, rfl, rfl⟩ | ⟨b, rfl, rfl, hb, hl, ho⟩
    · exact ⟨none, 0, h, rfl, .nil _ _, fun h0 e0 f0 => ⟨e0, f0⟩, Nat.le_refl _, fun _ _ _ => rfl⟩
    · obtain ⟨h', hw, ho', hw2⟩ := ho.write (o := n * 1) (vs := []) (by simp; omega)
      have hwg : h.writeG (aadd ⟨b, 0, none⟩ (n * 1)) [] = some h' := by
        unfold AHeap.writeG aadd
        simp only [List.all_nil, cond_true, Nat.zero_add]
        exact hw
      simp only [hwg]
      refine ⟨some ⟨b, 0, none⟩, someCap 1 n, h', rfl, .inr ⟨b, rfl, rfl, by rw [hw2.next]; exact hb, hl, by simpa using ho'⟩, fun h0 e0 f0 => ⟨hw2.ext e0 (f0 _ rfl), f0⟩, by rw [hw2.next]; exact Nat.le_refl _, fun i hi hne => hw2.get i (fun q => hne _ rfl q.symm)⟩

theorem bytes_ok (l : Bytes) : (l.map (Value.int .u8)).all cellOK = true := ints_ok _ _
theorem strs_ok (l : List Str) : (l.map Value.string).all cellOK = true := by
  rw [List.all_eq_true]
  intro v hv
  obtain ⟨s, _, rfl⟩ := List.mem_map.1 hv
  rfl

/-- Bytes in new memory. -/
structure BOut (h : AHeap) (lo : Nat) (a : Option Addr) (n c : Nat) (l : Bytes) : Prop where
  apd : Apd h 1 a n c (l.map (.int .u8))
  frm : From lo a
  lt : n < slack
theorem BOut.ext {h h' : AHeap} {lo : Nat} {a : Option Addr} {n c : Nat} {l : Bytes} (p : BOut h lo a n c l) (e : Ext h h') : BOut h' lo a n c l := ⟨p.apd.ext e, p.frm, p.lt⟩
theorem BOut.byts {h : AHeap} {lo : Nat} {a : Option Addr} {n c : Nat} {l : Bytes} (p : BOut h lo a n c l) : Byts h a n c l := by
  refine .inl ⟨p.apd.cells, fun q => ?_, p.apd.cap p.lt⟩
  rcases p.apd with ⟨_, _, q, _⟩ | ⟨b, q', _⟩
  · exact q
  · rw [q'] at q; cases q
theorem BOut.nil (h : AHeap) (lo : Nat) : BOut h lo none 0 0 [] := ⟨.nil _ _, .none _, by unfold slack; omega⟩
theorem BOut.len {h : AHeap} {lo : Nat} {a : Option Addr} {n c : Nat} {l : Bytes} (p : BOut h lo a n c l) : l.length = n := p.byts.len
theorem BOut.lower {h : AHeap} {lo lo' : Nat} {a : Option Addr} {n c : Nat} {l : Bytes} (p : BOut h lo a n c l) (hl : lo' ≤ lo) : BOut h lo' a n c l := ⟨p.apd, fun ad had => by have := p.frm ad had; omega, p.lt⟩

/-- Bytes behind bytes. -/
theorem BOut.add {h h0 : AHeap} {lo : Nat} {a : Option Addr} {n c : Nat} {l : Bytes} (p : BOut h lo a n c l) {a2 : Option Addr} {n2 c2 : Nat} {m : Bytes} (hm : Byts h a2 n2 c2 m) (hbig : n + n2 ≤ 1000000) (e0 : Ext h0 h) (hlo : h0.next = lo) :
    ∃ a' c' h', appendH Try.prog h [23, 23] [.slice a n c, .slice a2 n2 c2] = some (.slice a' (n + n2) c', h') ∧ BOut h' lo a' (n + n2) c' (l ++ m) ∧ Ext h0 h' := by
  subst hlo
  obtain ⟨a', c', h', q1, q2, q3, q4, q5⟩ := append_row T23 p.apd hm (bytes_ok l) (bytes_ok m) hbig
  obtain ⟨w1, w2⟩ := q3 h0 e0 p.frm
  exact ⟨a', c', h', q1, ⟨by rw [List.map_append]; exact q2, w2, by unfold slack; omega⟩, w1⟩

/-! ### Lists of lists of bytes -/

structure Hd where
  a : Option Addr
  n : Nat
  c : Nat
def Hd.val (x : Hd) : Value := .slice x.a x.n x.c
def bat (ls : List Bytes) (i : Int) : Bytes := ls.getD i.toNat []

structure Lists (h : AHeap) (a : Option Addr) (n : Nat) (ls : List Bytes) : Prop where
  ex : ∃ hs : List Hd, Cells h a n 1 (hs.map Hd.val) ∧ hs.length = ls.length ∧ ∀ (i : Nat) (x : Hd) (l : Bytes), hs[i]? = some x → ls[i]? = some l → Byts h x.a x.n x.c l
theorem Lists.len {h : AHeap} {a : Option Addr} {n : Nat} {ls : List Bytes} (p : Lists h a n ls) : ls.length = n := by
  obtain ⟨hs, h1, h2, _⟩ := p.ex
  have := h1.length
  rw [List.length_map] at this
  omega
theorem Lists.ext {h h' : AHeap} {a : Option Addr} {n : Nat} {ls : List Bytes} (p : Lists h a n ls) (e : Ext h h') : Lists h' a n ls := by
  obtain ⟨hs, h1, h2, h3⟩ := p.ex
  exact ⟨hs, h1.ext e, h2, fun i x l hx hl => (h3 i x l hx hl).ext e⟩
theorem Lists.at {h : AHeap} {a : Option Addr} {n : Nat} {ls : List Bytes} (p : Lists h a n ls) {i : Int} (h0 : 0 ≤ i) (hi : i < n) :
    ∃ b o ra rn rc, a = some ⟨b, o, none⟩ ∧ b < h.next ∧ h.readG ⟨b, o + i.toNat * 1, none⟩ 1 = some [.slice ra rn rc] ∧ Byts h ra rn rc (bat ls i) := by
  have hl := p.len
  obtain ⟨hs, h1, h2, h3⟩ := p.ex
  obtain ⟨b, o, h4, h5, h6⟩ := h1.at (i := i.toNat) (m := 1) (by omega) (by omega)
  have hx := getD_some hs i.toNat ⟨none, 0, 0⟩ (by omega)
  have hr := getD_some ls i.toNat [] (by omega)
  refine ⟨b, o, _, _, _, h4, h5, ?_, h3 _ _ _ hx hr⟩
  rw [Nat.mul_one, h6]
  rw [take_one (hs.map Hd.val) i.toNat ((hs.getD i.toNat ⟨none, 0, 0⟩).val) (by rw [List.getElem?_map, hx]; rfl)]
  rfl
/-- One list alone. -/
theorem Lists.one {h h1 : AHeap} {a : Option Addr} {n c : Nat} {l : Bytes} (hb : Byts h a n c l) (hh : h1 = h.push 1 [.slice a n c]) : Lists h1 (some ⟨h.next, 0, none⟩) 1 [l] := by
  have e : Ext h h1 := by rw [hh]; exact .push _ _ _
  have o : Own h1 h.next 1 [.slice a n c] := by rw [hh]; exact Own.push _ _ _
  refine ⟨[⟨a, n, c⟩], ⟨rfl, by rw [hh]; simp [AHeap.push], by rw [o.readG (by simp)]; rfl⟩, rfl, fun i x l' hx hl' => ?_⟩
  cases i with
  | zero => cases hx; cases hl'; exact hb.ext e
  | succ i => cases hx

theorem flat_take (ls : List Bytes) {i : Int} (h0 : 0 ≤ i) (h1 : i < ls.length) : (ls.take (i + 1).toNat).flatten = (ls.take i.toNat).flatten ++ bat ls i := by
  rw [toNat_succ h0, List.take_add_one, getD_some ls i.toNat [] (by omega)]
  simp [bat]
theorem flat_le (ls : List Bytes) (i : Nat) : ((ls.take i).flatten).length ≤ (ls.flatten).length := by
  have : ls.flatten = (ls.take i).flatten ++ (ls.drop i).flatten := by rw [← List.flatten_append, List.take_append_drop]
  rw [this]; simp

variable {call : FuncId → List Value → AHeap → (Value → AHeap → Prop) → Prop}
  {head : FuncId → Nat → Nat → SS → (Exit → SS → Prop) → Prop}
  {arith : BinOp → IntKind → Int → Int → Int}
  {cmp : BinOp → Int → Int → Bool}
  {scmp : BinOp → ByteArray → ByteArray → Bool}
  {bnot : Bool → Bool}
  {bsame : Bool → Bool → Bool}
  {conv : IntKind → Int → Int}
  {neg : IntKind → Int → Int}
  {imax : Int → Int → Int}
  {imin : Int → Int → Int}
  {ofNat : Nat → Int}
  {slen : ByteArray → Int}
  {place : Nat → Int → Nat → Nat}
  {inR : Int → Nat → Prop}
  {nz : Int → Prop}
  {geZ : Int → Prop}
  {rd : AHeap → Nat → Nat → Nat → List Value → Prop}
  {wr : AHeap → Nat → Nat → List Value → AHeap → Prop}
  {push : AHeap → Nat → List Value → AHeap}
  {next : AHeap → Nat}
  {mkOK : Int → Int → Prop}
  {nat : Int → Nat}
  {zeros : List Value → Int → List Value}
  {sadd : ByteArray → ByteArray → (ByteArray → Prop) → Prop}
  {eqAgg : TypeId → Array Value → Array Value → (Bool → Prop) → Prop}
  {cut : Nat → Int → Prop}
  {slc : TypeId → Value → Option Value → Option Value → Option Value → (Option Addr → Nat → Nat → Prop) → Prop}
  {sslc : TypeId → ByteArray → Option Value → Option Value → (ByteArray → Prop) → Prop}
  {strAt : ByteArray → Int → (Int → Prop) → Prop}
  {part : TypeId → Array Value → Nat → Value → Prop}
  {app : List TypeId → List Value → AHeap → (Option Addr → Nat → Nat → AHeap → Prop) → Prop}
  {cpy : List TypeId → List Value → AHeap → (Int → AHeap → Prop) → Prop}
  {putAt : AHeap → Nat → Nat → List Value → AHeap}
  {fresh : AHeap → AHeap}
  {lowered : AHeap → AHeap → AHeap}
  {bump : AHeap → Nat → AHeap}
  {wrote : AHeap → AHeap → Bool}
  {addN : Nat → Nat → Nat}
  {lt : Nat → Nat → Prop}
  {ne : Nat → Nat → Prop}
  {fpAll : Bool → Bool → Bool → Nat → Nat → Prop}
  {brk : (Unit → Prop) → Prop}
  {yn : Nat → Nat}
  {rng : FuncId → Nat → SS → (Exit → SS → Prop) → Prop}
  {mget : TypeId → Value → Value → AHeap → Value → Bool → Prop}
  {mput : TypeId → Value → Value → Value → AHeap → AHeap → Prop}
  {mnew : AHeap → AHeap}
  {bytes : TypeId → TypeId → Option Addr → Nat → AHeap → ByteArray → Prop}
  {clr : List TypeId → List Value → AHeap → AHeap → Prop}
  (hA : AOK progU hint prims ⟨call, head, arith, cmp, scmp, bnot, bsame, conv, neg, imax, imin, ofNat, slen, place, inR, nz, geZ, rd, wr, push, next, mkOK, nat, zeros, sadd, eqAgg, cut, slc, sslc, strAt, part, app, cpy, putAt, fresh, lowered, bump, wrote, addN, lt, ne, fpAll, brk, yn, rng, mget, mput, mnew, bytes, clr⟩)
include hA

theorem app_ok {ts : List TypeId} {l : List Value} {h : AHeap} {C : Option Addr → Nat → Nat → AHeap → Prop} {a : Option Addr} {n c : Nat} {h' : AHeap} (h1 : appendH Try.prog h ts l = some (.slice a n c, h')) (h2 : C a n c h') : app ts l h C := by
  rw [e_app hA]; exact ⟨a, n, c, h', h1, h2⟩

theorem join_loop {h0 : AHeap} {al : Option Addr} {nl cl : Nat} {ls : List Bytes} (hl : Lists h0 al nl ls) (hn : (nl : Int) ≤ 1000) (hsum : ls.flatten.length ≤ 100000) {Q : Exit → SS → Prop}
    (h1 : ∀ a n c h', Ext h0 h' → BOut h' h0.next a n c ls.flatten → Q (.exit 0) ⟨[(3, .slice a n c)], 0, [], h'⟩) :
    ∀ i : Int, 0 ≤ i → i ≤ nl → ∀ h a n c, Ext h0 h → BOut h h0.next a n c ((ls.take i.toNat).flatten) → head 48 3 0 ⟨[(3, .slice a n c), (6, .slice al nl cl), (7, .int .i64 (ofNat nl)), (8, .int .i64 i)], 0, [], h⟩ Q := by
  have hll := hl.len
  refine countUp (fun i hi0 hin ih h a n c e hb => ?_)
  refine hA.roundR Try.func48 r48_ok ?_; (try (conv => cbv)); repeat (refine brk_ok hA ?_; (try (conv => cbv)))
  refine br (i < nl) (by rw [e_lss hA, e_ofNat hA]) (fun c1 => ?_) (fun c1 => ?_) <;> (try (conv => cbv)) <;> repeat (refine brk_ok hA ?_; (try (conv => cbv)))
  · obtain ⟨b, o, ra, rn, rc, hae, hbn, hrd, hrow⟩ := (hl.ext e).at hi0 c1
    refine ⟨b, o, hae, in_ok hA hi0 c1, ?_⟩
    ((try (conv => cbv)); repeat (refine brk_ok hA ?_; (try (conv => cbv))))
    refine ⟨ra, rn, rc, rd_ok hA hrd, ?_⟩
    ((try (conv => cbv)); repeat (refine brk_ok hA ?_; (try (conv => cbv))))
    have hft := flat_take ls hi0 (by omega)
    have hln := hb.len
    have hrn := hrow.len
    have hle := flat_le ls (i + 1).toNat
    rw [hft, List.length_append] at hle
    obtain ⟨a', c', h', q1, q2, q3⟩ := hb.add hrow (by omega) e rfl
    obtain ⟨n', hn'⟩ : ∃ v, v = n + rn := ⟨_, rfl⟩
    rw [← hn'] at q1 q2
    refine app_ok hA q1 ?_
    ((try (conv => cbv)); repeat (refine brk_ok hA ?_; (try (conv => cbv))))
    rw [add64 hA (by omega) (by omega)]
    rw [← hft] at q2
    exact ih c1 h' a' n' c' q3 q2
  · rw [List.take_of_length_le (by omega)] at hb
    exact h1 a n c h e hb

theorem join_ok {h : AHeap} (hlow : h.low ≤ h.next) {al : Option Addr} {nl cl : Nat} {ls : List Bytes} (hl : Lists h al nl ls) (hn : (nl : Int) ≤ 1000) (hsum : ls.flatten.length ≤ 100000) {Q : Value → AHeap → Prop}
    (hQ : ∀ a n c h', Ext h h' → BOut h' h.next a n c ls.flatten → Q (.slice a n c) h') : call 48 [.slice al nl cl] h Q := by
  refine hA.bodyR Try.func48 r48_ok (show prims _ _ _ = none from rfl) hlow ?_; (try (conv => cbv)); repeat (refine brk_ok hA ?_; (try (conv => cbv)))
  refine join_loop hA hl hn hsum (fun a n c h' e hb => ?_) 0 (by omega) (by omega) h none 0 0 (.refl _) (by simpa using BOut.nil h h.next)
  ((try (conv => cbv)); repeat (refine brk_ok hA ?_; (try (conv => cbv))))
  exact hQ a n c h' e hb

end Go.Proofs.Ytopppccddnplkaa
