/-
  OriginNoted: the walk.
-/
import Derived.Test.YtopppccddnplkaaONotedP
import Derived.Test.YtopppccddnplkaaOSame
import Derived.Test.YtopppccddnplkaaSeatL9
namespace Go.Proofs.Ytopppccddnplkaa
open Go.Sim
open Classical
set_option linter.unusedVariables false
set_option maxRecDepth 100000

theorem strs_wrote {h h' : AHeap} {b : Nat} (k : Wrote h h' b) {a : Option Addr} {n c : Nat} {l : List Str} (hb : ∀ ad, a = some ad → ad.block ≠ b) (p : Strs h a n c l) : Strs h' a n c l := by
  rcases p with ⟨p, q⟩ | p
  · exact .inl ⟨k.cells p hb, q⟩
  · exact .inr p

variable {call : FuncId → List Value → AHeap → (Value → AHeap → Prop) → Prop}
  {head : FuncId → Nat → Nat → SS → (Exit → SS → Prop) → Prop}
  {arith : BinOp → IntKind → Int → Int → Int}
  {cmp : BinOp → Int → Int → Bool}
  {scmp : BinOp → ByteArray → ByteArray → Bool}
  {bnot : Bool → Bool}
  {bsame : Bool → Bool → Bool}
  {conv : IntKind → Int → Int}
  {neg : IntKind → Int → Int}
  {imax : Int → Int → Int}
  {imin : Int → Int → Int}
  {ofNat : Nat → Int}
  {slen : ByteArray → Int}
  {place : Nat → Int → Nat → Nat}
  {inR : Int → Nat → Prop}
  {nz : Int → Prop}
  {geZ : Int → Prop}
  {rd : AHeap → Nat → Nat → Nat → List Value → Prop}
  {wr : AHeap → Nat → Nat → List Value → AHeap → Prop}
  {push : AHeap → Nat → List Value → AHeap}
  {next : AHeap → Nat}
  {mkOK : Int → Int → Prop}
  {nat : Int → Nat}
  {zeros : List Value → Int → List Value}
  {sadd : ByteArray → ByteArray → (ByteArray → Prop) → Prop}
  {eqAgg : TypeId → Array Value → Array Value → (Bool → Prop) → Prop}
  {cut : Nat → Int → Prop}
  {slc : TypeId → Value → Option Value → Option Value → Option Value → (Option Addr → Nat → Nat → Prop) → Prop}
  {sslc : TypeId → ByteArray → Option Value → Option Value → (ByteArray → Prop) → Prop}
  {strAt : ByteArray → Int → (Int → Prop) → Prop}
  {part : TypeId → Array Value → Nat → Value → Prop}
  {app : List TypeId → List Value → AHeap → (Option Addr → Nat → Nat → AHeap → Prop) → Prop}
  {cpy : List TypeId → List Value → AHeap → (Int → AHeap → Prop) → Prop}
  {putAt : AHeap → Nat → Nat → List Value → AHeap}
  {fresh : AHeap → AHeap}
  {lowered : AHeap → AHeap → AHeap}
  {bump : AHeap → Nat → AHeap}
  {wrote : AHeap → AHeap → Bool}
  {addN : Nat → Nat → Nat}
  {lt : Nat → Nat → Prop}
  {ne : Nat → Nat → Prop}
  {fpAll : Bool → Bool → Bool → Nat → Nat → Prop}
  {brk : (Unit → Prop) → Prop}
  {yn : Nat → Nat}
  {rng : FuncId → Nat → SS → (Exit → SS → Prop) → Prop}
  {mget : TypeId → Value → Value → AHeap → Value → Bool → Prop}
  {mput : TypeId → Value → Value → Value → AHeap → AHeap → Prop}
  {mnew : AHeap → AHeap}
  {bytes : TypeId → TypeId → Option Addr → Nat → AHeap → ByteArray → Prop}
  {clr : List TypeId → List Value → AHeap → AHeap → Prop}
  (hA : AOK progU hint prims ⟨call, head, arith, cmp, scmp, bnot, bsame, conv, neg, imax, imin, ofNat, slen, place, inR, nz, geZ, rd, wr, push, next, mkOK, nat, zeros, sadd, eqAgg, cut, slc, sslc, strAt, part, app, cpy, putAt, fresh, lowered, bump, wrote, addN, lt, ne, fpAll, brk, yn, rng, mget, mput, mnew, bytes, clr⟩)
include hA

theorem noted_loop {hz : AHeap} (hlowz : hz.low ≤ hz.next) {al : Option Addr} {nl cl : Nat} {l : List Rec} (hl : Recs hz al nl l) (hnl : (nl : Int) ≤ 40) (hok : okL l) {ps : List Bytes} (hP : AllP l ps) {b cn : Nat} (hb : hz.next ≤ b) (hcn : nl ≤ capLow cn) {wa : Option Addr} {wn wc : Nat} (hwn : (outN l (offP l ps) l.length).length = wn) (hwb : ∀ ad, wa = some ad → ad.block ≠ b) {Q : Exit → SS → Prop}
    (h1 : ∀ h', Ext hz h' → NOwn h' hz.next b nl l → Q (.exit 0) ⟨[(0, .slice al nl cl), (3, .bool true), (4, .slice (some ⟨b, 0, none⟩) nl cn), (8, .slice wa wn wc), (10, .int .i64 wn)], 0, [], h'⟩) :
    ∀ i : Int, 0 ≤ i → i ≤ nl → ∀ h, Ext hz h → NOwn h hz.next b nl (undone l ps i.toNat) → Strs h wa wn wc (outN l (offP l ps) l.length) → ∀ k : Int, k = (outN l (offP l ps) i.toNat).length → head 9 11 0 ⟨[(0, .slice al nl cl), (3, .bool true), (4, .slice (some ⟨b, 0, none⟩) nl cn), (8, .slice wa wn wc), (10, .int .i64 k), (11, .int .i64 i)], 0, [], h⟩ Q := by
  have hll := hl.len
  have hwl := hwn
  have hol := outN_len l (offP l ps) l.length
  refine countUp (fun i hi0 hin ih h e ho hw k hk => ?_)
  refine hA.roundR Try.func9 r9_ok ?_; (try (conv => cbv)); repeat (refine brk_ok hA ?_; (try (conv => cbv)))
  refine br (i < nl) (by rw [e_lss hA, e_ofNat hA]) (fun c1 => ?_) (fun c1 => ?_) <;> (try (conv => cbv)) <;> repeat (refine brk_ok hA ?_; (try (conv => cbv)))
  · obtain ⟨b', o, x, hae, hbn, rel, _, r0, _⟩ := (hl.ext e).at hi0 c1
    have hN := rel.name
    obtain ⟨xnm, xhow, xfa, xfn, xfc, xarg, xda, xdn, xdc, xdg⟩ := x
    simp only [] at hN r0
    refine ⟨b', o, hae, in_ok hA hi0 c1, ?_⟩
    ((try (conv => cbv)); repeat (refine brk_ok hA ?_; (try (conv => cbv))))
    refine ⟨xnm, rd_fld hA r0, ?_⟩
    ((try (conv => cbv)); repeat (refine brk_ok hA ?_; (try (conv => cbv))))
    have hD := Digd.back hP (i := i.toNat) (by omega)
    have hAll := (hD.allP hP).allIs
    have hself := (hD.allP hP).prov.self i hi0 (by rw [hD.len]; omega)
    have hrat := undone_rat hP.lens (i := i.toNat) (by omega) (j := i) hi0 (by omega)
    rw [if_neg (by omega), notes_rat hP.lens hi0 (by omega)] at hrat
    have hnm : (rat (undone l ps i.toNat) i).name = xnm := by rw [hrat, hN]
    rw [hnm] at hself
    have hle := hP.le i hi0 (by omega)
    have hbk := hP.allIs.oks hok i
    refine make_ok hA (e.lowOK hlowz) (ho.recs hcn).recs (fun _ => hD.okL hok) (fun a1 n1 k1 e1 r1 h2 x2 bm1 mk1 => ⟨_, _, _, _, rfl, ?_⟩)
    obtain ⟨rfl, rfl⟩ := make_at hAll hself hi0 mk1
    have e2 := e.trans x2
    have ho2 := ho.ext x2
    have hbl := bm1.len
    ((try (conv => cbv)); repeat (refine brk_ok hA ?_; (try (conv => cbv))))
    obtain ⟨h9, hh9⟩ : ∃ z, z = bump h2 17 := ⟨_, rfl⟩
    obtain ⟨nh, hnh⟩ : ∃ z, z = next h2 := ⟨_, rfl⟩
    have e9 : Ext h2 h9 := by rw [hh9, e_bump hA]; exact .bump _ _
    rw [← hh9, ← hnh]
    have e29 := e2.trans e9
    have ho9 := ho2.ext e9
    refine br (False) (by rw [e_neq hA]; rfl) (fun q => q.elim) (fun _ => ?_) <;> (try (conv => cbv)) <;> repeat (refine brk_ok hA ?_; (try (conv => cbv)))
    obtain ⟨b2, o2, y, hae2, hbn2, rel2, _, _, _, _, _, _, s5⟩ := ((ho9.recs hcn).recs).at hi0 c1
    have hD2 := rel2.dig
    obtain ⟨ynm, yhow, yfa, yfn, yfc, yarg, yda, ydn, ydc, ydg⟩ := y
    simp only [] at hD2 s5
    rw [hrat] at hD2
    simp only [] at hD2
    cases hae2
    refine ⟨b, 0, rfl, in_ok hA hi0 c1, ?_⟩
    ((try (conv => cbv)); repeat (refine brk_ok hA ?_; (try (conv => cbv))))
    refine ⟨ydg, rd_fld hA s5, ?_⟩
    ((try (conv => cbv)); repeat (refine brk_ok hA ?_; (try (conv => cbv))))
    have fX := ext_fresh hA h9
    refine dig_ok hA (low_fresh hA h9) (((bm1.byts.ext e9).ext fX)) hbk.1 (by omega) (fun d hd => ⟨_, rfl, ?_⟩)
    ((try (conv => cbv)); repeat (refine brk_ok hA ?_; (try (conv => cbv))))
    have hsame : lowered h9 (fresh h9) = h9 := by rw [e_lowered hA, e_fresh hA]; exact lowered_freshed (e29.lowOK hlowz)
    rw [hsame]
    refine br (d ≠ ydg) (by rw [e_neq hA]) (fun q => absurd (by rw [hd, hD2]) q) (fun _ => ?_) <;> (try (conv => cbv)) <;> repeat (refine brk_ok hA ?_; (try (conv => cbv)))
    ((try (conv => cbv)); repeat (refine brk_ok hA ?_; (try (conv => cbv))))
    have hb2 : b < h2.next := by obtain ⟨_, _, q, _⟩ := ho2; exact q
    refine ⟨by rw [e_fpAll hA, e_wrote hA, e_fresh hA, e_addN hA, e_next hA]; exact ⟨rfl, wrote_freshed _, .inr (by omega)⟩, ?_⟩
    ((try (conv => cbv)); repeat (refine brk_ok hA ?_; (try (conv => cbv))))
    refine br (1000 < (n1 : Int)) (by rw [e_gtr hA, e_ofNat hA]) (fun q => absurd q (by omega)) (fun _ => ?_) <;> (try (conv => cbv)) <;> repeat (refine brk_ok hA ?_; (try (conv => cbv)))
    obtain ⟨h10, hh10⟩ : ∃ z, z = bump h9 11 := ⟨_, rfl⟩
    have e10 : Ext h9 h10 := by rw [hh10, e_bump hA]; exact .bump _ _
    rw [← hh10]
    have e210 := e29.trans e10
    have ho10 := ho9.ext e10
    refine ⟨b, 0, rfl, in_ok hA hi0 c1, ?_⟩
    ((try (conv => cbv)); repeat (refine brk_ok hA ?_; (try (conv => cbv))))
    refine ⟨ydg, rd_fld hA (e10.rd hbn2 s5), ?_⟩
    ((try (conv => cbv)); repeat (refine brk_ok hA ?_; (try (conv => cbv))))
    obtain ⟨b3, o3, x3, hae3, hbn3, rel3, _, t0, _, _, _, _, t5⟩ := (hl.ext e210).at hi0 c1
    have hN3 := rel3.name
    have hD3 := rel3.dig
    obtain ⟨znm, zhow, zfa, zfn, zfc, zarg, zda, zdn, zdc, zdg⟩ := x3
    simp only [] at hN3 hD3 t0 t5
    refine ⟨b3, o3, hae3, in_ok hA hi0 c1, ?_⟩
    ((try (conv => cbv)); repeat (refine brk_ok hA ?_; (try (conv => cbv))))
    refine ⟨zdg, rd_fld hA t5, ?_⟩
    ((try (conv => cbv)); repeat (refine brk_ok hA ?_; (try (conv => cbv))))
    have fin : ∀ (hY : AHeap) (kk : Int), Ext h10 hY → kk = (outN l (offP l ps) (i + 1).toNat).length → ∃ h', hY.write b (0 + i.toNat * 6 + 5) [.int .i64 zdg] = some h' ∧ (head 9 11 0 ⟨[(0, .slice al nl cl), (3, .bool true), (4, .slice (some ⟨b, 0, none⟩) nl cn), (8, .slice wa wn wc), (10, .int .i64 kk), (11, .int .i64 (i + 1))], 0, [], h'⟩ Q) := by
      intro hY kk eY hkk
      have hst := undone_set hP.lens (i := i.toNat) (by omega)
      rw [Int.toNat_of_nonneg hi0] at hst
      obtain ⟨h', w1, w2, w3⟩ := (ho10.ext eY).put (i := i.toNat) (k := 5) (vs := [.int .i64 zdg]) (by omega) (by simp) (r' := rat l i) (fun x hx => ⟨{ x with dig := zdg }, rfl, by
        have hg : (undone l ps i.toNat).getD i.toNat noRec = { rat l i with dig := dig (bat ps i) } := by rw [← hrat]; rfl
        rw [hg] at hx
        exact { hx with dig := hD3 }⟩)
      refine ⟨h', by rw [Nat.zero_add]; exact w1, ?_⟩
      refine ih c1 h' (w2.ext (e210.trans eY) hb) ?_ ?_ kk hkk
      rotate_left
      · exact strs_wrote w2 hwb ((((hw.ext x2).ext e9).ext e10).ext eY)
      rw [toNat_succ hi0, ← hst]
      exact w3
    refine br (ydg ≠ zdg) (by rw [e_neq hA]) (fun c5 => ?_) (fun c5 => ?_) <;> (try (conv => cbv)) <;> repeat (refine brk_ok hA ?_; (try (conv => cbv)))
    · have hoff : offP l ps i := by unfold offP; rw [← hD3, ← hD2]; exact fun q => c5 q.symm
      obtain ⟨q1, q2⟩ := outN_at (l := l) hi0 (n := l.length) (by omega) hoff
      obtain ⟨h11, hh11⟩ : ∃ z, z = bump h10 16 := ⟨_, rfl⟩
      have e11 : Ext h10 h11 := by rw [hh11, e_bump hA]; exact .bump _ _
      rw [← hh11]
      refine br ((wn : Int) ≤ k) (by rw [e_geq hA, e_ofNat hA]) (fun q => absurd q (by omega)) (fun _ => ?_) <;> (try (conv => cbv)) <;> repeat (refine brk_ok hA ?_; (try (conv => cbv)))
      obtain ⟨b4, o4, s4, hae4, hbn4, hs4, hrd4⟩ := (((((hw.ext x2).ext e9).ext e10)).ext e11).at (i := k) (by omega) (by omega)
      refine ⟨b4, o4, hae4, in_ok hA (by omega) (by omega), ?_⟩
      ((try (conv => cbv)); repeat (refine brk_ok hA ?_; (try (conv => cbv))))
      refine ⟨s4, rd_ok hA hrd4, ?_⟩
      ((try (conv => cbv)); repeat (refine brk_ok hA ?_; (try (conv => cbv))))
      refine ⟨b3, o3, hae3, in_ok hA hi0 c1, ?_⟩
      ((try (conv => cbv)); repeat (refine brk_ok hA ?_; (try (conv => cbv))))
      refine ⟨znm, rd_fld hA (e11.rd hbn3 t0), ?_⟩
      ((try (conv => cbv)); repeat (refine brk_ok hA ?_; (try (conv => cbv))))
      refine br (s4 ≠ znm) (by rw [e_strn hA]) (fun q => absurd (by rw [hs4, hk, q2, hN3]) q) (fun _ => ?_) <;> (try (conv => cbv)) <;> repeat (refine brk_ok hA ?_; (try (conv => cbv)))
      ((try (conv => cbv)); repeat (refine brk_ok hA ?_; (try (conv => cbv))))
      rw [add64 hA (by omega) (by omega)]
      obtain ⟨k1', hk1'⟩ : ∃ z, z = k + 1 := ⟨_, rfl⟩
      rw [← hk1']
      ((try (conv => cbv)); repeat (refine brk_ok hA ?_; (try (conv => cbv))))
      refine ⟨b3, o3, hae3, in_ok hA hi0 c1, ?_⟩
      ((try (conv => cbv)); repeat (refine brk_ok hA ?_; (try (conv => cbv))))
      refine ⟨zdg, rd_fld hA (e11.rd hbn3 t5), ?_⟩
      ((try (conv => cbv)); repeat (refine brk_ok hA ?_; (try (conv => cbv))))
      obtain ⟨h', w, g⟩ := fin h11 k1' e11 (by rw [outN_yes hi0 hoff, hk1', hk]; simp)
      refine ⟨b, 0, rfl, in_ok hA hi0 c1, ?_⟩
      ((try (conv => cbv)); repeat (refine brk_ok hA ?_; (try (conv => cbv))))
      refine ⟨h', wr_fld hA w, ?_⟩
      ((try (conv => cbv)); repeat (refine brk_ok hA ?_; (try (conv => cbv))))
      rw [add64 hA (by omega) (by omega)]
      exact g
    · refine ⟨b3, o3, hae3, in_ok hA hi0 c1, ?_⟩
      ((try (conv => cbv)); repeat (refine brk_ok hA ?_; (try (conv => cbv))))
      refine ⟨zdg, rd_fld hA t5, ?_⟩
      ((try (conv => cbv)); repeat (refine brk_ok hA ?_; (try (conv => cbv))))
      have hoff : ¬ offP l ps i := by unfold offP; rw [← hD3, ← hD2]; exact fun q => c5 (fun w => q w.symm)
      obtain ⟨h', w, g⟩ := fin h10 k (.refl _) (by rw [outN_no hi0 hoff, hk])
      refine ⟨b, 0, rfl, in_ok hA hi0 c1, ?_⟩
      ((try (conv => cbv)); repeat (refine brk_ok hA ?_; (try (conv => cbv))))
      refine ⟨h', wr_fld hA w, ?_⟩
      ((try (conv => cbv)); repeat (refine brk_ok hA ?_; (try (conv => cbv))))
      rw [add64 hA (by omega) (by omega)]
      exact g
  · have ee : i.toNat = l.length := by omega
    rw [ee, undone_all hP.lens] at ho
    rw [ee, hwl] at hk
    rw [hk]
    exact h1 h e ho

theorem notedLaw_ok {h : AHeap} (hlow : h.low ≤ h.next) {al : Option Addr} {nl cl : Nat} {l : List Rec} (hl : Recs h al nl l) (hcap : nl ≤ capLow cl) (hnl : (nl : Int) ≤ 9223372036854775807) (hr : ∀ y ∈ l, okR y) {Q : Value → AHeap → Prop}
    (hQ : ∀ h', Ext h h' → Q (.bool true) h') : call 9 [.slice al nl cl] h Q := by
  have hll := hl.len
  have bt : bnot true = false := by rw [e_bnot hA]; rfl
  refine hA.bodyR Try.func9 r9_ok (show prims _ _ _ = none from rfl) hlow ?_; (try (conv => cbv)); repeat (refine brk_ok hA ?_; (try (conv => cbv)))
  refine alive_ok hA ⟨_, rfl, ?_⟩
  ((try (conv => cbv)); repeat (refine brk_ok hA ?_; (try (conv => cbv))))
  refine great_ok hA hlow hl hnl (fun g hg => ⟨_, rfl, ?_⟩)
  cases g with
  | true =>
    ((try (conv => cbv)); repeat (refine brk_ok hA ?_; (try (conv => cbv))))
    exact hQ h (.refl h)
  | false =>
  have hsm := hg rfl
  have hok := hsm.ok' hr
  have h50 : nl ≤ 50 := by have := hsm.2; omega
  ((try (conv => cbv)); repeat (refine brk_ok hA ?_; (try (conv => cbv))))
  refine rcheck_ok hA hlow hl hcap (fun _ => hok) (fun e o h1 x1 hall => ⟨_, rfl, ?_⟩)
  ((try (conv => cbv)); repeat (refine brk_ok hA ?_; (try (conv => cbv))))
  refine br (e ≠ 0) (by rw [e_neq hA]) (fun c1 => ?_) (fun c1 => ?_) <;> (try (conv => cbv)) <;> repeat (refine brk_ok hA ?_; (try (conv => cbv)))
  · exact hQ h1 x1
  have he0 : e = 0 := by omega
  subst he0
  obtain ⟨ps, rfl⟩ : ∃ ps, o = some ps := by
    cases o with
    | none => exact absurd rfl (hall.zero.1 rfl)
    | some ps => exact ⟨ps, rfl⟩
  obtain ⟨pv, hform, h40⟩ := hall.prov
  have hP := hall.allP
  rw [bt]
  ((try (conv => cbv)); repeat (refine brk_ok hA ?_; (try (conv => cbv))))
  refine note_ok hA (x1.lowOK hlow) (hl.ext x1) (fun _ => hok) (fun a2 n2 c2 e2 r2 h2 x2 hn2 nis h402 => ⟨_, _, _, _, rfl, ?_⟩)
  obtain ⟨rfl, rfl⟩ := note_is hall nis
  have hD := Digd.notes hP.lens
  have hn2l := hn2.len
  have hnn := notes_len l ps hP.lens
  have x12 := x1.trans x2
  ((try (conv => cbv)); repeat (refine brk_ok hA ?_; (try (conv => cbv))))
  refine verify_ok hA (x12.lowOK hlow) hn2.recs (fun _ => hD.okL hok) (fun a3 n3 c3 e3 r3 h3 x3 s3 v3 k3 => ⟨_, _, _, _, rfl, ?_⟩)
  obtain ⟨rfl, rfl⟩ := ver_notes hP v3
  have hn3 := s3.len
  have x13 := x12.trans x3
  ((try (conv => cbv)); repeat (refine brk_ok hA ?_; (try (conv => cbv))))
  refine verify_okS hA (x13.lowOK hlow) (hl.ext x13) (fun _ => hok) (fun a4 n4 c4 e4 r4 h4 x4 s4 v4 k4 => ⟨_, _, _, _, rfl, ?_⟩)
  obtain ⟨rfl, rfl⟩ := ver_is hall v4
  have x14 := x13.trans x4
  ((try (conv => cbv)); repeat (refine brk_ok hA ?_; (try (conv => cbv))))
  refine br (False) (by rw [e_neq hA]; rfl) (fun q => q.elim) (fun _ => ?_) <;> (try (conv => cbv)) <;> repeat (refine brk_ok hA ?_; (try (conv => cbv)))
  refine br (False) (by rw [e_neq hA]; rfl) (fun q => q.elim) (fun _ => ?_) <;> (try (conv => cbv)) <;> repeat (refine brk_ok hA ?_; (try (conv => cbv)))
  refine br (False) (by rw [e_neq hA]; rfl) (fun q => q.elim) (fun _ => ?_) <;> (try (conv => cbv)) <;> repeat (refine brk_ok hA ?_; (try (conv => cbv)))
  refine br ((n3 : Int) ≠ 0) (by rw [e_neq hA, e_ofNat hA]) (fun q => absurd (by simpa using hn3.symm) q) (fun _ => ?_) <;> (try (conv => cbv)) <;> repeat (refine brk_ok hA ?_; (try (conv => cbv)))
  refine br ((n2 : Int) ≠ nl) (by rw [e_neq hA, e_ofNat hA, e_ofNat hA]) (fun q => absurd (by omega) q) (fun _ => ?_) <;> (try (conv => cbv)) <;> repeat (refine brk_ok hA ?_; (try (conv => cbv)))
  have hszn : ∀ r ∈ l, okB r.data ∧ r.frm.length ≤ 1000000 := fun r hm => by have := hok r hm; exact ⟨this.1.1, by omega⟩
  by_cases h0 : 0 < n2
  · obtain ⟨b, rfl, own⟩ := hn2.own h0
    have hb : h1.next ≤ b := by obtain ⟨_, q, _⟩ := own; exact q
    have hbn : b < h2.next := by obtain ⟨_, _, q, _⟩ := own; exact q
    have x3n := x3.next
    have e2' : n2 = nl := by omega
    subst e2'
    refine noted_loop hA (x1.lowOK hlow) (hl.ext x1) (by omega) hok hP hb hn2.cap s4.strs.len (fun ad had => by have := s4.frm ad had; omega) (fun h5 x5 own5 => ?_) 0 (by omega) (by omega) h4 ((x2.trans x3).trans x4) ((own.ext x3).ext x4) s4.strs 0 rfl
    ((try (conv => cbv)); repeat (refine brk_ok hA ?_; (try (conv => cbv))))
    refine br (True) (by rw [e_eql hA, e_ofNat hA]; simp) (fun _ => ?_) (fun q => absurd trivial q) <;> (try (conv => cbv)) <;> repeat (refine brk_ok hA ?_; (try (conv => cbv)))
    have x15 := x1.trans x5
    refine same_ok hA (x15.lowOK hlow) (own5.recs hn2.cap).recs (hl.ext x15) (by omega) hszn (fun r hm => (hszn r hm).1) (fun bb h6 x6 hbb => ⟨_, rfl, ?_⟩)
    obtain rfl := hbb.2 rfl
    ((try (conv => cbv)); repeat (refine brk_ok hA ?_; (try (conv => cbv))))
    exact hQ h6 (x15.trans x6)
  · obtain rfl : n2 = 0 := by omega
    have hl0 : l = [] := List.eq_nil_of_length_eq_zero (by omega)
    have hn4 : n4 = 0 := by
      have := s4.strs.len
      have := outN_len l (offP l ps) l.length
      omega
    subst hn4
    have hnn0 : nl = 0 := by omega
    subst hnn0
    refine hA.roundR Try.func9 r9_ok ?_; (try (conv => cbv)); repeat (refine brk_ok hA ?_; (try (conv => cbv)))
    refine br (False) (by rw [e_lss hA, e_ofNat hA]; rfl) (fun q => q.elim) (fun _ => ?_) <;> (try (conv => cbv)) <;> repeat (refine brk_ok hA ?_; (try (conv => cbv)))
    ((try (conv => cbv)); repeat (refine brk_ok hA ?_; (try (conv => cbv))))
    refine br (True) (by rw [e_eql hA, e_ofNat hA]; simp) (fun _ => ?_) (fun q => absurd trivial q) <;> (try (conv => cbv)) <;> repeat (refine brk_ok hA ?_; (try (conv => cbv)))
    have hr2 := (hn2.ext (x3.trans x4)).recs
    rw [show notes l ps = l by rw [hl0]; rfl] at hr2
    refine same_ok hA (x14.lowOK hlow) hr2 (hl.ext x14) (by omega) hszn (fun r hm => (hszn r hm).1) (fun bb h6 x6 hbb => ⟨_, rfl, ?_⟩)
    obtain rfl := hbb.2 rfl
    ((try (conv => cbv)); repeat (refine brk_ok hA ?_; (try (conv => cbv))))
    exact hQ h6 (x14.trans x6)

end Go.Proofs.Ytopppccddnplkaa
