/-
  Note, of the program and of the reference.
-/
import Derived.Test.YtopppccddnplkaaONew
import Derived.Test.YtopppccddnplkaaOVerify
import Derived.Test.YtopppccddnplkaaOPlain
namespace Go.Proofs.Ytopppccddnplkaa
open Go.Sim
open Classical
set_option linter.unusedVariables false
set_option maxRecDepth 100000

def NoteIs (l : List Rec) (e : Int) (r : List Rec) : Prop :=
  (AllIs l e none ∧ r = []) ∨ (∃ ps, AllIs l 0 (some ps) ∧ e = 0 ∧ r = notes l ps)
theorem NoteIs.uniq {l : List Rec} {e e' : Int} {r r' : List Rec} (h : NoteIs l e r) (h' : NoteIs l e' r') : e = e' ∧ r = r' := by
  rcases h with ⟨a, rfl⟩ | ⟨ps, a, rfl, rfl⟩ <;> rcases h' with ⟨a', rfl⟩ | ⟨ps', a', rfl, rfl⟩
  · exact ⟨(a.uniq a').1, rfl⟩
  · cases (a.uniq a').2
  · cases (a.uniq a').2
  · cases (a.uniq a').2
    exact ⟨rfl, rfl⟩

/-! ### A block of records of one's own, written -/

def NOwn (h : AHeap) (lo b n : Nat) (rs : List Rec) : Prop := ∃ xs, lo ≤ b ∧ b < h.next ∧ Own h b 6 (flatR xs) ∧ xs.length = n ∧ NAll h lo xs rs
theorem NOwn.recs {h : AHeap} {lo b n c : Nat} {rs : List Rec} (p : NOwn h lo b n rs) (hc : n ≤ capLow c) : NRecs h lo (some ⟨b, 0, none⟩) n c rs := by
  obtain ⟨xs, h1, h2, h3, h4, h5⟩ := p
  exact ⟨xs, .inr ⟨b, rfl, h1, h2, h3⟩, hc, h4, h5⟩
theorem NRecs.own {h : AHeap} {lo : Nat} {a : Option Addr} {n c : Nat} {rs : List Rec} (p : NRecs h lo a n c rs) (hn : 0 < n) : ∃ b, a = some ⟨b, 0, none⟩ ∧ NOwn h lo b n rs := by
  obtain ⟨xs, h1, _, h2, h3⟩ := p
  rcases h1 with ⟨_, rfl, _⟩ | ⟨b, rfl, q1, q2, q3⟩
  · omega
  · exact ⟨b, rfl, xs, q1, q2, q3, h2, h3⟩
theorem NOwn.len {h : AHeap} {lo b n : Nat} {rs : List Rec} (p : NOwn h lo b n rs) : rs.length = n := by
  obtain ⟨xs, _, _, _, h4, h5⟩ := p
  have := h5.1
  omega
theorem NOwn.ext {h h' : AHeap} {lo b n : Nat} {rs : List Rec} (p : NOwn h lo b n rs) (e : Ext h h') : NOwn h' lo b n rs := by
  obtain ⟨xs, h1, h2, h3, h4, h5⟩ := p
  exact ⟨xs, h1, Nat.lt_of_lt_of_le h2 e.next, h3.ext e h2, h4, h5.ext e⟩
theorem flatR_put : ∀ (xs : List RH) (i k : Nat) (vs : List Value) (x' : RH), i < xs.length → k + vs.length ≤ 6 → ((xs.getD i noRH).cells.take k ++ (vs ++ (xs.getD i noRH).cells.drop (k + vs.length))) = x'.cells →
    (flatR xs).take (i * 6 + k) ++ (vs ++ (flatR xs).drop (i * 6 + k + vs.length)) = flatR (xs.set i x') := by
  intro xs
  induction xs with
  | nil => intro i k vs x' hi; simp at hi
  | cons c xs ih =>
    intro i k vs x' hi hk he
    have h6 : c.cells.length = 6 := rfl
    cases i with
    | zero =>
      show (c.cells ++ flatR xs).take (0 * 6 + k) ++ (vs ++ (c.cells ++ flatR xs).drop (0 * 6 + k + vs.length)) = x'.cells ++ flatR xs
      rw [Nat.zero_mul, Nat.zero_add, List.take_append_of_le_length (by omega), List.drop_append_of_le_length (by omega)]
      have : (c :: xs).getD 0 noRH = c := rfl
      rw [this] at he
      rw [← he]
      simp
    | succ i =>
      show (c.cells ++ flatR xs).take ((i + 1) * 6 + k) ++ (vs ++ (c.cells ++ flatR xs).drop ((i + 1) * 6 + k + vs.length)) = c.cells ++ flatR (xs.set i x')
      have e1 : (i + 1) * 6 + k = c.cells.length + (i * 6 + k) := by rw [h6]; omega
      rw [e1, Nat.add_assoc, List.take_length_add_append, List.drop_length_add_append, List.append_assoc]
      congr 1
      have := ih i k vs x' (by simpa using hi) hk (by simpa using he)
      rw [← this]
theorem NOwn.put {h : AHeap} {lo b n : Nat} {rs : List Rec} (p : NOwn h lo b n rs) {i : Nat} (hi : i < n) {k : Nat} {vs : List Value} (hk : k + vs.length ≤ 6) {r' : Rec} (hx : ∀ x, NRec h lo x (rs.getD i noRec) → ∃ x' : RH, x.cells.take k ++ (vs ++ x.cells.drop (k + vs.length)) = x'.cells ∧ NRec h lo x' r') :
    ∃ h', h.write b (i * 6 + k) vs = some h' ∧ Wrote h h' b ∧ NOwn h' lo b n (rs.set i r') := by
  obtain ⟨xs, h1, h2, h3, h4, h5⟩ := p
  have hl := h5.1
  have q1 := getD_some xs i noRH (by omega)
  have q2 := getD_some rs i noRec (by omega)
  obtain ⟨x', w1, w2⟩ := hx _ (h5.2 i _ _ q1 q2)
  obtain ⟨h', e1, e2, e3⟩ := h3.write (o := i * 6 + k) (vs := vs) (by rw [flatR_len]; omega)
  rw [flatR_put xs i k vs x' (by omega) hk w1] at e2
  refine ⟨h', e1, e3, xs.set i x', h1, by rw [e3.next]; exact h2, e2, by simpa using h4, by simpa using hl, fun j x r hx hr => ?_⟩
  have hn : h.next ≤ h'.next := by rw [e3.next]; exact Nat.le_refl _
  rw [List.getElem?_set] at hx hr
  split at hx
  · rename_i ej
    rw [if_pos ej] at hr
    rw [if_pos (by omega)] at hx
    rw [if_pos (by omega)] at hr
    cases hx; cases hr
    exact w2.keep h3 hn (fun z _ hz => e3.get z hz)
  · rename_i ej
    rw [if_neg ej] at hr
    exact (h5.2 j x r hx hr).keep h3 hn (fun z _ hz => e3.get z hz)

def noteTo (l : List Rec) (ps : List Bytes) (i : Nat) : List Rec := (notes l ps).take i ++ l.drop i
theorem noteTo_zero (l : List Rec) (ps : List Bytes) : noteTo l ps 0 = l := rfl
theorem noteTo_all {l : List Rec} {ps : List Bytes} (h : ps.length = l.length) : noteTo l ps l.length = notes l ps := by
  unfold noteTo
  rw [List.take_of_length_le (by rw [notes_len l ps h]; exact Nat.le_refl _), List.drop_eq_nil_of_le (Nat.le_refl _), List.append_nil]
theorem noteTo_at {l : List Rec} {ps : List Bytes} (h : ps.length = l.length) {i : Nat} (hi : i < l.length) : (noteTo l ps i).getD i noRec = rat l i := by
  unfold noteTo rat
  have hn := notes_len l ps h
  rw [List.getD, List.getElem?_append_right (by simp; omega), List.getElem?_drop, List.length_take, Nat.min_eq_left (by omega), Nat.sub_self, Nat.add_zero, Int.toNat_natCast]
  rfl
theorem noteTo_set {l : List Rec} {ps : List Bytes} (h : ps.length = l.length) {i : Nat} (hi : i < l.length) : (noteTo l ps i).set i { rat l i with dig := dig (bat ps i) } = noteTo l ps (i + 1) := by
  have hn := notes_len l ps h
  have hr := notes_rat h (i := (i : Int)) (by omega) (by omega)
  rw [← hr]
  unfold noteTo
  have hl : ((notes l ps).take i).length = i := by simp; omega
  rw [List.set_append, if_neg (by omega), hl, Nat.sub_self, List.take_add_one]
  have e1 : (notes l ps)[i]? = some (rat (notes l ps) i) := by
    unfold rat
    rw [Int.toNat_natCast]
    exact getD_some _ _ _ (by omega)
  rw [e1]
  have e2 : l.drop i = l[i] :: l.drop (i + 1) := List.drop_eq_getElem_cons hi
  rw [e2, List.set_cons_zero]
  simp

def madeTo (l : List Rec) (ps : List Bytes) (i : Nat) : List Rec := (notes l ps).take i ++ List.replicate (l.length - i) noRec
theorem madeTo_all {l : List Rec} {ps : List Bytes} (h : ps.length = l.length) : madeTo l ps l.length = notes l ps := by
  unfold madeTo
  rw [List.take_of_length_le (by rw [notes_len l ps h]; exact Nat.le_refl _), Nat.sub_self, List.replicate_zero, List.append_nil]
theorem madeTo_set {l : List Rec} {ps : List Bytes} (h : ps.length = l.length) {i : Nat} (hi : i < l.length) : (madeTo l ps i).set i { rat l i with dig := dig (bat ps i) } = madeTo l ps (i + 1) := by
  have hn := notes_len l ps h
  have hr := notes_rat h (i := (i : Int)) (by omega) (by omega)
  rw [← hr]
  unfold madeTo
  have hl : ((notes l ps).take i).length = i := by simp; omega
  rw [List.set_append, if_neg (by omega), hl, Nat.sub_self, List.take_add_one]
  have e1 : (notes l ps)[i]? = some (rat (notes l ps) i) := by
    unfold rat
    rw [Int.toNat_natCast]
    exact getD_some _ _ _ (by omega)
  rw [e1, show l.length - i = (l.length - (i + 1)) + 1 by omega, List.replicate_succ, List.set_cons_zero]
  simp
theorem copies_flat (n : Nat) : copies [Value.string ⟨⟨[]⟩⟩, Value.int .u8 0, Value.slice none 0 0, Value.int .i64 0, Value.slice none 0 0, Value.int .i64 0] n = flatR (List.replicate n noRH) := by
  induction n with
  | zero => rfl
  | succ n ih =>
    show [Value.string ⟨⟨[]⟩⟩, Value.int .u8 0, Value.slice none 0 0, Value.int .i64 0, Value.slice none 0 0, Value.int .i64 0] ++ copies [Value.string ⟨⟨[]⟩⟩, Value.int .u8 0, Value.slice none 0 0, Value.int .i64 0, Value.slice none 0 0, Value.int .i64 0] n = _
    rw [ih]
    rfl
theorem NOwn.zeros (h : AHeap) {lo n : Nat} (hlo : lo ≤ h.next) : NOwn (h.push 6 (flatR (List.replicate n noRH))) lo h.next n (List.replicate n noRec) := by
  refine ⟨List.replicate n noRH, hlo, Nat.lt_succ_self _, Own.push _ _ _, by simp, by simp, fun i x r hx hr => ?_⟩
  rw [List.getElem?_replicate] at hx hr
  split at hx
  · rename_i hi
    rw [if_pos hi] at hr
    cases hx; cases hr
    exact ⟨rfl, rfl, rfl, rfl, .inl ⟨rfl, rfl, rfl, rfl⟩, .inl ⟨rfl, rfl, rfl, rfl⟩⟩
  · cases hx

variable {call : FuncId → List Value → AHeap → (Value → AHeap → Prop) → Prop}
  {head : FuncId → Nat → Nat → SS → (Exit → SS → Prop) → Prop}
  {arith : BinOp → IntKind → Int → Int → Int}
  {cmp : BinOp → Int → Int → Bool}
  {scmp : BinOp → ByteArray → ByteArray → Bool}
  {bnot : Bool → Bool}
  {bsame : Bool → Bool → Bool}
  {conv : IntKind → Int → Int}
  {neg : IntKind → Int → Int}
  {imax : Int → Int → Int}
  {imin : Int → Int → Int}
  {ofNat : Nat → Int}
  {slen : ByteArray → Int}
  {place : Nat → Int → Nat → Nat}
  {inR : Int → Nat → Prop}
  {nz : Int → Prop}
  {geZ : Int → Prop}
  {rd : AHeap → Nat → Nat → Nat → List Value → Prop}
  {wr : AHeap → Nat → Nat → List Value → AHeap → Prop}
  {push : AHeap → Nat → List Value → AHeap}
  {next : AHeap → Nat}
  {mkOK : Int → Int → Prop}
  {nat : Int → Nat}
  {zeros : List Value → Int → List Value}
  {sadd : ByteArray → ByteArray → (ByteArray → Prop) → Prop}
  {eqAgg : TypeId → Array Value → Array Value → (Bool → Prop) → Prop}
  {cut : Nat → Int → Prop}
  {slc : TypeId → Value → Option Value → Option Value → Option Value → (Option Addr → Nat → Nat → Prop) → Prop}
  {sslc : TypeId → ByteArray → Option Value → Option Value → (ByteArray → Prop) → Prop}
  {strAt : ByteArray → Int → (Int → Prop) → Prop}
  {part : TypeId → Array Value → Nat → Value → Prop}
  {app : List TypeId → List Value → AHeap → (Option Addr → Nat → Nat → AHeap → Prop) → Prop}
  {cpy : List TypeId → List Value → AHeap → (Int → AHeap → Prop) → Prop}
  {putAt : AHeap → Nat → Nat → List Value → AHeap}
  {fresh : AHeap → AHeap}
  {lowered : AHeap → AHeap → AHeap}
  {bump : AHeap → Nat → AHeap}
  {wrote : AHeap → AHeap → Bool}
  {addN : Nat → Nat → Nat}
  {lt : Nat → Nat → Prop}
  {ne : Nat → Nat → Prop}
  {fpAll : Bool → Bool → Bool → Nat → Nat → Prop}
  {brk : (Unit → Prop) → Prop}
  {yn : Nat → Nat}
  {rng : FuncId → Nat → SS → (Exit → SS → Prop) → Prop}
  {mget : TypeId → Value → Value → AHeap → Value → Bool → Prop}
  {mput : TypeId → Value → Value → Value → AHeap → AHeap → Prop}
  {mnew : AHeap → AHeap}
  {bytes : TypeId → TypeId → Option Addr → Nat → AHeap → ByteArray → Prop}
  {clr : List TypeId → List Value → AHeap → AHeap → Prop}
  (hA : AOK progU hint prims ⟨call, head, arith, cmp, scmp, bnot, bsame, conv, neg, imax, imin, ofNat, slen, place, inR, nz, geZ, rd, wr, push, next, mkOK, nat, zeros, sadd, eqAgg, cut, slc, sslc, strAt, part, app, cpy, putAt, fresh, lowered, bump, wrote, addN, lt, ne, fpAll, brk, yn, rng, mget, mput, mnew, bytes, clr⟩)
include hA

theorem note_loop {h1 : AHeap} (hlow1 : h1.low ≤ h1.next) {al : Option Addr} {nl cl : Nat} {l : List Rec} (hl : Recs h1 al nl l) {M lo : Nat} {ps : List Bytes} (hp : PM h1 lo M l ps) (hpl : ps.length = l.length) (h40 : l.length ≤ 40) (pv : Prov l) (hsz : ∀ r ∈ l, r.frm.length ≤ 100000 ∧ r.data.length ≤ 100000) (hps : ∀ j : Int, okB (bat ps j) ∧ (bat ps j).length ≤ 1000) {b : Nat} (hb : h1.next ≤ b) {Q : Exit → SS → Prop}
    (h1' : ∀ h' kn K, Ext h1 h' → NOwn h' h1.next b nl (notes l ps) → Q (.exit 0) ⟨[(6, .slice (some ⟨b, 0, none⟩) nl nl)], kn, K, h'⟩) :
    ∀ i : Int, 0 ≤ i → i ≤ nl → ∀ h, Ext h1 h → NOwn h h1.next b nl (madeTo l ps i.toNat) → head 15 6 0 ⟨[(4, .map (some M)), (6, .slice (some ⟨b, 0, none⟩) nl nl), (20, .slice al nl cl), (21, .int .i64 nl), (22, .int .i64 i)], 0, [], h⟩ Q := by
  have hll := hl.len
  refine countUp (fun i hi0 hin ih h e ho => ?_)
  refine hA.roundR Try.func15 r15_ok ?_; (try (conv => cbv)); repeat (refine brk_ok hA ?_; (try (conv => cbv)))
  refine br (i < nl) (by rw [e_lss hA]; rfl) (fun c1 => ?_) (fun c1 => ?_) <;> (try (conv => cbv)) <;> repeat (refine brk_ok hA ?_; (try (conv => cbv)))
  · obtain ⟨b', o, x, hae, hbn, rel, hrd, _⟩ := (hl.ext e).at hi0 c1
    have hnm := rel.name
    have hhw := rel.how
    have hag := rel.arg
    have hdg := rel.dig
    have hfr := rel.frm
    have hda := rel.data
    obtain ⟨xnm, xhow, xfa, xfn, xfc, xarg, xda, xdn, xdc, xdg⟩ := x
    simp only [] at hnm hhw hag hdg hfr hda
    refine ⟨b', o, hae, in_ok hA hi0 c1, ?_⟩
    ((try (conv => cbv)); repeat (refine brk_ok hA ?_; (try (conv => cbv))))
    refine ⟨xnm, xhow, xfa, xfn, xfc, xarg, xda, xdn, xdc, xdg, rd_ok hA hrd, ?_⟩
    ((try (conv => cbv)); repeat (refine brk_ok hA ?_; (try (conv => cbv))))
    have hfl := hfr.len
    have hdl := hda.len
    obtain ⟨sz1, sz2⟩ := hsz _ (rat_mem hi0 (by omega))
    obtain ⟨a3, c3, h3, q1, q2, q3, _, _⟩ := append_row T35 (Apd.nil h 1) hfr rfl (strs_ok _) (by omega)
    rw [Nat.zero_add] at q1 q2
    rw [List.nil_append] at q2
    refine app_ok hA q1 ?_
    ((try (conv => cbv)); repeat (refine brk_ok hA ?_; (try (conv => cbv))))
    obtain ⟨e3, f3⟩ := q3 h (.refl h) (.none _)
    have m3 := Mem1.apd q2 f3 (by unfold slack; omega)
    obtain ⟨a4, c4, h4, q4, q5, q6, _, _⟩ := append_row T23 (Apd.nil h3 1) (hda.ext e3) rfl (bytes_ok _) (by omega)
    rw [Nat.zero_add] at q4 q5
    rw [List.nil_append] at q5
    refine app_ok hA q4 ?_
    ((try (conv => cbv)); repeat (refine brk_ok hA ?_; (try (conv => cbv))))
    obtain ⟨e4, f4⟩ := q6 h3 (.refl h3) (.none _)
    have m4 := Mem1.apd q5 f4 (by unfold slack; omega)
    have e14 := (e.trans e3).trans e4
    have hself := pv.self i hi0 (by omega)
    obtain ⟨ga, gn, gc, gb, g1, g2⟩ := mget_ok hA (hp.ext e14) xnm
    refine ⟨ga, gn, gc, gb, g1, ?_⟩
    rcases g2 with ⟨rfl, g2, g3⟩ | ⟨rfl, g2⟩
    rotate_left
    · rw [hnm] at g2; omega
    rw [hnm, hself] at g3
    obtain ⟨hb1, hb2⟩ := hps i
    have hgl := g3.len
    ((try (conv => cbv)); repeat (refine brk_ok hA ?_; (try (conv => cbv))))
    refine dig_ok hA (e14.lowOK hlow1) g3.byts hb1 (by omega) (fun d hd => ⟨_, rfl, ?_⟩)
    ((try (conv => cbv)); repeat (refine brk_ok hA ?_; (try (conv => cbv))))
    refine ⟨b, 0, rfl, in_ok hA hi0 (by omega), ?_⟩
    ((try (conv => cbv)); repeat (refine brk_ok hA ?_; (try (conv => cbv))))
    have hst := madeTo_set hpl (i := i.toNat) (by omega)
    rw [Int.toNat_of_nonneg hi0] at hst
    have hx3 := e3.next
    have hx0 := e.next
    obtain ⟨h', w1, w2, w3⟩ := ((ho.ext e3).ext e4).put (i := i.toNat) (k := 0) (vs := [.string xnm, .int .u8 xhow, .slice a3 xfn c3, .int .i64 xarg, .slice a4 xdn c4, .int .i64 d]) (by omega) (by simp) (r' := { rat l i with dig := dig (bat ps i) }) (fun x hx => ⟨⟨xnm, xhow, a3, xfn, c3, xarg, a4, xdn, c4, d⟩, rfl, ⟨hnm, hhw, hag, hd, (m3.ext e4).lower (by omega), m4.lower (by omega)⟩⟩)
    refine ⟨h', wr_ok hA (by rw [Nat.zero_add]; exact w1), ?_⟩
    ((try (conv => cbv)); repeat (refine brk_ok hA ?_; (try (conv => cbv))))
    rw [add64 hA (by omega) (by omega)]
    refine ih c1 h' (w2.ext e14 hb) ?_
    rw [toNat_succ hi0, ← hst]
    exact w3
  · have ee : i.toNat = l.length := by omega
    rw [ee, madeTo_all hpl] at ho
    exact h1' h _ _ e ho

theorem rnote_loop {hz : AHeap} (hlowz : hz.low ≤ hz.next) {pa : Option Addr} {pn pc : Nat} {l : List Rec} {ps : List Bytes} (hP : Lists hz pa pn ps) (hpl : ps.length = l.length) (hn40 : l.length ≤ 40) (hps : ∀ j : Int, okB (bat ps j) ∧ (bat ps j).length ≤ 1000) {b nr cr : Nat} (hb : hz.next ≤ b) {Q : Exit → SS → Prop}
    (h1 : ∀ h' kn K, Ext hz h' → NOwn h' hz.next b nr (notes l ps) → Q (.exit 0) ⟨[(6, .slice (some ⟨b, 0, none⟩) nr cr)], kn, K, h'⟩) :
    ∀ i : Int, 0 ≤ i → i ≤ nr → ∀ h, Ext hz h → NOwn h hz.next b nr (noteTo l ps i.toNat) → head 16 6 0 ⟨[(4, .slice pa pn pc), (6, .slice (some ⟨b, 0, none⟩) nr cr), (7, .int .i64 i)], 0, [], h⟩ Q := by
  refine countUp (fun i hi0 hin ih h e ho => ?_)
  have hrl := ho.len
  have hnl := notes_len l ps hpl
  have hnt : nr = l.length := by
    rw [← hrl]
    unfold noteTo
    simp
    omega
  have hpn := hP.len
  refine hA.roundR Try.func16 r16_ok ?_; (try (conv => cbv)); repeat (refine brk_ok hA ?_; (try (conv => cbv)))
  refine br (i < nr) (by rw [e_lss hA, e_ofNat hA]) (fun c1 => ?_) (fun c1 => ?_) <;> (try (conv => cbv)) <;> repeat (refine brk_ok hA ?_; (try (conv => cbv)))
  · obtain ⟨b', o, ra, rn, rc, hae, hbn, hrd, hby⟩ := (hP.ext e).at (i := i) hi0 (by omega)
    have hgl := hby.len
    obtain ⟨hb1, hb2⟩ := hps i
    refine ⟨b', o, hae, in_ok hA hi0 (by omega), ?_⟩
    ((try (conv => cbv)); repeat (refine brk_ok hA ?_; (try (conv => cbv))))
    refine ⟨ra, rn, rc, rd_ok hA hrd, ?_⟩
    ((try (conv => cbv)); repeat (refine brk_ok hA ?_; (try (conv => cbv))))
    refine rdig_ok hA (e.lowOK hlowz) hby hb1 (by omega) (fun d hd => ⟨_, rfl, ?_⟩)
    ((try (conv => cbv)); repeat (refine brk_ok hA ?_; (try (conv => cbv))))
    refine ⟨b, 0, rfl, in_ok hA hi0 (by omega), ?_⟩
    ((try (conv => cbv)); repeat (refine brk_ok hA ?_; (try (conv => cbv))))
    have hat := noteTo_at hpl (i := i.toNat) (by omega)
    have hst := noteTo_set hpl (i := i.toNat) (by omega)
    rw [Int.toNat_of_nonneg hi0] at hat hst
    obtain ⟨h', w1, w2, w3⟩ := ho.put (i := i.toNat) (k := 5) (vs := [.int .i64 d]) (by omega) (by simp) (r' := { rat l i with dig := dig (bat ps i) }) (fun x hx => ⟨{ x with dig := d }, rfl, by
      rw [hat] at hx
      exact { hx with dig := hd }⟩)
    refine ⟨h', wr_fld hA (by rw [Nat.zero_add]; exact w1), ?_⟩
    ((try (conv => cbv)); repeat (refine brk_ok hA ?_; (try (conv => cbv))))
    rw [add64 hA (by omega) (by omega)]
    refine ih c1 h' (w2.ext e hb) ?_
    rw [toNat_succ hi0, ← hst]
    exact w3
  · have ee : i.toNat = l.length := by omega
    rw [ee, noteTo_all hpl] at ho
    exact h1 h _ _ e ho

theorem rnote_ok {h : AHeap} (hlow : h.low ≤ h.next) {al : Option Addr} {nl cl : Nat} {l : List Rec} (hl : Recs h al nl l) (hcap : nl ≤ capLow cl) (hok : l.length ≤ 40 → okL l) {Q : Value → AHeap → Prop}
    (hQ : ∀ a n c e r h', Ext h h' → NRecs h' h.next a n c r → NoteIs l e r → n ≤ 40 → Q (.tuple #[.slice a n c, .int .i64 e]) h') : call 16 [.slice al nl cl] h Q := by
  have hll := hl.len
  refine hA.bodyR Try.func16 r16_ok (show prims _ _ _ = none from rfl) hlow ?_; (try (conv => cbv)); repeat (refine brk_ok hA ?_; (try (conv => cbv)))
  refine rall_ok hA hlow hl hcap hok (fun a n c ps h1 e1 ho ha => ⟨_, _, _, _, rfl, ?_⟩) (fun e h1 e1 ha => ⟨_, _, _, _, rfl, ?_⟩)
  rotate_left
  · ((try (conv => cbv)); repeat (refine brk_ok hA ?_; (try (conv => cbv))))
    have he : e ≠ 0 := fun q => by have := ha.zero.1 q; exact this rfl
    refine br (e ≠ 0) (by rw [e_neq hA]) (fun _ => ?_) (fun q => absurd he q) <;> (try (conv => cbv)) <;> repeat (refine brk_ok hA ?_; (try (conv => cbv)))
    exact hQ _ _ _ _ _ h1 e1 (NRecs.nil h1 _) (.inl ⟨ha, rfl⟩) (by omega)
  ((try (conv => cbv)); repeat (refine brk_ok hA ?_; (try (conv => cbv))))
  refine br (False) (by rw [e_neq hA]; rfl) (fun q => q.elim) (fun _ => ?_) <;> (try (conv => cbv)) <;> repeat (refine brk_ok hA ?_; (try (conv => cbv)))
  obtain ⟨pv, hform, h40⟩ := ha.prov
  have hoks := ha.oks (hok h40)
  have okl := hok h40
  refine twin_ok hA (e1.lowOK hlow) (hl.ext e1) (by omega) (fun r hr => ?_) (fun a2 n2 c2 h2 e2 hn2 hnn => ⟨_, _, _, rfl, ?_⟩)
  · have hf := hform
    obtain ⟨j, hj⟩ := List.getElem?_of_mem hr
    have hjl : j < l.length := (List.getElem?_eq_some_iff.1 hj).1
    have := (hform j (by omega) (by omega)).2.2.2
    unfold rat at this
    rw [Int.toNat_natCast, List.getD, hj] at this
    simp only [Option.getD_some] at this
    unfold kindP at this
    omega
  ((try (conv => cbv)); repeat (refine brk_ok hA ?_; (try (conv => cbv))))
  have hpl := ha.lens
  have hpn := ho.len
  have e12 := e1.trans e2
  by_cases h0 : 0 < n2
  · obtain ⟨b, rfl, own⟩ := hn2.own h0
    have hb : h1.next ≤ b := by obtain ⟨_, q, _⟩ := own; exact q
    refine rnote_loop hA (e1.lowOK hlow) ho.lists hpl h40 hoks hb (fun h' kn K e3 q => ?_) 0 (by omega) (by omega) h2 e2 own
    ((try (conv => cbv)); repeat (refine brk_ok hA ?_; (try (conv => cbv))))
    exact hQ _ _ _ _ _ h' (e1.trans e3) ((q.recs hn2.cap).lower e1.next) (.inr ⟨ps, ha, rfl, rfl⟩) (by omega)
  · obtain rfl : n2 = 0 := by omega
    have hl0 : l = [] := List.eq_nil_of_length_eq_zero (by omega)
    refine hA.roundR Try.func16 r16_ok ?_; (try (conv => cbv)); repeat (refine brk_ok hA ?_; (try (conv => cbv)))
    refine br (False) (by rw [e_lss hA, e_ofNat hA]; rfl) (fun q => q.elim) (fun _ => ?_) <;> (try (conv => cbv)) <;> repeat (refine brk_ok hA ?_; (try (conv => cbv)))
    ((try (conv => cbv)); repeat (refine brk_ok hA ?_; (try (conv => cbv))))
    refine hQ _ _ _ _ _ h2 e12 (hn2.lower e1.next) (.inr ⟨ps, ha, rfl, ?_⟩) (by omega)
    rw [hl0]; rfl

theorem note_ok {h : AHeap} (hlow : h.low ≤ h.next) {al : Option Addr} {nl cl : Nat} {l : List Rec} (hl : Recs h al nl l) (hok : l.length ≤ 40 → okL l) {Q : Value → AHeap → Prop}
    (hQ : ∀ a n c e r h', Ext h h' → NRecs h' h.next a n c r → NoteIs l e r → n ≤ 40 → Q (.tuple #[.slice a n c, .int .i64 e]) h') : call 15 [.slice al nl cl] h Q := by
  have hll := hl.len
  refine hA.bodyR Try.func15 r15_ok (show prims _ _ _ = none from rfl) hlow ?_; (try (conv => cbv)); repeat (refine brk_ok hA ?_; (try (conv => cbv)))
  refine prods_ok hA hlow hl hok (fun M ps h1 e1 hp ha hM => ⟨_, _, rfl, ?_⟩) (fun e h1 e1 ha => ⟨_, _, rfl, ?_⟩)
  rotate_left
  · ((try (conv => cbv)); repeat (refine brk_ok hA ?_; (try (conv => cbv))))
    have he : e ≠ 0 := fun q => by have := ha.zero.1 q; exact this rfl
    refine br (e ≠ 0) (by rw [e_neq hA]) (fun _ => ?_) (fun q => absurd he q) <;> (try (conv => cbv)) <;> repeat (refine brk_ok hA ?_; (try (conv => cbv)))
    exact hQ _ _ _ _ _ h1 e1 (NRecs.nil h1 _) (.inl ⟨ha, rfl⟩) (by omega)
  ((try (conv => cbv)); repeat (refine brk_ok hA ?_; (try (conv => cbv))))
  refine br (False) (by rw [e_neq hA]; rfl) (fun q => q.elim) (fun _ => ?_) <;> (try (conv => cbv)) <;> repeat (refine brk_ok hA ?_; (try (conv => cbv)))
  obtain ⟨pv, hform, h40⟩ := ha.prov
  have hoks := ha.oks (hok h40)
  have okl := hok h40
  have hpl := ha.lens
  refine ⟨mk_ok hA (by rw [e_ofNat hA]; omega) (Int.le_refl _) (by rw [e_ofNat hA]; omega), ?_⟩
  ((try (conv => cbv)); repeat (refine brk_ok hA ?_; (try (conv => cbv))))
  rw [e_next hA, e_push hA, e_zeros hA, e_nat hA, e_ofNat hA, Int.toNat_natCast, copies_flat]
  have o2 := NOwn.zeros h1 (lo := h1.next) (n := nl) (Nat.le_refl _)
  have e2 : Ext h1 (h1.push 6 (flatR (List.replicate nl noRH))) := .push _ _ _
  generalize h1.push 6 (flatR (List.replicate nl noRH)) = h2 at *
  obtain ⟨b, hb⟩ : ∃ v, v = h1.next := ⟨_, rfl⟩
  rw [← hb]
  rw [← hb] at o2
  ((try (conv => cbv)); repeat (refine brk_ok hA ?_; (try (conv => cbv))))
  refine note_loop hA (e1.lowOK hlow) (hl.ext e1) hp hpl h40 pv (fun r hr => ?_) hoks (by omega) (fun h' kn K e' q => ?_) 0 (by omega) (by omega) h2 e2 (by rw [← hb]; rw [← hll] at o2 ⊢; exact o2)
  · obtain ⟨j, hj⟩ := List.getElem?_of_mem hr
    have hjl : j < l.length := (List.getElem?_eq_some_iff.1 hj).1
    have := (hform j (by omega) (by omega)).2.2.2
    unfold rat at this
    rw [Int.toNat_natCast, List.getD, hj] at this
    simp only [Option.getD_some] at this
    unfold kindP at this
    omega
  · ((try (conv => cbv)); repeat (refine brk_ok hA ?_; (try (conv => cbv))))
    exact hQ _ _ _ _ _ h' (e1.trans e') ((q.recs (by unfold capLow slack; omega)).lower e1.next) (.inr ⟨ps, ha, rfl, rfl⟩) (by omega)

end Go.Proofs.Ytopppccddnplkaa
