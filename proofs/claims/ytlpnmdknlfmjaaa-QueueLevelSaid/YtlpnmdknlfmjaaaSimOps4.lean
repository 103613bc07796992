/-
  APPEND AND COPY, IN THE ABSTRACT AND IN THE MODEL; AND ALL OPERATIONS IN ONE THEOREM.
-/
import Derived.Test.YtlpnmdknlfmjaaaSimOps3
namespace Go.Sim
set_option linter.unusedSimpArgs false

variable {P : Program} {w : World} {J : Inj} {s : St}

/-- Cells of a new row: what is related stands at its head. -/
theorem CR.head {g : Nat → Option Loc} {l us : List Value} {rest : Array Value} (h : VGs g l us) : CR g l (us.toArray ++ rest) 0 := by
  intro i v hi
  have hlt : i < us.length := by rw [← h.1]; exact (List.getElem?_eq_some_iff.1 hi).1
  refine ⟨us[i], ?_, h.2 i v _ hi (by simp [hlt])⟩
  rw [Nat.zero_add, Array.getElem?_append_left (by simpa using hlt)]
  simp [hlt]

theorem new_false {es : Nat} {cs : List Value} (h : cs.all cellOK = true) : s.new false es cs = some (.pointer (some ⟨s.h.next, 0, none⟩), { s with h := s.h.push es cs }) := by
  unfold St.new; rw [h]; rfl

/-- A row that grew: the new block, its capacity not known. -/
theorem grown_sim (hR : HR J s w) {size n len newCap : Nat} {e : TypeId} {old news uo un : List Value} {z : Array Value} (hold : VGs J.g old uo) (hnews : VGs J.g news un) (hok : (old ++ news).all cellOK = true)
    (ho : uo.length = len * size) (hu : un.length = n * size) (hz : z.size = size) (hcap : len + n ≤ newCap) (hsm : len + n ≤ 1073741824) :
    ∃ J', Good J s w J' { s with h := s.h.push size (old ++ news) } (w.alloc (.cells (uo.toArray ++ un.toArray ++ Builtin.zeroCells z (newCap - (len + n))) e)) ∧ (∀ t L, J.l t = some L → J'.l t = some L) ∧
      VG J'.g (.slice (some ⟨s.h.next, 0, none⟩) (len + n) (someCap size (len + n))) (.slice (some ⟨w.heap.size, 0, none⟩) (len + n) newCap) ∧ Adds (s.h.next ≤ ·) J.g J'.g ∧ (∀ t L, J'.l t = some L → J.l t = some L) := by
  have hcr : CR J.g (old ++ news) (uo.toArray ++ un.toArray ++ Builtin.zeroCells z (newCap - (len + n))) 0 := by
    have := CR.head (rest := Builtin.zeroCells z (newCap - (len + n))) (hold.append hnews)
    simpa using this
  obtain ⟨J', g1, g2, g3, g4, g6, ga, gb⟩ := hR.new (new_false hok) hcr e
  obtain ⟨_, g8⟩ := g6 rfl
  refine ⟨J', g1, g2, ?_, fun k L hk => (ga k L hk).imp (fun q => q) (fun q => by omega), fun t L ht => (gb t L ht).elim (fun q => q) (fun q => by cases q.1)⟩
  have hsz : (uo.toArray ++ un.toArray ++ Builtin.zeroCells z (newCap - (len + n))).size = newCap * size := by
    have h1 := copies_length z.toList (newCap - (len + n))
    rw [← zeroCells_copies] at h1
    simp only [Array.length_toList, hz] at h1
    simp only [Array.size_append, List.size_toArray, ho, hu, h1]
    rw [← Nat.add_mul, ← Nat.add_mul]
    congr 1
    omega
  rw [hsz] at g8
  have q := VG.sliceI (g := J'.g) ⟨s.h.next, 0, none⟩ ⟨w.heap.size, 0, newCap * size, size⟩ (len + n) (len + n) newCap rfl g8 hcap (someCap_lt hsm) (by simp)
  simpa using q

/-- A row that may have grown, or not: its old block is given up. -/
theorem kept_sim (hR : HR J s w) {size n len c' es : Nat} {a : Addr} {L : Loc} {cs0 old news un : List Value} (hL : J.g a.block = some L) (hlive : s.h.m.get a.block = some (.live true es cs0)) (hes : es = size)
    (hold : readN cs0 a.off (len * size) = some old) (hnews : VGs J.g news un) (hok : news.all cellOK = true) (hu : un.length = n * size) (hcap : len + n ≤ c') (htot : L.o + a.off + c' * L.es ≤ L.tot) (hsm : len + n ≤ 1073741824) :
    ∃ cs e, w.heap[L.b]? = some (.cells cs e (0, 0)) ∧ L.o + a.off + len * size + un.length ≤ cs.size ∧ (∀ v ∈ un, v.oneCell' = true) ∧
    ∃ J', Good J s w J' { s with h := (s.h.kill a.block).push size (old ++ news) } (w.setRow L.b (rowPut cs (L.o + a.off + len * size) un)) ∧ (∀ t L, J.l t = some L → J'.l t = some L) ∧
      VG J'.g (.slice (some ⟨s.h.next, 0, none⟩) (len + n) (someCap size (len + n))) (.slice (some ⟨L.b, L.o + a.off, none⟩) (len + n) c') ∧ Adds (s.h.next ≤ ·) J.g J'.g ∧ (∀ t L, J'.l t = some L → J.l t = some L) := by
  subst hes
  obtain ⟨hes, cs, e, fr, hw, hcr, hfr⟩ := hR.gcon _ _ _ _ _ hL hlive
  obtain rfl := hfr rfl
  obtain ⟨cs2, e2, fr2, hw2, htot2⟩ := hR.gblk _ _ hL
  rw [hw] at hw2
  obtain ⟨rfl, rfl, rfl⟩ : cs = cs2 ∧ e = e2 ∧ (0, 0) = fr2 := by simpa using hw2
  rw [hes] at htot
  have hroom : L.o + a.off + len * es + un.length ≤ cs.size := by
    rw [hu, htot2]
    have : len * es + n * es ≤ c' * es := by rw [← Nat.add_mul]; exact Nat.mul_le_mul_right _ hcap
    omega
  have hone : ∀ v ∈ un, v.oneCell' = true := by
    intro v hvm
    obtain ⟨i, hi⟩ := List.mem_iff_getElem?.1 hvm
    have hlt : i < news.length := by rw [hnews.1]; exact (List.getElem?_eq_some_iff.1 hi).1
    simp only [List.all_eq_true] at hok
    exact (hnews.2 i news[i] v (by simp [hlt]) hi).oneCell (hok _ (List.getElem_mem hlt))
  refine ⟨cs, e, hw, hroom, hone, ?_⟩
  let L' : Loc := ⟨L.b, L.o + a.off, L.tot, es⟩
  let g' : Nat → Option Loc := fun id => if id = s.h.next then some L' else J.g id
  have hblt : a.block < s.h.next := hR.gdom _ _ hL
  have hg' : ∀ id L1, J.g id = some L1 → g' id = some L1 := fun id L1 h1 => by
    have := hR.gdom _ _ h1
    simp only [g', show ¬ id = s.h.next by omega, if_false, h1]
  have hsplit : ∀ id L1, g' id = some L1 → (id = s.h.next ∧ L1 = L') ∨ (id ≠ s.h.next ∧ J.g id = some L1) := fun id L1 h1 => by
    by_cases hid : id = s.h.next
    · left; simp only [g', hid, if_true, Option.some.injEq] at h1; exact ⟨hid, h1.symm⟩
    · right; simp only [g', hid, if_false] at h1; exact ⟨hid, h1⟩
  let cs1 := rowPut cs (L.o + a.off + len * es) un
  have hsz1 : cs1.size = cs.size := rowPut_size hroom
  have hnewrow : (w.setRow L.b cs1).heap[L.b]? = some (.cells cs1 e (0, 0)) := setRow_heap w L.b cs cs1 e _ hw
  have hcr1 : CR g' (old ++ news) cs1 (L.o + a.off) := by
    obtain ⟨r1, r2⟩ := readN_spec hold
    intro i v hi
    by_cases h1 : i < old.length
    · rw [List.getElem?_append_left h1, r2 i (by omega)] at hi
      obtain ⟨c, hc, hg⟩ := hcr _ _ hi
      refine ⟨c, ?_, hg.mono hg'⟩
      rw [rowPut_get hroom, if_neg (by omega), ← hc]
      congr 1; omega
    · rw [List.getElem?_append_right (by omega)] at hi
      have hlt : i - old.length < un.length := by rw [← hnews.1]; exact (List.getElem?_eq_some_iff.1 hi).1
      refine ⟨un[i - old.length], ?_, (hnews.2 _ _ _ hi (by simp [hlt])).mono hg'⟩
      rw [rowPut_get hroom, if_pos ⟨by omega, by omega⟩]
      rw [show L.o + a.off + i - (L.o + a.off + len * es) = i - old.length by omega]
      simp [hlt]
  have hget : ∀ id wr es1 c1, ((s.h.kill a.block).push es (old ++ news)).m.get id = some (.live wr es1 c1) → (id = s.h.next ∧ wr = true ∧ es1 = es ∧ c1 = old ++ news) ∨ (id ≠ s.h.next ∧ id ≠ a.block ∧ s.h.m.get id = some (.live wr es1 c1)) := by
    intro id wr es1 c1 h
    simp only [AHeap.push, AHeap.kill, Tri.get_set] at h
    by_cases h1 : s.h.next = id
    · left; simp only [h1, if_true, Option.some.injEq, Blk.live.injEq] at h; exact ⟨h1.symm, h.1.symm, h.2.1.symm, h.2.2.symm⟩
    · right
      simp only [h1, if_false] at h
      by_cases h2 : a.block = id
      · simp [h2] at h
      · simp only [h2, if_false] at h; exact ⟨Ne.symm h1, Ne.symm h2, h⟩
  refine ⟨⟨g', J.l⟩, ?_, fun t L h => h, ?_, fun k L1 hk => (hsplit k L1 hk).elim (fun q => .inr (by omega)) (fun q => .inl q.2), fun t L h => h⟩
  · refine { hr := ?_, mono := hg', next := by simp [AHeap.push, AHeap.kill], low := Nat.min_le_left _ _, size := by simp, os := rfl, tape := rfl, output := rfl, fresh := ?_, lfresh := fun t L h1 => .inr ⟨t, L, h1, rfl⟩, frame := ?_ }
    · refine { gdom := ?_, gblk := ?_, gcon := ?_, ginj := ?_, ldom := hR.ldom, lcon := ?_, linj := hR.linj, sep := ?_ }
      · intro id L1 h1
        rcases hsplit id L1 h1 with ⟨rfl, _⟩ | ⟨_, h1⟩
        · simp [AHeap.push, AHeap.kill]
        · have := hR.gdom _ _ h1; simp [AHeap.push, AHeap.kill]; omega
      · intro id L1 h1
        rcases hsplit id L1 h1 with ⟨rfl, rfl⟩ | ⟨_, h1⟩
        · exact ⟨cs1, e, (0, 0), hnewrow, by rw [hsz1, htot2]⟩
        · by_cases hb : L1.b = L.b
          · obtain ⟨c2, e2, f2, hx, hy⟩ := hR.gblk _ _ h1
            rw [hb, hw] at hx
            obtain ⟨rfl, rfl, rfl⟩ : cs = c2 ∧ e = e2 ∧ (0, 0) = f2 := by simpa using hx
            exact ⟨cs1, e, (0, 0), by rw [hb]; exact hnewrow, by omega⟩
          · rw [setRow_other w _ _ _ hb]; exact hR.gblk _ _ h1
      · intro id L1 wr es1 c1 h1 h2
        rcases hget _ _ _ _ h2 with ⟨rfl, rfl, rfl, rfl⟩ | ⟨hne, hne2, h2⟩
        · rcases hsplit _ L1 h1 with ⟨_, rfl⟩ | ⟨hne, _⟩
          · exact ⟨rfl, cs1, e, (0, 0), hnewrow, hcr1, fun _ => rfl⟩
          · exact absurd rfl hne
        · rcases hsplit id L1 h1 with ⟨rfl, _⟩ | ⟨_, h1⟩
          · exact absurd rfl hne
          · have hb : L1.b ≠ L.b := fun hb => hne2 (hR.ginj _ _ _ _ _ _ _ _ _ _ h1 hL h2 hlive hb)
            obtain ⟨a1, c9, e9, f9, a2, a3, a4⟩ := hR.gcon _ _ _ _ _ h1 h2
            exact ⟨a1, c9, e9, f9, by rw [setRow_other w _ _ _ hb]; exact a2, a3.mono hg', a4⟩
      · intro id id' L1 L2 wr es1 c1 wr' es2 c2 h1 h2 h3 h4 hb
        rcases hget _ _ _ _ h3 with ⟨rfl, _⟩ | ⟨hne, hne2, h3⟩ <;> rcases hget _ _ _ _ h4 with ⟨rfl, _⟩ | ⟨hne', hne2', h4⟩
        · rfl
        · rcases hsplit _ L1 h1 with ⟨_, rfl⟩ | ⟨hx, _⟩
          · rcases hsplit _ L2 h2 with ⟨hx, _⟩ | ⟨_, h2⟩
            · exact absurd hx hne'
            · exact absurd (hR.ginj _ _ _ _ _ _ _ _ _ _ h2 hL h4 hlive hb.symm) hne2'
          · exact absurd rfl hx
        · rcases hsplit _ L2 h2 with ⟨_, rfl⟩ | ⟨hx, _⟩
          · rcases hsplit _ L1 h1 with ⟨hx, _⟩ | ⟨_, h1⟩
            · exact absurd hx hne
            · exact absurd (hR.ginj _ _ _ _ _ _ _ _ _ _ h1 hL h3 hlive hb) hne2
          · exact absurd rfl hx
        · rcases hsplit _ L1 h1 with ⟨hx, _⟩ | ⟨_, h1⟩
          · exact absurd hx hne
          · rcases hsplit _ L2 h2 with ⟨hx, _⟩ | ⟨_, h2⟩
            · exact absurd hx hne'
            · exact hR.ginj _ _ _ _ _ _ _ _ _ _ h1 h2 h3 h4 hb
      · intro t L1 h1
        obtain ⟨c9, e9, a1, a2⟩ := hR.lcon _ _ h1
        have hb : L1.b ≠ L.b := fun hb => hR.sep _ _ _ _ hL h1 hb.symm
        exact ⟨c9, e9, by rw [setRow_other w _ _ _ hb]; exact a1, fun c hc => (a2 c hc).mono hg'⟩
      · intro id t L1 L2 h1 h2 hb
        rcases hsplit id L1 h1 with ⟨rfl, rfl⟩ | ⟨_, h1⟩
        · exact hR.sep _ _ _ _ hL h2 hb
        · exact hR.sep _ _ _ _ h1 h2 hb
    · intro id L1 h1 h2
      rcases hsplit id L1 h1 with ⟨rfl, rfl⟩ | ⟨_, h1⟩
      · exact .inr ⟨a.block, L, hL, rfl, Nat.min_le_right _ _⟩
      · rw [h2] at h1; cases h1
    · intro b hb hg hl
      have : b ≠ L.b := fun e => by
        have h1 := hg a.block L hL e.symm
        have h2 : Nat.min s.h.low a.block ≤ a.block := Nat.min_le_right _ _
        simp only [AHeap.push, AHeap.kill] at h1
        omega
      exact setRow_other w _ _ _ this
  · have q := VG.sliceI (g := g') ⟨s.h.next, 0, none⟩ L' (len + n) (len + n) c' rfl (by simp [g']) hcap (someCap_lt hsm) (by simpa [L', hes] using htot)
    simpa [L'] using q

/-- What an operation that is no call comes to. -/
def Sim1 (P : Program) (J : Inj) (s : St) (w : World) (x : Sem Value) (v : Value) (s' : St) (R Rl : Nat → Prop) : Prop :=
  ∃ c w' J', x.run P w = .ok c w' ∧ Good J s w J' s' w' ∧ (∀ t L, J.l t = some L → J'.l t = some L) ∧ VR J' v c ∧ s'.env = s.env ∧ Adds R J.g J'.g ∧ Adds Rl J.l J'.l

theorem Sim1.still {x : Sem Value} {v c : Value} {R Rl : Nat → Prop} (hR : HR J s w) (h : x.run P w = .ok c w) (hv : VR J v c) : Sim1 P J s w x v s R Rl := ⟨c, w, J, h, .refl hR, fun _ _ h => h, hv, rfl, .refl _ _, .refl _ _⟩

theorem withHeap_spec {r : Option (Value × AHeap)} {v : Value} {s' : St} (h : withHeap s r = some (v, s')) : ∃ h', r = some (v, h') ∧ s' = { s with h := h' } := by
  unfold withHeap at h
  split at h
  · simp only [Option.some.injEq, Prod.mk.injEq] at h
    obtain ⟨rfl, rfl⟩ := h
    exact ⟨_, rfl, rfl⟩
  · cases h

theorem appendA_sim (hR : HR J s w) {ts : List TypeId} {args cargs : List Value} {ty : TypeId} {v : Value} {s' : St} (h0 : withHeap s (appendH P s.h ts args) = some (v, s')) (ha : args.length = cargs.length ∧ ∀ (i : Nat) (a b : Value), args[i]? = some a → cargs[i]? = some b → VR J a b) :
    Sim1 P J s w (Builtin.append_ ts.toArray ty cargs.toArray) v s' (s.h.next ≤ ·) (fun _ => False) := by
  obtain ⟨hp', h, rfl⟩ := withHeap_spec h0
  clear h0
  unfold appendH at h
  split at h
  · rename_i t xt base len c x
    obtain ⟨c0, c1, rfl⟩ : ∃ c0 c1, cargs = [c0, c1] := by
      have := ha.1
      match cargs, this with
      | [c0, c1], _ => exact ⟨c0, c1, rfl⟩
    have hs := ha.2 0 _ _ rfl rfl
    have hx := ha.2 1 _ _ rfl rfl
    have hsg := hs.of_ne (fun a => by simp)
    split at h
    · rename_i e hu
      split at h
      · rename_i size by_ xd z hn hby hxu hz
        split at h
        · rename_i n news hnews
          obtain ⟨us, hus, hN0⟩ := newsA_sim (P := P) hR hnews hx
          have hN : News P w (isIntDesc (some xd)) e size n c1 us := hN0 w.drawn
          have hN1 := hN0 (w.drawn + 1)
          obtain ⟨hfl, it, hit, hiz⟩ := zeroT_spec hz
          obtain ⟨it2, hit2, hbt⟩ := bytesT_spec hby
          rw [hit] at hit2
          obtain rfl := Option.some.inj hit2
          cases hroomB : Nat.ble (len + n) (capLow c) with
          | true =>
            rw [hroomB] at h
            simp only [cond_true] at h
            have hroom := Nat.le_of_ble_eq_true hroomB
            cases base with
            | none =>
              dsimp only at h
              simp only [Option.some.injEq, Prod.mk.injEq] at h
              obtain ⟨rfl, rfl⟩ := h
              obtain ⟨rfl, rfl, rfl⟩ := hsg.nilSlice
              rw [capLow_lt slack_pos] at hroom
              have hn0 : n = 0 := by omega
              subst hn0
              refine Sim1.still hR (c := .slice none 0 0) ?_ (.glob _ _ (.flat _ rfl))
              have := append_room (P := P) (ty := ty) (base := none) (len := 0) (c := 0) hu hxu hn hN (by omega)
              simpa using this
            | some a =>
              dsimp only at h
              split at h
              · rename_i s2 hw
                simp only [Option.some.injEq, Prod.mk.injEq] at h
                obtain ⟨rfl, rfl⟩ := h
                obtain ⟨hsp, L, c', hL, rfl, q⟩ := hsg.sliceL
                have hcc : capLow c ≤ c' := by
                  obtain ⟨_, _, e9, q9⟩ := hsg.sliceAny
                  simp only [Value.slice.injEq, true_and] at e9
                  rw [e9.2]; exact q9
                obtain ⟨w', e1, e2, e3, _⟩ := hR.write (P := P) (a := aadd a (len * size)) (L := L) (by simp [Inj.at, aadd, hsp, hL]) (writeG_spec hw).2 hus
                refine ⟨.slice (some ⟨L.b, L.o + a.off, none⟩) (len + n) c', w', J, ?_, e2, fun _ _ h => h, ?_, e3, .refl _ _, .refl _ _⟩
                · have := append_room (P := P) (ty := ty) (base := some ⟨L.b, L.o + a.off, none⟩) (len := len) (c := c') hu hxu hn hN (by omega)
                  rw [show ([t, xt] : List TypeId).toArray = #[t, xt] from rfl, show ([Value.slice (some ⟨L.b, L.o + a.off, none⟩) len c', c1] : List Value).toArray = #[.slice (some ⟨L.b, L.o + a.off, none⟩) len c', c1] from rfl, this]
                  simp only [add_none]
                  have e1' : (storeCells ⟨L.b, L.o + a.off + len * size, none⟩ us).run P w = .ok () w' := by simpa [aadd, Nat.add_assoc] using e1
                  rw [e1']
                  rfl
                · rcases q with ⟨q, rfl⟩ | ⟨m, rfl, q1, q2, q3⟩
                  · exact .glob _ _ (.sliceX a L _ _ hsp hL q)
                  · exact .glob _ _ (.sliceI a L _ _ _ hsp hL q2 q1 q3)
              · cases h
          | false =>
            rw [hroomB] at h
            simp only [cond_false] at h
            have hroom : capLow c < len + n := by
              rcases Nat.lt_or_ge (capLow c) (len + n) with q | q
              · exact q
              · rw [ble_true q] at hroomB; cases hroomB
            cases hcond : (Nat.ble (len + n) 1073741824 && Nat.ble by_ 16384 && news.all cellOK && Nat.beq z.cells.toList.length size && Nat.beq news.length (n * size)) with
            | false => rw [hcond] at h; simp at h
            | true =>
              rw [hcond] at h
              simp only [cond_true] at h
              simp only [Bool.and_eq_true] at hcond
              obtain ⟨⟨⟨⟨d1, d2⟩, d3⟩, d4⟩, d5⟩ := hcond
              have hneed := Nat.le_of_ble_eq_true d1
              have hby2 := Nat.le_of_ble_eq_true d2
              have hzl := Nat.eq_of_beq_eq_true d4
              have hnl := Nat.eq_of_beq_eq_true d5
              have hul : us.length = n * size := by rw [← hus.1, hnl]
              cases base with
              | none =>
                obtain ⟨rfl, rfl, rfl⟩ := hsg.nilSlice
                simp only [Nat.beq_refl, cond_true, Option.some.injEq, Prod.mk.injEq] at h
                obtain ⟨rfl, rfl⟩ := h
                rw [capLow_lt slack_pos] at hroom
                obtain ⟨newCap, hcap, hrun⟩ := append_grow (P := P) (ty := ty) (base := none) (len := 0) (c := 0) (old := []) hu hxu hn hit (by omega) hz hN hN1 (by simp [Builtin.firstCells]) hroom hneed
                obtain ⟨J', f1, f2, f3, fa, fb⟩ := grown_sim (hR.drew (d := w.drawn + 1)) (size := size) (n := n) (len := 0) (newCap := newCap) (e := e) (old := []) (uo := []) (z := z.cells) (.nil _) hus (by simpa using d3) (by simp) hul (by simpa using hzl) hcap hneed
                exact ⟨_, _, J', hrun, (Good.drew hR).trans f1, f2, .glob _ _ f3, rfl, fa, fun t L h => .inl (fb t L h)⟩
              | some a =>
                obtain ⟨hsp, L, c', hL, rfl, q⟩ := hsg.sliceL
                dsimp only at h
                split at h
                · rename_i old hsp' hold0
                  have hold := (readG_spec hold0).2
                  have hLa : J.at a = some L := by simp [Inj.at, hsp, hL]
                  obtain ⟨uo, o1, o2, o3⟩ := hR.read hLa hold
                  have holdrun : ∀ c9, (Builtin.firstCells size len (.slice (some ⟨L.b, L.o + a.off, none⟩) len c9)).run P { w with drawn := w.drawn + 1 } = .ok uo.toArray { w with drawn := w.drawn + 1 } := fun c9 => by
                    have := run_loadCells_list (P := P) { w with drawn := w.drawn + 1 } ⟨L.b, L.o + a.off, none⟩ uo o3
                    rw [o2] at this
                    simp only [Builtin.firstCells]
                    exact this
                  have hread : ∃ cs0 wr0 es0, s.h.m.get a.block = some (.live wr0 es0 cs0) ∧ readN cs0 a.off (len * size) = some old := by
                    simp only [St.read, St.cells?, hsp] at hold
                    split at hold
                    · rename_i cs0 hcs0
                      obtain ⟨wr0, es0, hm0⟩ := live_of_cells? hcs0
                      exact ⟨cs0, wr0, es0, hm0, hold⟩
                    · cases hold
                  obtain ⟨cs0, wr0, es0, hm0, hrd⟩ := hread
                  cases hex : Nat.blt c slack with
                  | true =>
                    rw [hex] at h
                    simp only [cond_true] at h
                    cases hoo : old.all cellOK with
                    | false => rw [hoo] at h; simp at h
                    | true =>
                    rw [hoo] at h
                    simp only [cond_true, Option.some.injEq, Prod.mk.injEq] at h
                    obtain ⟨rfl, rfl⟩ := h
                    have hcs : c < slack := Nat.le_of_ble_eq_true hex
                    have hc' : c' = c := by
                      rcases q with ⟨_, rfl⟩ | ⟨m, rfl, _⟩
                      · rfl
                      · have := someCap_ge L.es m; omega
                    subst hc'
                    rw [capLow_lt hcs] at hroom
                    obtain ⟨newCap, hcap, hrun⟩ := append_grow (P := P) (ty := ty) (base := some ⟨L.b, L.o + a.off, none⟩) (len := len) (c := c') (old := uo) hu hxu hn hit (by omega) hz hN hN1 (holdrun c') hroom hneed
                    obtain ⟨J', f1, f2, f3, fa, fb⟩ := grown_sim (hR.drew (d := w.drawn + 1)) (size := size) (n := n) (len := len) (newCap := newCap) (e := e) (z := z.cells) o1 hus (by rw [List.all_append, hoo, d3]; rfl) o2 hul (by simpa using hzl) hcap hneed
                    exact ⟨_, _, J', hrun, (Good.drew hR).trans f1, f2, .glob _ _ f3, rfl, fa, fun t L h => .inl (fb t L h)⟩
                  | false =>
                    rw [hex] at h
                    simp only [cond_false] at h
                    have hcs : slack ≤ c := by
                      rcases Nat.lt_or_ge c slack with q | q
                      · rw [blt_true q] at hex; cases hex
                      · exact q
                    cases hoo : old.all cellOK with
                    | false => rw [hoo] at h; simp at h
                    | true =>
                    rw [hoo] at h
                    simp only [cond_true] at h
                    split at h
                    · rename_i es cs9 hlive
                      cases hes : Nat.beq es size with
                      | false => rw [hes] at h; simp at h
                      | true =>
                        rw [hes] at h
                        simp only [cond_true, Option.some.injEq, Prod.mk.injEq] at h
                        obtain ⟨rfl, rfl⟩ := h
                        rw [hm0] at hlive
                        obtain ⟨rfl, rfl, rfl⟩ : wr0 = true ∧ es0 = es ∧ cs0 = cs9 := by simpa using hlive
                        rcases q with ⟨q, _⟩ | ⟨m, rfl, q1, q2, q3⟩
                        · omega
                        · rw [capLow_some q1] at hroom
                          by_cases hfit : len + n ≤ c'
                          · obtain ⟨cs, e9, k1, k2, k3, J', k4, k5, k6, ka, kb⟩ := kept_sim hR hL hm0 (Nat.eq_of_beq_eq_true hes) hrd hus d3 hul hfit q3 hneed
                            refine ⟨_, _, J', ?_, k4, k5, .glob _ _ k6, rfl, ka, fun t L h => .inl (kb t L h)⟩
                            have := append_room (P := P) (ty := ty) (base := some ⟨L.b, L.o + a.off, none⟩) (len := len) (c := c') hu hxu hn hN hfit
                            rw [show ([t, xt] : List TypeId).toArray = #[t, xt] from rfl, show ([Value.slice (some ⟨L.b, L.o + a.off, none⟩) len c', c1] : List Value).toArray = #[.slice (some ⟨L.b, L.o + a.off, none⟩) len c', c1] from rfl, this]
                            simp only [add_none]
                            have e1' := run_storeCells_at (P := P) L.b (L.o + a.off + len * size) e9 us 0 cs w k1 (by simpa using k2) k3
                            simp only [Nat.add_zero] at e1'
                            rw [e1']
                            rfl
                          · obtain ⟨newCap, hcap, hrun⟩ := append_grow (P := P) (ty := ty) (base := some ⟨L.b, L.o + a.off, none⟩) (len := len) (c := c') (old := uo) hu hxu hn hit (by omega) hz hN hN1 (holdrun c') (by omega) hneed
                            have hk := Good.kill hR (hR.gdom _ _ hL)
                            obtain ⟨J', f1, f2, f3, fa, fb⟩ := grown_sim (hk.hr.drew (d := w.drawn + 1)) (size := size) (n := n) (len := len) (newCap := newCap) (e := e) (z := z.cells) o1 hus (by rw [List.all_append, hoo, d3]; rfl) o2 hul (by simpa using hzl) hcap hneed
                            exact ⟨_, _, J', hrun, (hk.trans (Good.drew hk.hr)).trans f1, f2, .glob _ _ f3, rfl, fa, fun t L h => .inl (fb t L h)⟩
                    · cases h
                · cases h
        · cases h
      · cases h
    · cases h
  · cases h

theorem copyA_sim (hR : HR J s w) {ts : List TypeId} {args cargs : List Value} {ty : TypeId} {v : Value} {s' : St} (h0 : withHeap s (copyH P s.h ts args) = some (v, s')) (ha : args.length = cargs.length ∧ ∀ (i : Nat) (a b : Value), args[i]? = some a → cargs[i]? = some b → VR J a b) :
    Sim1 P J s w (Builtin.copy_ ts.toArray ty cargs.toArray) v s' (s.h.next ≤ ·) (fun _ => False) := by
  obtain ⟨hp', h, rfl⟩ := withHeap_spec h0
  clear h0
  unfold copyH at h
  split at h
  · rename_i t xt base len c x
    obtain ⟨c0, c1, rfl⟩ : ∃ c0 c1, cargs = [c0, c1] := by
      have := ha.1
      match cargs, this with
      | [c0, c1], _ => exact ⟨c0, c1, rfl⟩
    have hs := ha.2 0 _ _ rfl rfl
    have hx := ha.2 1 _ _ rfl rfl
    have hsg := hs.of_ne (fun a => by simp)
    split at h
    · rename_i e hu
      split at h
      · rename_i size hn
        split at h
        · rename_i b n cb
          obtain ⟨hsb, Lb, cb', hLb, rfl, _⟩ := (hx.of_ne (fun a => by simp)).sliceL
          split at h
          · rename_i l hl
            obtain ⟨l', r1, r2, r3⟩ := hR.read (a := b) (L := Lb) (by simp [Inj.at, hsb, hLb]) (readG_spec hl).2
            have hrd := run_loadCells_list (P := P) w ⟨Lb.b, Lb.o + b.off, none⟩ l' r3
            rw [r2] at hrd
            cases base with
            | none =>
              dsimp only at h
              simp only [Option.some.injEq, Prod.mk.injEq] at h
              obtain ⟨rfl, rfl⟩ := h
              obtain ⟨rfl, rfl, rfl⟩ := hsg.nilSlice
              refine Sim1.still hR (c := .int .i64 (Nat.min n 0 : Nat)) ?_ (.glob _ _ (.flat _ rfl))
              have hrd' : (loadCells ⟨Lb.b, Lb.o + b.off, none⟩ (n.min 0 * size)).run P w = .ok l'.toArray w := hrd
              simp only [Builtin.copy_, List.getElem?_toArray, List.getElem?_cons_zero, List.getElem?_cons_succ, Sem.run_bind, run_und hu, Result.andThen_ok, Builtin.lenOf, Sem.run_pure, run_sizeT hn, Builtin.firstCells, hrd', goInt]
            | some a =>
              dsimp only at h
              split at h
              · rename_i s2 hw
                simp only [Option.some.injEq, Prod.mk.injEq] at h
                obtain ⟨rfl, rfl⟩ := h
                obtain ⟨hsp, L, c', hL, rfl, _⟩ := hsg.sliceL
                obtain ⟨w', e1, e2, e3, _⟩ := hR.write (P := P) (a := a) (L := L) (by simp [Inj.at, hsp, hL]) (writeG_spec hw).2 r1
                refine ⟨.int .i64 (Nat.min n len : Nat), w', J, ?_, e2, fun _ _ h => h, .glob _ _ (.flat _ rfl), e3, .refl _ _, .refl _ _⟩
                simp only [Builtin.copy_, List.getElem?_toArray, List.getElem?_cons_zero, List.getElem?_cons_succ, Sem.run_bind, run_und hu, Result.andThen_ok, Builtin.lenOf, Sem.run_pure, run_sizeT hn, Builtin.firstCells, hrd, goInt, e1]
              · cases h
          · cases h
        · rename_i n cb
          cases hb : Nat.beq n 0 with
          | false => rw [hb] at h; simp at h
          | true =>
            rw [hb] at h
            simp only [cond_true, Option.some.injEq, Prod.mk.injEq] at h
            obtain ⟨rfl, rfl⟩ := h
            obtain ⟨rfl, rfl, rfl⟩ := (hx.of_ne (fun a => by simp)).nilSlice
            obtain ⟨a', c', rfl, _⟩ := hsg.sliceAny
            refine Sim1.still hR (c := .int .i64 0) ?_ (.glob _ _ (.flat _ rfl))
            simp only [Builtin.copy_, List.getElem?_toArray, List.getElem?_cons_zero, List.getElem?_cons_succ, Sem.run_bind, run_und hu, Result.andThen_ok, Builtin.lenOf, Sem.run_pure, run_sizeT hn, Builtin.firstCells, goInt]
            have h0 : Nat.min 0 len = 0 := Nat.zero_min _
            cases a' with
            | none => simp [h0]
            | some a => simp [h0, storeCells]
        · cases h
      · cases h
    · cases h
  · cases h

theorem storeA_sim (hR : HR J s w) {t : TypeId} {a : Addr} {L : Loc} (hL : J.at a = some L) {v cv : Value} {s' : St} (h : storeA P s t a v = some s') (hv : VR J v cv) :
    ∃ w', (storeVar t ⟨L.b, L.o + a.off, none⟩ cv).run P w = .ok () w' ∧ Good J s w J s' w' ∧ s'.env = s.env := by
  unfold storeA at h
  split at h
  · rename_i n hn
    cases hb : Nat.beq v.cells.toList.length n with
    | false => rw [hb] at h; simp at h
    | true =>
      rw [hb] at h
      simp only [cond_true] at h
      have hlen := Nat.eq_of_beq_eq_true hb
      have hok : v.cells.toList.all cellOK = true := by
        unfold St.write at h
        cases ho : v.cells.toList.all cellOK with
        | true => rfl
        | false => rw [ho] at h; simp at h
      have hvc := hv.cells hok
      obtain ⟨w', e1, e2, e3, _⟩ := hR.write (P := P) hL h hvc
      refine ⟨w', ?_, e2, e3⟩
      have hsz : cv.cells.size = n := by have := hvc.1; simp at this hlen; omega
      simp only [storeVar, Sem.run_bind, run_sizeT hn, Result.andThen_ok]
      rw [Sem.run_ite, if_neg (by simp [hsz])]
      simpa using e1
  · cases h

/-! ### Operands -/

/-- The operands that an operation looks at are related. -/
def EvOK (J : Inj) (s : St) (a : Act) (l : List Operand) : Prop := ∀ x v, x ∈ l → evalA s x = some v → VR J v (a.eval x)

theorem ER.ev {a : Act} (h : ER J s a) (l : List Operand) : EvOK J s a l := fun _ _ _ hx => h.eval hx
theorem EvOK.tail {a : Act} {x : Operand} {l : List Operand} (h : EvOK J s a (x :: l)) : EvOK J s a l := fun y v hy hv => h y v (List.mem_cons_of_mem _ hy) hv
theorem EvOK.sub {a : Act} {l l' : List Operand} (h : EvOK J s a l) (hl : ∀ x ∈ l', x ∈ l) : EvOK J s a l' := fun y v hy hv => h y v (hl y hy) hv

theorem evalsA_sim {a : Act} : ∀ (l : List Operand) (_ : EvOK J s a l) (vs : List Value), evalsA s l = some vs → vs.length = (l.map a.eval).length ∧ ∀ (i : Nat) (x y : Value), vs[i]? = some x → (l.map a.eval)[i]? = some y → VR J x y
  | [], _, vs, h => by simp only [evalsA, Option.some.injEq] at h; subst h; exact ⟨rfl, fun i x y h => by simp at h⟩
  | o :: l, hE, vs, h => by
    simp only [evalsA] at h
    split at h
    · rename_i v hv
      split at h
      · rename_i r hr
        simp only [Option.some.injEq] at h; subst h
        obtain ⟨h1, h2⟩ := evalsA_sim l hE.tail r hr
        refine ⟨by simp at h1 ⊢; exact h1, fun i x y hx hy => ?_⟩
        cases i with
        | zero => simp at hx hy; subst hx; subst hy; exact hE _ _ (by simp) hv
        | succ i => simp only [List.getElem?_cons_succ, List.map_cons] at hx hy; exact h2 i x y hx hy
      · cases h
    · cases h

theorem evalParts_sim {a : Act} : ∀ (l : List (Nat × Operand)) (_ : EvOK J s a (l.map (·.2))) (vs : List (Nat × Value)), evalParts s l = some vs → PartsVR J vs (l.map fun (i, x) => (i, a.eval x))
  | [], _, vs, h => by simp only [evalParts, Option.some.injEq] at h; subst h; exact ⟨rfl, fun i x y h => by simp at h⟩
  | (k, o) :: l, hE, vs, h => by
    simp only [evalParts] at h
    split at h
    · rename_i v hv
      split at h
      · rename_i r hr
        simp only [Option.some.injEq] at h; subst h
        obtain ⟨h1, h2⟩ := evalParts_sim l (EvOK.tail hE) r hr
        refine ⟨by simp at h1 ⊢; exact h1, fun i x y hx hy => ?_⟩
        cases i with
        | zero => simp at hx hy; subst hx; subst hy; exact ⟨rfl, hE _ _ (by simp) hv⟩
        | succ i => simp only [List.getElem?_cons_succ, List.map_cons] at hx hy; exact h2 i x y hx hy
      · cases h
    · cases h

theorem evalOpt_sim {a : Act} {x : Option Operand} (hE : EvOK J s a x.toList) {v : Option Value} (h : evalOpt s x = some v) : OptVR J v (x.map a.eval) := by
  cases x with
  | none => simp only [evalOpt, Option.some.injEq] at h; subst h; trivial
  | some x =>
    simp only [evalOpt] at h
    split at h
    · rename_i u hu; simp only [Option.some.injEq] at h; subst h; exact hE _ _ (by simp) hu
    · cases h

theorem VRs_VGs {l : List Value} {c : List Value} (h : l.length = c.length ∧ ∀ (i : Nat) (x y : Value), l[i]? = some x → c[i]? = some y → VR J x y) (hn : l.all noLoc = true) : VGs J.g l c :=
  ⟨h.1, fun i x y hx hy => (h.2 i x y hx hy).of_noLoc (by simp only [List.all_eq_true] at hn; exact hn x (List.mem_of_getElem? hx))⟩

/-- What an operation of the model comes to. -/
def SimOp (P : Program) (J : Inj) (s : St) (w : World) (x : Sem Next) (v : Value) (s' : St) (R Rl : Nat → Prop) : Prop :=
  ∃ n c w' J', x.run P w = .ok n w' ∧ (n = .value c ∨ (n = .skip ∧ c = undef)) ∧ Good J s w J' s' w' ∧ (∀ t L, J.l t = some L → J'.l t = some L) ∧ VR J' v c ∧ s'.env = s.env ∧ Adds R J.g J'.g ∧ Adds Rl J.l J'.l

theorem Sim1.op {x : Sem Value} {v : Value} {s' : St} {R Rl : Nat → Prop} (h : Sim1 P J s w x v s' R Rl) : SimOp P J s w (x >>= fun u => Pure.pure (Next.value u)) v s' R Rl := by
  obtain ⟨c, w', J', h1, h2, h3, h4, h5⟩ := h
  exact ⟨.value c, c, w', J', by simp [h1], .inl rfl, h2, h3, h4, h5⟩

theorem opA_sim {a : Act} {mk : Maker} {loc : Bool} {o : Oper} {v : Value} {s' : St} (hR : HR J s w) (hM : NewOK J s w mk) (hE : EvOK J s a o.op.operands.toList) (hK : ∀ {loc : Bool} {es : Nat} {cells : List Value} {r : Value × St}, mk loc es cells = some r → cells.all cellOK = true) (h : opA P mk loc o.op s = some (v, s')) : SimOp P J s w (execOp a.eval o) v s' (fun k => (newG o.op loc = true ∧ NewBy mk k) ∨ (atLarge o.op = true ∧ s.h.next ≤ k)) (fun t => newL o.op loc = true ∧ NewByL mk t) := by
  unfold opA at h
  unfold execOp
  have ev : ∀ {x : Operand} {v : Value}, evalA s x = some v → x ∈ o.op.operands.toList → VR J v (a.eval x) := fun h1 h2 => hE _ _ h2 h1
  split at h
  · -- move
    rename_i x ho
    simp only [ho]
    split at h
    · rename_i u hu
      simp only [Option.some.injEq, Prod.mk.injEq] at h; obtain ⟨rfl, rfl⟩ := h
      exact ⟨.value (a.eval x), a.eval x, w, J, by simp, .inl rfl, .refl hR, fun _ _ h => h, ev hu (by simp [ho, Op.operands]), rfl, .refl _ _, .refl _ _⟩
    · cases h
  · -- assign
    rename_i x ho
    simp only [ho]
    split at h
    · rename_i u hu
      simp only [Option.some.injEq, Prod.mk.injEq] at h; obtain ⟨rfl, rfl⟩ := h
      exact ⟨.value (a.eval x), a.eval x, w, J, by simp, .inl rfl, .refl hR, fun _ _ h => h, ev hu (by simp [ho, Op.operands]), rfl, .refl _ _, .refl _ _⟩
    · cases h
  · -- pick
    rename_i c x y ho
    simp only [ho]
    split at h
    · rename_i hc
      have hcv := ((ev hc (by simp [ho, Op.operands])).of_ne (fun a => by simp)).bool
      split at h
      · rename_i u hu
        simp only [Option.some.injEq, Prod.mk.injEq] at h; obtain ⟨rfl, rfl⟩ := h
        exact ⟨.value (a.eval x), a.eval x, w, J, by simp [asBool, hcv], .inl rfl, .refl hR, fun _ _ h => h, ev hu (by simp [ho, Op.operands]), rfl, .refl _ _, .refl _ _⟩
      · cases h
    · rename_i hc
      have hcv := ((ev hc (by simp [ho, Op.operands])).of_ne (fun a => by simp)).bool
      split at h
      · rename_i u hu
        simp only [Option.some.injEq, Prod.mk.injEq] at h; obtain ⟨rfl, rfl⟩ := h
        exact ⟨.value (a.eval y), a.eval y, w, J, by simp [asBool, hcv], .inl rfl, .refl hR, fun _ _ h => h, ev hu (by simp [ho, Op.operands]), rfl, .refl _ _, .refl _ _⟩
      · cases h
    · cases h
  · -- alloc
    rename_i e ho
    simp only [ho]
    split at h
    · rename_i z n hz hn
      obtain ⟨hfl, _⟩ := zeroT_spec hz
      obtain ⟨J', g1, g2, g3, g4, _, ga, gb⟩ := hM _ _ _ _ _ _ e h (CR.of_VGs (flat_VGs hfl))
      refine Sim1.op ⟨_, _, J', ?_, g1, g2, g3, g4, ga.mono (fun _ q => .inl ⟨by simp [newG, q.1], q.2⟩), gb.mono (fun _ q => ⟨by simp [newL, q.1], q.2⟩)⟩
      simp only [Instr.alloc, Sem.run_bind, run_zeroT hz, Result.andThen_ok, newVar, newRow, run_newObj, Sem.run_pure]
      simp [World.alloc_eq]
    · cases h
  · -- box
    rename_i e x ho
    simp only [ho]
    split at h
    · rename_i u n hu hn
      have hok : u.cells.toList.all cellOK = true := hK h
      have hcr := CR.of_VGs ((ev hu (by simp [ho, Op.operands])).cells hok)
      obtain ⟨J', g1, g2, g3, g4, _, ga, gb⟩ := hM _ _ _ _ _ _ e h hcr
      refine Sim1.op ⟨_, _, J', ?_, g1, g2, g3, g4, ga.mono (fun _ q => .inl ⟨by simp [newG, q.1], q.2⟩), gb.mono (fun _ q => ⟨by simp [newL, q.1], q.2⟩)⟩
      simp only [Instr.box, Sem.run_bind, Result.andThen_ok, newVar, newRow, run_newObj, Sem.run_pure]
      simp [World.alloc_eq]
    · cases h
  · -- build
    rename_i t parts ho
    simp only [ho]
    split at h
    · rename_i l hl
      split at h
      · rename_i u hu
        simp only [Option.some.injEq, Prod.mk.injEq] at h; obtain ⟨rfl, rfl⟩ := h
        obtain ⟨c, e1, e2⟩ := buildA_sim (P := P) (w := w) (cparts := parts.map fun (i, x) => (i, a.eval x)) hu (by have := evalParts_sim parts.toList (hE.sub (by simp [ho, Op.operands])) _ hl; simpa using this)
        exact Sim1.op (Sim1.still hR e1 (.glob _ _ e2))
      · cases h
    · cases h
  · -- buildSlice
    rename_i t len parts ho
    simp only [ho]
    split at h
    · rename_i l hl
      obtain ⟨c, w', J', e1, e2, e3, e4, e5, ea, eb⟩ := buildSliceA_sim (P := P) hM (cparts := parts.map fun (i, x) => (i, a.eval x)) h (by have := evalParts_sim parts.toList (hE.sub (by simp [ho, Op.operands])) _ hl; simpa using this)
      exact Sim1.op ⟨c, w', J', e1, e2, e3, .glob _ _ e4, e5, ea.mono (fun _ q => .inl ⟨rfl, q⟩), eb.mono (fun _ q => q.elim)⟩
    · cases h
  · -- load
    rename_i t x ho
    simp only [ho]
    split at h
    · rename_i ad hu
      split at h
      · rename_i u hv
        simp only [Option.some.injEq, Prod.mk.injEq] at h; obtain ⟨rfl, rfl⟩ := h
        obtain ⟨L, hL, hc⟩ := (ev hu (by simp [ho, Op.operands])).ptrL
        obtain ⟨c, e1, e2⟩ := loadA_sim (P := P) hR hL hv
        exact Sim1.op (Sim1.still hR (c := c) (by simp [Instr.loadAt, hc, Instr.sureAddr, e1]) (.glob _ _ e2))
      · cases h
    · cases h
  · -- store
    rename_i t x y ho
    simp only [ho]
    split at h
    · rename_i ad u hx hu
      split at h
      · rename_i s2 hs2
        simp only [Option.some.injEq, Prod.mk.injEq] at h; obtain ⟨rfl, rfl⟩ := h
        obtain ⟨L, hL, hc⟩ := (ev hx (by simp [ho, Op.operands])).ptrL
        obtain ⟨w', e1, e2, e3⟩ := storeA_sim (P := P) hR hL hs2 (ev hu (by simp [ho, Op.operands]))
        exact ⟨.skip, undef, w', J, by simp [Instr.storeAt, hc, Instr.sureAddr, e1], .inr ⟨rfl, rfl⟩, e2, fun _ _ h => h, .glob _ _ (VG.of_flat rfl), e3, .refl _ _, .refl _ _⟩
      · cases h
    · cases h
  · -- nilCheck
    rename_i x ho
    simp only [ho]
    split at h
    · rename_i ad hu
      simp only [Option.some.injEq, Prod.mk.injEq] at h; obtain ⟨rfl, rfl⟩ := h
      have hv := ev hu (by simp [ho, Op.operands])
      obtain ⟨L, hL, hc⟩ := hv.ptrL
      exact ⟨.value (a.eval x), a.eval x, w, J, by simp [hc], .inl rfl, .refl hR, fun _ _ h => h, hv, rfl, .refl _ _, .refl _ _⟩
    · rename_i f first cap hu
      simp only [Option.some.injEq, Prod.mk.injEq] at h; obtain ⟨rfl, rfl⟩ := h
      have hv := ev hu (by simp [ho, Op.operands])
      obtain ⟨x', y', hc, _, _⟩ := (hv.of_ne (fun a => by simp)).funcL
      exact ⟨.value (a.eval x), a.eval x, w, J, by simp [hc], .inl rfl, .refl hR, fun _ _ h => h, hv, rfl, .refl _ _, .refl _ _⟩
    · cases h
  · -- binOp
    rename_i op t x y yt ho
    simp only [ho]
    split at h
    · rename_i u1 u2 h1 h2
      split at h
      · rename_i u hu
        simp only [Option.some.injEq, Prod.mk.injEq] at h; obtain ⟨rfl, rfl⟩ := h
        obtain ⟨e1, e2⟩ := binA_sim (P := P) (w := w) (X := x) (Y := y) hu (ev h1 (by simp [ho, Op.operands])) (ev h2 (by simp [ho, Op.operands]))
        exact Sim1.op (Sim1.still hR e1 (.glob _ _ (.flat _ e2)))
      · cases h
    · cases h
  · -- unOp
    rename_i op t x ho
    simp only [ho]
    split at h
    · rename_i u1 h1
      split at h
      · rename_i u hu
        simp only [Option.some.injEq, Prod.mk.injEq] at h; obtain ⟨rfl, rfl⟩ := h
        obtain ⟨e1, e2⟩ := unA_sim (P := P) (w := w) hu (ev h1 (by simp [ho, Op.operands]))
        exact Sim1.op (Sim1.still hR e1 (.glob _ _ (.flat _ e2)))
      · cases h
    · cases h
  · -- convert
    rename_i src dst x ho
    simp only [ho]
    split at h
    · rename_i u1 h1
      split at h
      · rename_i u hu
        simp only [Option.some.injEq, Prod.mk.injEq] at h; obtain ⟨rfl, rfl⟩ := h
        obtain ⟨e1, e2⟩ := convA_sim (P := P) (w := w) hu (ev h1 (by simp [ho, Op.operands]))
        exact Sim1.op (Sim1.still hR e1 (.glob _ _ (.flat _ e2)))
      · cases h
    · cases h
  · -- makeFunc
    rename_i fn first cap ho
    simp only [ho]
    split at h
    · rename_i f l r h1 h2
      cases hb : (l.all noLoc && r.all noLoc) with
      | false => rw [hb] at h; simp at h
      | true =>
        rw [hb] at h
        simp only [cond_true, Option.some.injEq, Prod.mk.injEq] at h; obtain ⟨rfl, rfl⟩ := h
        simp only [Bool.and_eq_true] at hb
        have g1 := VRs_VGs (evalsA_sim first.toList (hE.sub (by simp [ho, Op.operands]; grind)) _ h1) hb.1
        have g2 := VRs_VGs (evalsA_sim cap.toList (hE.sub (by simp [ho, Op.operands]; grind)) _ h2) hb.2
        refine Sim1.op (Sim1.still hR (c := .func (.func f) (first.map a.eval) (cap.map a.eval)) (by simp [Instr.makeFunc]) (.glob _ _ ?_))
        exact .func _ _ _ _ _ (by simpa using g1.1) (by simpa using g2.1) (fun i u v hu hv => g1.2 i u v (by simpa using hu) (by simpa using hv)) (fun i u v hu hv => g2.2 i u v (by simpa using hu) (by simpa using hv))
    · cases h
  · -- makeSlice
    rename_i t l c ho
    simp only [ho]
    split at h
    · rename_i u1 u2 h1 h2
      obtain ⟨r, w', J', e1, e2, e3, e4, e5, ea, eb⟩ := makeSliceA_sim (P := P) hM h (ev h1 (by simp [ho, Op.operands])) (ev h2 (by simp [ho, Op.operands]))
      exact Sim1.op ⟨r, w', J', e1, e2, e3, .glob _ _ e4, e5, ea.mono (fun _ q => .inl ⟨rfl, q⟩), eb.mono (fun _ q => q.elim)⟩
    · cases h
  · -- slice
    rename_i t x lo hi mx ho
    simp only [ho]
    split at h
    · rename_i u b1 b2 b3 h1 h2 h3 h4
      split at h
      · rename_i r hr
        simp only [Option.some.injEq, Prod.mk.injEq] at h; obtain ⟨rfl, rfl⟩ := h
        obtain ⟨c, e1, e2⟩ := sliceA_sim (P := P) (w := w) hr (ev h1 (by simp [ho, Op.operands])) (evalOpt_sim (hE.sub (by simp [ho, Op.operands]; grind)) h2) (evalOpt_sim (hE.sub (by simp [ho, Op.operands]; grind)) h3) (evalOpt_sim (hE.sub (by simp [ho, Op.operands]; grind)) h4)
        exact Sim1.op (Sim1.still hR e1 (.glob _ _ e2))
      · cases h
    · cases h
  · -- fieldAddr
    rename_i t x f ho
    simp only [ho]
    split at h
    · rename_i u h1
      split at h
      · rename_i r hr
        simp only [Option.some.injEq, Prod.mk.injEq] at h; obtain ⟨rfl, rfl⟩ := h
        obtain ⟨c, e1, e2⟩ := fieldAddrA_sim (P := P) (w := w) hr (ev h1 (by simp [ho, Op.operands]))
        exact Sim1.op (Sim1.still hR e1 e2)
      · cases h
    · cases h
  · -- field
    rename_i t x f ho
    simp only [ho]
    split at h
    · rename_i u h1
      split at h
      · rename_i r hr
        simp only [Option.some.injEq, Prod.mk.injEq] at h; obtain ⟨rfl, rfl⟩ := h
        obtain ⟨c, e1, e2⟩ := fieldA_sim (P := P) (w := w) hr (ev h1 (by simp [ho, Op.operands]))
        exact Sim1.op (Sim1.still hR e1 (.glob _ _ e2))
      · cases h
    · cases h
  · -- indexAddr
    rename_i t x i ho
    simp only [ho]
    split at h
    · rename_i u1 u2 h1 h2
      split at h
      · rename_i r hr
        simp only [Option.some.injEq, Prod.mk.injEq] at h; obtain ⟨rfl, rfl⟩ := h
        obtain ⟨c, e1, e2⟩ := indexAddrA_sim (P := P) (w := w) hr (ev h1 (by simp [ho, Op.operands])) (ev h2 (by simp [ho, Op.operands]))
        exact Sim1.op (Sim1.still hR e1 e2)
      · cases h
    · cases h
  · -- index
    rename_i t x i ho
    simp only [ho]
    split at h
    · rename_i u1 u2 h1 h2
      split at h
      · rename_i r hr
        simp only [Option.some.injEq, Prod.mk.injEq] at h; obtain ⟨rfl, rfl⟩ := h
        obtain ⟨c, e1, e2⟩ := indexA_sim (P := P) (w := w) hr (ev h1 (by simp [ho, Op.operands])) (ev h2 (by simp [ho, Op.operands]))
        exact Sim1.op (Sim1.still hR e1 (.glob _ _ e2))
      · cases h
    · cases h
  · -- extract
    rename_i x i ho
    simp only [ho]
    split at h
    · rename_i vs h1
      split at h
      · rename_i r hr
        simp only [Option.some.injEq, Prod.mk.injEq] at h; obtain ⟨rfl, rfl⟩ := h
        obtain ⟨ys, hc, hy⟩ := ((ev h1 (by simp [ho, Op.operands])).of_ne (fun a => by simp)).tupleL
        have hlt : i < ys.toList.length := by rw [← hy.1]; exact (List.getElem?_eq_some_iff.1 hr).1
        have hx : ys[i]? = some (ys.toList[i]) := by simp at hlt ⊢
        exact Sim1.op (Sim1.still hR (c := ys.toList[i]) (by simp [Instr.extract, hc, hx]) (.glob _ _ (hy.2 i r _ hr (by simp at hlt ⊢))))
      · cases h
    · cases h
  · -- builtins
    rename_i b args argTypes ho
    simp only [ho, resolve]
    split at h
    · rename_i l hl
      have hargs := evalsA_sim args.toList (hE.sub (by simp [ho, Op.operands, Call.operands])) _ hl
      have harr : args.map a.eval = (args.toList.map a.eval).toArray := by apply Array.ext'; simp
      split at h
      · rename_i x
        split at h
        · rename_i t ht
          split at h
          · rename_i u hu
            simp only [Option.some.injEq, Prod.mk.injEq] at h; obtain ⟨rfl, rfl⟩ := h
            obtain ⟨c0, hc0⟩ : ∃ c0, args.toList.map a.eval = [c0] := by
              have := hargs.1
              match hm : args.toList.map a.eval, this with
              | [c0], _ => exact ⟨c0, rfl⟩
            have hx := hargs.2 0 x c0 rfl (by rw [hc0]; rfl)
            obtain ⟨e1, e2⟩ := lenA_sim (P := P) (w := w) (ty := o.type) hu hx
            have hat : argTypes = #[t] := by apply Array.ext'; simpa using ht
            refine ⟨.value u, u, w, J, ?_, .inl rfl, .refl hR, fun _ _ h => h, .glob _ _ (.flat _ e2), rfl, .refl _ _, .refl _ _⟩
            simp [invoke, builtin, harr, hc0, hat, e1]
          · cases h
        · cases h
      · rename_i x r
        split at h
        · rename_i u hu
          simp only [Option.some.injEq, Prod.mk.injEq] at h; obtain ⟨rfl, rfl⟩ := h
          obtain ⟨c0, cr, hc0⟩ : ∃ c0 cr, args.toList.map a.eval = c0 :: cr := by
            have := hargs.1
            match hm : args.toList.map a.eval, this with
            | c0 :: cr, _ => exact ⟨c0, cr, rfl⟩
          rw [hc0] at hargs
          obtain ⟨c, e1, e2⟩ := foldA_sim (P := P) (w := w) (F := Builtin.max2) (fun x y v h => (max2A_sim h).1) (fun x y v h => max2A_flat h) r cr x c0 u hu (hargs.2 0 x c0 rfl rfl) ⟨by have := hargs.1; simpa using this, fun i p q hp hq => hargs.2 (i + 1) p q (by simpa using hp) (by simpa using hq)⟩
          refine ⟨.value c, c, w, J, ?_, .inl rfl, .refl hR, fun _ _ h => h, e2, rfl, .refl _ _, .refl _ _⟩
          simp [invoke, builtin, harr, hc0, Builtin.max_, e1]
        · cases h
      · rename_i x r
        split at h
        · rename_i u hu
          simp only [Option.some.injEq, Prod.mk.injEq] at h; obtain ⟨rfl, rfl⟩ := h
          obtain ⟨c0, cr, hc0⟩ : ∃ c0 cr, args.toList.map a.eval = c0 :: cr := by
            have := hargs.1
            match hm : args.toList.map a.eval, this with
            | c0 :: cr, _ => exact ⟨c0, cr, rfl⟩
          rw [hc0] at hargs
          obtain ⟨c, e1, e2⟩ := foldA_sim (P := P) (w := w) (F := Builtin.min2) (fun x y v h => (min2A_sim h).1) (fun x y v h => min2A_flat h) r cr x c0 u hu (hargs.2 0 x c0 rfl rfl) ⟨by have := hargs.1; simpa using this, fun i p q hp hq => hargs.2 (i + 1) p q (by simpa using hp) (by simpa using hq)⟩
          refine ⟨.value c, c, w, J, ?_, .inl rfl, .refl hR, fun _ _ h => h, e2, rfl, .refl _ _, .refl _ _⟩
          simp [invoke, builtin, harr, hc0, Builtin.min_, e1]
        · cases h
      · obtain ⟨c, w', J', e1, e2, e3, e4, e5, ea, eb⟩ := appendA_sim (P := P) hR (ty := o.type) h hargs
        refine ⟨.value c, c, w', J', ?_, .inl rfl, e2, e3, e4, e5, ea.mono (fun _ q => .inr ⟨rfl, q⟩), eb.mono (fun _ q => q.elim)⟩
        simp [invoke, builtin, harr] at e1 ⊢
        rw [e1]; rfl
      · obtain ⟨c, w', J', e1, e2, e3, e4, e5, ea, eb⟩ := copyA_sim (P := P) hR (ty := o.type) h hargs
        refine ⟨.value c, c, w', J', ?_, .inl rfl, e2, e3, e4, e5, ea.mono (fun _ q => .inr ⟨rfl, q⟩), eb.mono (fun _ q => q.elim)⟩
        simp [invoke, builtin, harr] at e1 ⊢
        rw [e1]; rfl
      · cases h
    · cases h
  · cases h

end Go.Sim
