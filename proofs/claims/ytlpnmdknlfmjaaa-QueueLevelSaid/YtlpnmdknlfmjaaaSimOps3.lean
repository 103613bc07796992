/-
  MAKE, APPEND, COPY.
-/
import Derived.Test.YtlpnmdknlfmjaaaSimOps2
namespace Go.Sim
set_option linter.unusedSimpArgs false

variable {P : Program} {w : World} {J : Inj} {s : St}

theorem wrap_small {n : Int} (h0 : 0 ≤ n) (h1 : n ≤ 1073741824) : IntKind.i64.wrap n = n := by
  unfold IntKind.wrap
  have e : (2 ^ IntKind.i64.bits : Int) = 18446744073709551616 := by decide
  have e2 : (2 ^ (IntKind.i64.bits - 1) : Int) = 9223372036854775808 := by decide
  simp only [e, e2]
  rw [Int.emod_eq_of_lt h0 (by omega)]
  simp only [IntKind.signed, Bool.true_and, decide_eq_true_eq]
  rw [if_neg (by omega)]

theorem makeSliceA_sim {mk : Maker} (hM : NewOK J s w mk) {t : TypeId} {l c cl cc v : Value} {s' : St} (h : makeSliceA P mk t l c = some (v, s')) (hl : VR J l cl) (hc : VR J c cc) :
    ∃ r w' J', (Instr.makeSlice t cl cc).run P w = .ok r w' ∧ Good J s w J' s' w' ∧ (∀ t L, J.l t = some L → J'.l t = some L) ∧ VG J'.g v r ∧ s'.env = s.env ∧ Adds (NewBy mk) J.g J'.g ∧ Adds (fun _ => False) J.l J'.l := by
  unfold makeSliceA at h
  split at h
  · rename_i e k1 l k2 c hu
    obtain rfl := (hl.of_ne (fun a => by simp)).int
    obtain rfl := (hc.of_ne (fun a => by simp)).int
    split at h
    · rename_i n z by_ hn hz hby
      split at h
      · rename_i hcond
        obtain ⟨c1, c2, c3, c4, c5⟩ := hcond
        split at h
        · rename_i a s2 hnew
          simp only [Option.some.injEq, Prod.mk.injEq] at h
          obtain ⟨rfl, rfl⟩ := h
          obtain ⟨hfl, it, hit, hiz⟩ := zeroT_spec hz
          obtain ⟨it2, hit2, hbt⟩ := bytesT_spec hby
          rw [hit] at hit2
          obtain rfl := Option.some.inj hit2
          let z0 : Array Value := if c.toNat * n = 0 then #[] else z.cells
          have hcells : ((Array.range (c.toNat * n)).map (fun i => z0[i % z0.size]!)).toList = copies z.cells.toList c.toNat := by
            by_cases h0 : c.toNat * n = 0
            · have hl : (copies z.cells.toList c.toNat) = [] := by
                apply List.length_eq_zero_iff.1; rw [copies_length, c5]; exact h0
              rw [hl, h0]; simp
            · have : z0 = z.cells := by simp [z0, h0]
              rw [this]
              have := range_map_copies z.cells c.toNat
              rw [show z.cells.size = n by simpa using c5] at this ⊢
              exact this
          obtain ⟨J', g1, g2, g3, g4, g6, ga, gb⟩ := hM _ _ _ ((Array.range (c.toNat * n)).map (fun i => z0[i % z0.size]!)) _ _ e hnew (by rw [show (Array.range (c.toNat * n)).map (fun i => z0[i % z0.size]!) = (copies z.cells.toList c.toNat).toArray from Array.ext' (by rw [hcells])]; exact CR.of_VGs (copies_VGs (g := J.g) (flat_VGs hfl) c.toNat))
          obtain ⟨id, g7, g8⟩ := g6 rfl
          simp only [Value.pointer.injEq, Option.some.injEq] at g7
          subst g7
          refine ⟨.slice (some ⟨w.heap.size, 0, none⟩) l.toNat c.toNat, w.alloc (.cells ((Array.range (c.toNat * n)).map (fun i => z0[i % z0.size]!)) e), J', ?_, g1, g2, ?_, g4, ga.mono (fun _ q => q.2), gb.mono (fun _ q => by cases q.1)⟩
          · have wl : IntKind.i64.wrap l = l := wrap_small c1 (by omega)
            have wc : IntKind.i64.wrap c = c := wrap_small (by omega) c3
            have hbig : ¬ ((by_ : Int) * c > 2 ^ 48) := by
              have h1 : (by_ : Int) * c ≤ 16384 * 1073741824 := Int.mul_le_mul (by omega) c3 (by omega) (by omega)
              have h2 : (2 : Int) ^ 48 = 281474976710656 := by decide
              omega
            have hno : ¬ ((((decide (c < 0) || decide ((by_ : Int) * c > 2 ^ 48)) || decide (l < 0)) || decide (l > c)) = true) := by
              simp only [Bool.or_eq_true, decide_eq_true_eq, not_or]
              exact ⟨⟨⟨by omega, hbig⟩, by omega⟩, by omega⟩
            by_cases h0 : c.toNat * n = 0
            · have hz0 : z0 = #[] := by simp [z0, h0]
              simp only [Instr.makeSlice, Sem.run_bind, run_und hu, asInt, asIntOf, Sem.run_pure, Result.andThen_ok, run_infoT hit, hbt, wl, wc]
              rw [Sem.run_ite, if_neg hno]
              simp only [Sem.run_pure, Result.andThen_ok, Sem.run_bind, run_askRoom, run_sizeT hn]
              rw [Sem.run_ite, if_pos h0]
              simp only [Sem.run_pure, Result.andThen_ok, Sem.run_bind, newRow, run_newObj, hz0]
              rfl
            · have hz0 : z0 = z.cells := by simp [z0, h0]
              simp only [Instr.makeSlice, Sem.run_bind, run_und hu, asInt, asIntOf, Sem.run_pure, Result.andThen_ok, run_infoT hit, hbt, wl, wc]
              rw [Sem.run_ite, if_neg hno]
              simp only [Sem.run_pure, Result.andThen_ok, Sem.run_bind, run_askRoom, run_sizeT hn]
              rw [Sem.run_ite, if_neg h0]
              simp only [Sem.run_pure, Result.andThen_ok, Sem.run_bind, run_zeroT hz, newRow, run_newObj, hz0]
              rfl
          · have q := VG.sliceX (g := J'.g) ⟨id, 0, none⟩ _ l.toNat c.toNat rfl g8 (by unfold slack; omega)
            simpa using q
        · cases h
      · cases h
    · cases h
  · cases h

/-! ### A draw -/
theorem HR.drew {d : Nat} (h : HR J s w) : HR J s { w with drawn := d } :=
  { gdom := h.gdom, gblk := h.gblk, gcon := h.gcon, ginj := h.ginj, ldom := h.ldom, lcon := h.lcon, linj := h.linj, sep := h.sep }
theorem Good.drew {d : Nat} (h : HR J s w) : Good J s w J s { w with drawn := d } where
  hr := h.drew
  mono := fun _ _ h => h
  next := Nat.le_refl _
  low := Nat.le_refl _
  size := Nat.le_refl _
  os := rfl
  tape := rfl
  output := rfl
  fresh := (fun id L h1 h2 => by rw [h2] at h1; cases h1)
  lfresh := fun t L h1 => .inr ⟨t, L, h1, rfl⟩
  frame := fun _ _ _ _ => rfl

/-- A block given up. -/
theorem Good.kill (h : HR J s w) {b : Nat} (_hb : b < s.h.next) : Good J s w J { s with h := s.h.kill b } w where
  hr := { gdom := h.gdom, gblk := h.gblk, ldom := h.ldom, lcon := h.lcon, linj := h.linj, sep := h.sep
          gcon := fun id L wr es cells h1 h2 => by
            simp only [AHeap.kill, Tri.get_set] at h2
            by_cases e : b = id
            · simp [e] at h2
            · simp only [e, if_false] at h2; exact h.gcon _ _ _ _ _ h1 h2
          ginj := fun id id' L L' wr es c wr' es' c' h1 h2 h3 h4 hb9 => by
            simp only [AHeap.kill, Tri.get_set] at h3 h4
            by_cases e : b = id
            · simp [e] at h3
            · by_cases e' : b = id'
              · simp [e'] at h4
              · simp only [e, if_false] at h3
                simp only [e', if_false] at h4
                exact h.ginj _ _ _ _ _ _ _ _ _ _ h1 h2 h3 h4 hb9 }
  mono := fun _ _ h => h
  next := Nat.le_refl _
  low := Nat.min_le_left _ _
  size := Nat.le_refl _
  os := rfl
  tape := rfl
  output := rfl
  fresh := (fun id L h1 h2 => by rw [h2] at h1; cases h1)
  lfresh := fun t L h1 => .inr ⟨t, L, h1, rfl⟩
  frame := fun _ _ _ _ => rfl

/-! ### What is appended -/

theorem zeroCells_copies (z : Array Value) (n : Nat) : (Builtin.zeroCells z n).toList = copies z.toList n := range_map_copies z n

/-- What is known of the second operand of 'append': a list of cells that is read; or a number of zeros. -/
def News (P : Program) (w : World) (zeros : Bool) (e size n : Nat) (cx : Value) (us : List Value) : Prop :=
  (zeros = false ∧ (Builtin.lenOf cx).run P w = .ok n w ∧ (Builtin.firstCells size n cx).run P w = .ok us.toArray w) ∨
  (zeros = true ∧ ∃ k m z it, cx = .int k m ∧ 0 ≤ m ∧ m ≤ 1073741824 ∧ n = m.toNat ∧ P.info? e = some it ∧ it.bytes ≤ 16384 ∧ (zeroValue e).run P w = .ok z w ∧ z.cells.toList.length = size ∧ us = copies z.cells.toList n)

theorem newsA_sim (hR : HR J s w) {e : TypeId} {size : Nat} {zeros : Bool} {x cx : Value} {n : Nat} {news : List Value} (h : newsA P s.h e size zeros x = some (n, news)) (hx : VR J x cx) :
    ∃ us, VGs J.g news us ∧ ∀ d, News P { w with drawn := d } zeros e size n cx us := by
  unfold newsA at h
  cases zeros with
  | true =>
    simp only [cond_true] at h
    split at h
    · rename_i k m z by_ hz hby
      split at h
      · rename_i hcond
        obtain ⟨c1, c2, c3, c4⟩ := hcond
        simp only [Option.some.injEq, Prod.mk.injEq] at h
        obtain ⟨rfl, rfl⟩ := h
        obtain rfl := (hx.of_ne (fun a => by simp)).int
        obtain ⟨hfl, it, hit, hiz⟩ := zeroT_spec hz
        obtain ⟨it2, hit2, hbt⟩ := bytesT_spec hby
        rw [hit] at hit2
        obtain rfl := Option.some.inj hit2
        exact ⟨copies z.cells.toList m.toNat, copies_VGs (flat_VGs hfl) _, fun d => .inr ⟨rfl, k, m, z, it, rfl, c1, c2, rfl, hit, by omega, run_zeroT hz, c4, rfl⟩⟩
      · cases h
    · cases h
  | false =>
    simp only [cond_false] at h
    split at h
    · rename_i a m c
      split at h
      · rename_i l hl
        simp only [Option.some.injEq, Prod.mk.injEq] at h
        obtain ⟨rfl, rfl⟩ := h
        obtain ⟨hs, L, c', hL, rfl, _⟩ := (hx.of_ne (fun a => by simp)).sliceL
        obtain ⟨l', h1, h2, h3⟩ := hR.read (a := a) (L := L) (by simp [Inj.at, hs, hL]) (readG_spec hl).2
        have := fun d => run_loadCells_list (P := P) { w with drawn := d } ⟨L.b, L.o + a.off, none⟩ l' h3
        rw [h2] at this
        exact ⟨l', h1, fun d => .inl ⟨rfl, by simp [Builtin.lenOf], by simp [Builtin.firstCells, this d]⟩⟩
      · cases h
    · rename_i m c
      cases hb : Nat.beq m 0 with
      | false => rw [hb] at h; simp at h
      | true =>
        rw [hb] at h
        simp only [cond_true, Option.some.injEq, Prod.mk.injEq] at h
        obtain ⟨rfl, rfl⟩ := h
        obtain ⟨rfl, rfl, rfl⟩ := (hx.of_ne (fun a => by simp)).nilSlice
        exact ⟨[], .nil _, fun d => .inl ⟨rfl, by simp [Builtin.lenOf], by simp [Builtin.firstCells]⟩⟩
    · rename_i b
      simp only [Option.some.injEq, Prod.mk.injEq] at h
      obtain ⟨rfl, rfl⟩ := h
      obtain rfl := (hx.of_ne (fun a => by simp)).string
      refine ⟨_, VGs.flat (by simp only [List.all_map, List.all_eq_true]; intro a _; rfl), fun d => .inl ⟨rfl, by simp [Builtin.lenOf], ?_⟩⟩
      have e : b.extract 0 b.size = b := by simp
      simp only [Builtin.firstCells, e, Sem.run_pure]
      congr 1
      apply Array.ext'
      simp
    · cases h

theorem nextcap_le {need c : Nat} (h : c < need) : Builtin.nextslicecap need c ≤ 2 * need + 768 := by
  unfold Builtin.nextslicecap
  split
  · omega
  · split
    · omega
    · have key : ∀ rounds c, c ≤ 2 * need + 768 → Builtin.growBy need rounds c ≤ 2 * need + 768 := by
        intro rounds
        induction rounds with
        | zero => intro c hc; simpa [Builtin.growBy] using hc
        | succ r ih =>
          intro c hc
          simp only [Builtin.growBy]
          split
          · exact hc
          · exact ih _ (by omega)
      exact key 4 c (by omega)

theorem someCap_lt {n : Nat} (h : n ≤ 1073741824) : n < slack := by unfold slack; omega

theorem zeroRead {e size n : Nat} {z : Value} (hz : (zeroValue e).run P w = .ok z w) (hl : z.cells.toList.length = size) :
    (if n * size = 0 then (pure #[] : Sem (Array Value)) else do pure (Builtin.zeroCells (← zeroValue e).cells n)).run P w = .ok (copies z.cells.toList n).toArray w := by
  by_cases h0 : n * size = 0
  · rw [if_pos h0]
    have : copies z.cells.toList n = [] := by apply List.length_eq_zero_iff.1; rw [copies_length, hl]; exact h0
    rw [this]; rfl
  · rw [if_neg h0]
    simp only [Sem.run_bind, hz, Result.andThen_ok, Sem.run_pure]
    congr 1
    apply Array.ext'
    rw [zeroCells_copies]

/-- There is room: the cells are written behind the last element. -/
theorem append_room {t xt ty e : TypeId} {x : Value} {base : Option Addr} {len c size : Nat} {xd : TypeDesc} {n : Nat} {us : List Value}
    (hu : P.underlying t = some (.slice e)) (hxu : P.underlying xt = some xd) (hn : sizeT P e = some size) (hN : News P w (isIntDesc (some xd)) e size n x us) (hroom : len + n ≤ c) :
    (Builtin.append_ #[t, xt] ty #[.slice base len c, x]).run P w =
      ((match base with | some a => storeCells (a.add (len * size)) us | none => pure () : Sem Unit).run P w).andThen fun _ w' => .ok (.slice base (len + n) c) w' := by
  unfold Builtin.append_
  simp only [List.getElem?_toArray, List.getElem?_cons_zero, List.getElem?_cons_succ, Sem.run_bind, run_und hu, Result.andThen_ok, run_sizeT hn, run_und hxu, Sem.run_pure]
  rcases hN with ⟨hz, h1, h2⟩ | ⟨hz, k, m, z, it, rfl, c1, c2, rfl, hit, c4, h3, h4, rfl⟩
  · clear hxu
    cases xd <;> first | (exfalso; simp [isIntDesc] at hz; done) | skip
    all_goals
      simp only [Bool.false_eq_true, if_false, Bool.not_false, if_true, Sem.run_bind, h1, Result.andThen_ok, hroom, h2]
      cases base with
      | none => simp
      | some a => simp
  · have wl : IntKind.i64.wrap m = m := wrap_small c1 c2
    have hbig : ¬ (m * (it.bytes : Int) > 2 ^ 48) := by
      have h1 : m * (it.bytes : Int) ≤ 1073741824 * 16384 := Int.mul_le_mul c2 (by omega) (by omega) (by omega)
      have h2 : (2 : Int) ^ 48 = 281474976710656 := by decide
      omega
    obtain ⟨k', rfl⟩ : ∃ k, xd = .int k := by cases xd <;> simp_all [isIntDesc]
    simp only [if_true, Sem.run_bind, asInt, asIntOf, Sem.run_pure, Result.andThen_ok, wl]
    rw [Sem.run_ite, if_neg (show ¬ m < 0 by omega)]
    simp only [Sem.run_bind, Sem.run_pure, Result.andThen_ok, run_infoT hit]
    rw [Sem.run_ite, if_neg hbig]
    simp only [Sem.run_bind, Sem.run_pure, Result.andThen_ok]
    rw [Sem.run_ite, if_pos hroom]
    simp only [Bool.not_true, Bool.false_eq_true, if_false, Sem.run_bind, zeroRead h3 h4, Result.andThen_ok]
    cases base with
    | none => simp
    | some a => simp

/-- There is none: a new row. -/
theorem append_grow {t xt ty e : TypeId} {x : Value} {base : Option Addr} {len c size : Nat} {xd : TypeDesc} {n : Nat} {us old : List Value} {it : TypeInfo} {z : Value}
    (hu : P.underlying t = some (.slice e)) (hxu : P.underlying xt = some xd) (hn : sizeT P e = some size) (hit : P.info? e = some it) (hby : it.bytes ≤ 16384) (hz : zeroT P e = some z)
    (hN : News P w (isIntDesc (some xd)) e size n x us) (hN1 : News P { w with drawn := w.drawn + 1 } (isIntDesc (some xd)) e size n x us)
    (hold : (Builtin.firstCells size len (.slice base len c)).run P { w with drawn := w.drawn + 1 } = .ok old.toArray { w with drawn := w.drawn + 1 })
    (hroom : c < len + n) (hneed : len + n ≤ 1073741824) :
    ∃ newCap, len + n ≤ newCap ∧ (Builtin.append_ #[t, xt] ty #[.slice base len c, x]).run P w =
      .ok (.slice (some ⟨w.heap.size, 0, none⟩) (len + n) newCap) (({ w with drawn := w.drawn + 1 } : World).alloc (.cells (old.toArray ++ us.toArray ++ Builtin.zeroCells z.cells (newCap - (len + n))) e)) := by
  have hnot : ¬ len + n ≤ c := by omega
  have hmax : IntKind.i64.max = 9223372036854775807 := by decide
  have hsmall : ¬ (((len + n : Nat) : Int) > IntKind.i64.max) := by rw [hmax]; omega
  have hcap : ¬ (Builtin.nextslicecap (len + n) c * it.bytes > 2 ^ 48) := by
    have h1 := nextcap_le hroom
    have h2 : Builtin.nextslicecap (len + n) c * it.bytes ≤ (2 * 1073741824 + 768) * 16384 := Nat.mul_le_mul (by omega) hby
    have h3 : (2 : Nat) ^ 48 = 281474976710656 := by decide
    omega
  refine ⟨(Question.appendCap (len + n) c e).cut (w.tape w.drawn (.appendCap (len + n) c e)), by simp [Question.cut], ?_⟩
  unfold Builtin.append_
  simp only [List.getElem?_toArray, List.getElem?_cons_zero, List.getElem?_cons_succ, Sem.run_bind, run_und hu, Result.andThen_ok, run_sizeT hn, run_und hxu, Sem.run_pure]
  rcases hN with ⟨hzr, h1, h2⟩ | ⟨hzr, k, m, z', it', rfl, c1, c2, rfl, hit', c4, h3, h4, rfl⟩
  · have hr : (Builtin.firstCells size n x).run P { w with drawn := w.drawn + 1 } = .ok us.toArray { w with drawn := w.drawn + 1 } := by
      rcases hN1 with ⟨_, _, q⟩ | ⟨q, _⟩
      · exact q
      · rw [hzr] at q; cases q
    clear hxu hN1
    cases xd <;> first | (exfalso; simp [isIntDesc] at hzr; done) | skip
    all_goals
      simp only [Bool.false_eq_true, if_false, Bool.not_false, if_true, Sem.run_bind, h1, Result.andThen_ok, hnot, run_infoT hit, hsmall, false_and, false_or, hcap, run_choose, Question.forced, run_askRoom, hold, hr, run_zeroT hz, newRow, run_newObj, Sem.run_pure]
      rfl
  · have wl : IntKind.i64.wrap m = m := wrap_small c1 c2
    rw [hit] at hit'
    obtain rfl := Option.some.inj hit'
    have hbig : ¬ (m * (it.bytes : Int) > 2 ^ 48) := by
      have h1 : m * (it.bytes : Int) ≤ 1073741824 * 16384 := Int.mul_le_mul c2 (by omega) (by omega) (by omega)
      have h2 : (2 : Int) ^ 48 = 281474976710656 := by decide
      omega
    have hz1 : (zeroValue e).run P { w with drawn := w.drawn + 1 } = .ok z' { w with drawn := w.drawn + 1 } := by
      rw [run_zeroT hz] at h3
      obtain ⟨rfl, _⟩ : z = z' ∧ True := by simpa using h3
      exact run_zeroT hz
    obtain ⟨k', rfl⟩ : ∃ k, xd = .int k := by cases xd <;> simp_all [isIntDesc]
    simp only [if_true, Sem.run_bind, asInt, asIntOf, Sem.run_pure, Result.andThen_ok, wl]
    rw [Sem.run_ite, if_neg (show ¬ m < 0 by omega)]
    simp only [Sem.run_bind, Sem.run_pure, Result.andThen_ok, run_infoT hit]
    rw [Sem.run_ite, if_neg hbig]
    simp only [Sem.run_bind, Sem.run_pure, Result.andThen_ok]
    rw [Sem.run_ite, if_neg hnot]
    simp only [Sem.run_bind, Result.andThen_ok, run_infoT hit]
    rw [Sem.run_ite, if_neg (fun q => hsmall q.1)]
    simp only [Sem.run_bind, Result.andThen_ok, run_infoT hit, Sem.run_pure]
    rw [Sem.run_ite, if_neg hcap]
    simp only [Bool.not_true, Bool.false_eq_true, if_false, Sem.run_bind, Result.andThen_ok, run_choose, Question.forced, run_infoT hit, run_askRoom, hold, zeroRead hz1 h4, run_zeroT hz, newRow, run_newObj, Sem.run_pure]
    rfl

end Go.Sim
