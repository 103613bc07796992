/-
  CALLS OF GO FUNCTIONS, AS ONE OPERATION OF A REGION; TEMPORARIES; GUARDS.
-/
import Derived.Test.YtlpnmdknlfmjaaaSimOps4
import Derived.LoopN
namespace Go.Sim
set_option linter.unusedSimpArgs false

variable {P : Program} {w : World} {J : Inj} {s : St}

/-- A state of which the heap alone matters. -/
def St0 (h : AHeap) : St := { env := .leaf, kn := 0, K := .leaf, h := h }

/-- A call of function g comes to a value and a world of which R holds: by its Go text, or by the model's own row for it. -/
def Does (P : Program) (g : FuncId) (args : Array Value) (w : World) (R : Value → World → Prop) : Prop :=
  ((callFunc g args).run P w = .ok (.enter g args) w ∧ Calls P g args w (fun e w' => ∃ c, e = .returned c ∧ R c w')) ∨ ∃ c w', (callFunc g args).run P w = .ok (.value c) w' ∧ R c w'

theorem Does.mono {g : FuncId} {args : Array Value} {R R' : Value → World → Prop} (h : Does P g args w R) (hr : ∀ c w', R c w' → R' c w') : Does P g args w R' := by
  rcases h with ⟨h1, h2⟩ | ⟨c, w', h1, h2⟩
  · exact .inl ⟨h1, h2.mono fun e w' ⟨c, h3, h4⟩ => ⟨c, h3, hr _ _ h4⟩⟩
  · exact .inr ⟨c, w', h1, hr _ _ h2⟩

/-- What a table of calls must keep. -/
def CallOK (P : Program) (call : CallT) : Prop := ∀ g args h v h', call g args h = some (v, h') → ∀ (G : Nat → Option Loc) (w : World) (cargs : List Value), HR ⟨G, fun _ => none⟩ (St0 h) w → VGs G args cargs →
  Does P g cargs.toArray w (fun c w' => ∃ G', VG G' v c ∧ Good ⟨G, fun _ => none⟩ (St0 h) w ⟨G', fun _ => none⟩ (St0 h') w' ∧ Adds (h.next ≤ ·) G G')

/-- The caller's part of the heap, without its own blocks. -/
theorem HR.bare (h : HR J s w) : HR ⟨J.g, fun _ => none⟩ (St0 s.h) w :=
  { gdom := h.gdom, gblk := h.gblk, gcon := h.gcon, ginj := h.ginj, ldom := (fun t L h => by cases h), lcon := (fun t L h => by cases h), linj := (fun t t' L L' h => by cases h), sep := (fun id t L L' _ h => by cases h) }

/-- Behind the call the caller's own blocks are as they were. -/
theorem Good.call {G' : Nat → Option Loc} {h' : AHeap} {w' : World} (h : HR J s w) (k : Good ⟨J.g, fun _ => none⟩ (St0 s.h) w ⟨G', fun _ => none⟩ (St0 h') w') : Good J s w ⟨G', J.l⟩ { s with h := h' } w' := by
  have hold : ∀ t L, J.l t = some L → w'.heap[L.b]? = w.heap[L.b]? := fun t L hL =>
    k.frame L.b (h.llt hL) (fun id L1 h1 e => absurd e (h.sep _ _ _ _ h1 hL)) (fun t L h => by cases h)
  refine { hr := ?_, mono := k.mono, next := k.next, low := k.low, size := k.size, os := k.os, tape := k.tape, output := k.output, fresh := k.fresh, lfresh := fun t L hL => .inr ⟨t, L, hL, rfl⟩, frame := fun b hb hg _ => k.frame b hb hg (fun t L h => by cases h) }
  refine { gdom := k.hr.gdom, gblk := k.hr.gblk, gcon := k.hr.gcon, ginj := k.hr.ginj, ldom := h.ldom, lcon := ?_, linj := h.linj, sep := ?_ }
  · intro t L hL
    obtain ⟨cs, e, h1, h2⟩ := h.lcon _ _ hL
    exact ⟨cs, e, by rw [hold _ _ hL]; exact h1, fun c hc => (h2 c hc).mono k.mono⟩
  · intro id t L L' h1 h2 hb
    cases h0 : J.g id with
    | some L0 =>
      have : G' id = some L0 := k.mono id L0 h0
      have h1' : G' id = some L := h1
      rw [h1'] at this
      obtain rfl := Option.some.inj this
      exact h.sep _ _ _ _ h0 h2 hb
    | none =>
      rcases k.fresh id L h1 h0 with q | ⟨id0, L0, x, y, _⟩
      · have := h.llt h2; omega
      · exact h.sep _ _ _ _ x h2 (y.trans hb)

/-- What an operation, a call or not, comes to in the model. -/
def OpGoes (P : Program) (J : Inj) (s : St) (w : World) (a : Act) (o : Oper) (v : Value) (s' : St) (R Rl : Nat → Prop) : Prop :=
  ∀ (K : Act → World → Prop) (Q : Exit → Act → World → Prop), (∀ c w' J', Good J s w J' s' w' → (∀ t L, J.l t = some L → J'.l t = some L) → VR J' v c → s'.env = s.env → Adds R J.g J'.g → Adds Rl J.l J'.l → K (a.put o.dst c) w') → o.wp P a w K Q

theorem SimOp.goes {a : Act} {o : Oper} {v : Value} {s' : St} {R Rl : Nat → Prop} (h : SimOp P J s w (execOp a.eval o) v s' R Rl) : OpGoes P J s w a o v s' R Rl := by
  obtain ⟨n, c, w', J', h1, h2, h3, h4, h5, h6, h7, h8⟩ := h
  intro K Q hK
  unfold Oper.wp
  rw [h1]
  rcases h2 with rfl | ⟨rfl, rfl⟩
  · exact hK c w' J' h3 h4 h5 h6 h7 h8
  · exact hK undef w' J' h3 h4 h5 h6 h7 h8

theorem callee_sim {a : Act} {c : Call} {g : FuncId} {args : List Value} {o : Oper} (hc : o.op = .call c) (hE : EvOK J s a o.op.operands.toList) (h : calleeA s c = some (g, args)) :
    ∃ cargs : List Value, VGs J.g args cargs ∧ execOp a.eval o = callFunc g cargs.toArray := by
  unfold calleeA at h
  split at h
  · rename_i x hx
    split at h
    · rename_i f first captured l h1 h2
      cases hb : l.all noLoc with
      | false => rw [hb] at h; simp at h
      | true =>
        rw [hb] at h
        simp only [cond_true, Option.some.injEq, Prod.mk.injEq] at h
        obtain ⟨rfl, rfl⟩ := h
        have hops : o.op.operands.toList = x :: c.args.toList := by simp [hc, Op.operands, Call.operands, hx]
        rw [hops] at hE
        obtain ⟨x', y', hf, hx', hy'⟩ := ((hE x _ (by simp) h1).of_ne (fun a => by simp)).funcL
        have hl := VRs_VGs (evalsA_sim c.args.toList (hE.sub (fun y hy => List.mem_cons_of_mem _ hy)) _ h2) hb
        refine ⟨x'.toList ++ c.args.toList.map a.eval ++ y'.toList, (hx'.append hl).append hy', ?_⟩
        have e1 : execOp a.eval o = (do let d ← resolve a.eval c o.type; invoke d.target d.args) := by unfold execOp; rw [hc]
        rw [e1]
        simp only [resolve, hx, hf, Deferred.ofValue]
        show invoke (.fn (.func f) y') (x' ++ c.args.map a.eval) = _
        have e2 : invoke (.fn (.func f) y') (x' ++ c.args.map a.eval) = callFunc f (x' ++ c.args.map a.eval ++ y') := rfl
        rw [e2]
        congr 1
        apply Array.ext'
        simp
    · cases h
  · cases h

theorem callOp_goes {call : CallT} (hcall : CallOK P call) {a : Act} {c : Call} {o : Oper} {v : Value} {s' : St} (hR : HR J s w) (hc : o.op = .call c) (hE : EvOK J s a o.op.operands.toList) (h : callOp call c s = some (v, s')) : OpGoes P J s w a o v s' (s.h.next ≤ ·) (fun _ => False) := by
  unfold callOp at h
  split at h
  · rename_i g args hg
    split at h
    · rename_i v' h' hr
      simp only [Option.some.injEq, Prod.mk.injEq] at h
      obtain ⟨rfl, rfl⟩ := h
      obtain ⟨cargs, h1, h2⟩ := callee_sim hc hE hg
      have hd := hcall g args s.h v' h' hr J.g w cargs hR.bare h1
      intro K Q hK
      unfold Oper.wp
      rw [h2]
      rcases hd with ⟨e1, e2⟩ | ⟨c, w', e1, G', e2, e3, e4⟩
      · rw [e1]
        simp only [Oper.upon_enter]
        refine e2.mono ?_
        rintro e w' ⟨c, rfl, G', hv, hG, hA⟩
        exact hK c w' ⟨G', J.l⟩ (Good.call hR hG) (fun _ _ h => h) (.glob _ _ hv) rfl hA (.refl _ _)
      · rw [e1]
        simp only [Oper.upon_value]
        exact hK c w' ⟨G', J.l⟩ (Good.call hR e3) (fun _ _ h => h) (.glob _ _ e2) rfl e4 (.refl _ _)
    · cases h
  · cases h

theorem isCall_spec {op : Op} {c : Call} (h : isCall op = some c) : op = .call c := by
  unfold isCall at h
  split at h
  · split at h
    · simp only [Option.some.injEq] at h; rw [h]
    · cases h
  · cases h

theorem new_ok {loc : Bool} {es : Nat} {cells : List Value} {r : Value × St} (h : s.new loc es cells = some r) : cells.all cellOK = true := by
  unfold St.new at h
  cases hc : cells.all cellOK with
  | true => rfl
  | false => rw [hc] at h; simp at h
theorem newAt_ok {id tag : Nat} {loc : Bool} {es : Nat} {cells : List Value} {r : Value × St} (h : s.newAt id tag loc es cells = some r) : cells.all cellOK = true := by
  unfold St.newAt at h
  cases hc : cells.all cellOK with
  | true => rfl
  | false => rw [hc] at h; simp at h

theorem oneA_goes {H : Hint} {call : CallT} (hcall : CallOK P call) {f : FuncId} {a : Act} {o : Oper} {v : Value} {s' : St} (hR : HR J s w) (hE : EvOK J s a o.op.operands.toList) (h : oneA P H call f o s = some (v, s')) : OpGoes P J s w a o v s' (s.h.next ≤ ·) (fun _ => True) := by
  unfold oneA at h
  split at h
  · rename_i c hc
    intro K Q hK
    exact callOp_goes hcall hR (isCall_spec hc) hE h K Q (fun c w' J' a1 a2 a3 a4 a5 a6 => hK c w' J' a1 a2 a3 a4 a5 (a6.mono (fun _ _ => trivial)))
  · intro K Q hK
    refine (opA_sim hR hR.newOK hE new_ok h).goes K Q (fun c w' J' a1 a2 a3 a4 a5 a6 => hK c w' J' a1 a2 a3 a4 (a5.mono ?_) (a6.mono (fun _ _ => trivial)))
    rintro k (⟨_, es, cells, s9, h9⟩ | ⟨_, h9⟩)
    · unfold St.new at h9
      simp only [Bool.cond_eq_ite] at h9
      split at h9
      · simp at h9; rw [h9.1]; exact Nat.le_refl _
      · cases h9
    · exact h9

/-! ### Temporaries -/

theorem Good.env {J' : Inj} {s' : St} {w' : World} (h : Good J s w J' s' w') (e : Tri Value) : Good J s w J' { s' with env := e } w' :=
  { hr := { gdom := h.hr.gdom, gblk := h.hr.gblk, gcon := h.hr.gcon, ginj := h.hr.ginj, ldom := h.hr.ldom, lcon := h.hr.lcon, linj := h.hr.linj, sep := h.hr.sep }
    mono := h.mono, next := h.next, low := h.low, size := h.size, os := h.os, tape := h.tape, output := h.output, fresh := h.fresh, lfresh := h.lfresh, frame := h.frame }
theorem HR.env (h : HR J s w) (e : Tri Value) : HR J { s with env := e } w :=
  { gdom := h.gdom, gblk := h.gblk, gcon := h.gcon, ginj := h.ginj, ldom := h.ldom, lcon := h.lcon, linj := h.linj, sep := h.sep }

theorem put_size (a : Act) (dst : Option Tmp) (v : Value) : (a.put dst v).tmps.size = a.tmps.size := by
  cases dst <;> simp [Act.put]
theorem put_defers (a : Act) (dst : Option Tmp) (v : Value) : (a.put dst v).defers = a.defers := by
  cases dst <;> simp [Act.put]

theorem putA_spec {nt : Nat} {dst : Option Tmp} {v : Value} {s' : St} (h : putA nt s dst v = some s') : (dst = none ∧ s' = s) ∨ ∃ d, dst = some d ∧ d < nt ∧ s' = { s with env := s.env.set d v } := by
  unfold putA at h
  split at h
  · simp only [Option.some.injEq] at h; exact .inl ⟨rfl, h.symm⟩
  · rename_i d
    cases hb : Nat.blt d nt with
    | false => rw [hb] at h; simp at h
    | true => rw [hb] at h; simp only [cond_true, Option.some.injEq] at h; exact .inr ⟨d, rfl, Nat.le_of_ble_eq_true hb, h.symm⟩

theorem putA_ER {nt : Nat} {dst : Option Tmp} {v c : Value} {s' : St} {a : Act} (h : putA nt s dst v = some s') (hE : ER J s a) (hn : nt ≤ a.tmps.size) (hv : VR J v c) : ER J s' (a.put dst c) := by
  rcases putA_spec h with ⟨rfl, rfl⟩ | ⟨d, rfl, hd, rfl⟩
  · exact hE
  · intro t u hu
    simp only [Tri.get_set] at hu
    rw [put_size]
    by_cases e : d = t
    · subst e
      simp only [if_true, Option.some.injEq] at hu
      subst hu
      have hlt : d < a.tmps.size := Nat.lt_of_lt_of_le hd hn
      refine ⟨hlt, ?_⟩
      have : (a.put (some d) c).tmps.getD d undef = c := by simp [Act.put, hlt]
      rw [this]; exact hv
    · simp only [e, if_false] at hu
      obtain ⟨h1, h2⟩ := hE t u hu
      refine ⟨h1, ?_⟩
      have : (a.put (some d) c).tmps.getD t undef = a.tmps.getD t undef := by simp [Act.put, Array.getElem?_setIfInBounds_ne e]
      rw [this]; exact h2

theorem putA_env {nt : Nat} {dst : Option Tmp} {v : Value} {s' : St} (h : putA nt s dst v = some s') : s' = { s with env := s'.env } := by
  rcases putA_spec h with ⟨_, rfl⟩ | ⟨d, _, _, rfl⟩ <;> rfl

/-! ### Guards -/

/-- The guard's temporary is related. -/
def GuOK (J : Inj) (s : St) (a : Act) (ops : Array Oper) (o : Oper) : Prop :=
  ∀ j want d v, o.guard = some (j, want) → (ops[j]?).bind (·.dst) = some d → s.env.get d = some v → d < a.tmps.size ∧ VR J v (a.tmps.getD d undef)

theorem wantedA_sim {ops : Array Oper} {o : Oper} {b : Bool} {a : Act} (h : wantedA ops o s = some b) (hE : GuOK J s a ops o) : Region.wanted o (yielded ops a.tmps) = b := by
  unfold wantedA at h
  unfold Region.wanted
  split at h
  · rename_i hg
    simp only [Option.some.injEq] at h
    rw [hg]; exact h
  · rename_i j want hg
    rw [hg]
    simp only []
    split at h
    · rename_i d hd
      have key : ∀ v, s.env.get d = some v → ∃ c, a.tmps[d]? = some c ∧ VR J v c := by
        intro v hv
        obtain ⟨h1, h2⟩ := hE j want d v hg hd hv
        exact ⟨a.tmps[d], by simp [h1], by simpa [h1] using h2⟩
      split at h
      · rename_i b' hv
        simp only [Option.some.injEq] at h
        subst h
        obtain ⟨c, h1, h2⟩ := key _ hv
        obtain rfl := (h2.of_ne (fun a => by simp)).bool
        simp only [yielded, hd, Option.bind_some, h1]
        cases b' <;> cases want <;> rfl
      · rename_i vs hv
        cases hvs : vs.toList.isEmpty with
        | false => rw [hvs] at h; simp at h
        | true =>
        rw [hvs] at h
        simp only [cond_true, Option.some.injEq] at h
        subst h
        obtain rfl : vs = #[] := by simpa using hvs
        obtain ⟨c, h1, h2⟩ := key _ hv
        have := (h2.of_ne (fun a => by simp)).undefL
        subst this
        simp only [yielded, hd, Option.bind_some, h1, undef]
        cases want <;> rfl
      · cases h
    · cases h

theorem ER.gu {a : Act} (h : ER J s a) (ops : Array Oper) (o : Oper) : GuOK J s a ops o := fun _ _ d v _ _ hv => h d v hv

/-! ### A region that does not draw -/

/-- What a piece of code leaves. -/
def Post (J : Inj) (s : St) (w : World) (a : Act) (s' : St) (a' : Act) (w' : World) : Prop :=
  ∃ J', Good J s w J' s' w' ∧ ER J' s' a' ∧ a'.tmps.size = a.tmps.size ∧ a'.defers = a.defers ∧ Adds (s.h.next ≤ ·) J.g J'.g

theorem opsN_goes {H : Hint} {call : CallT} (hcall : CallOK P call) {f : FuncId} {nt : Nat} {ops : Array Oper} {Q : Exit → Act → World → Prop} : ∀ (l : List Oper) (k : Nat) (s : St) (J : Inj) (w : World) (a : Act) (s' : St),
    (∀ j, l[j]? = ops[k + j]?) → opsN P H call f nt ops l s = some s' → HR J s w → ER J s a → nt ≤ a.tmps.size → (∀ a' w', Post J s w a s' a' w' → Q .normal a' w') → wpOps P ops Q (List.range' k l.length) a w
  | [], k, s, J, w, a, s', _, h, hR, hE, _, hQ => by
    simp only [opsN, Option.some.injEq] at h
    subst h
    exact hQ a w ⟨J, .refl hR, hE, rfl, rfl, .refl _ _⟩
  | o :: l, k, s, J, w, a, s', hl, h, hR, hE, hn, hQ => by
    have ho : ops[k]? = some o := by have := hl 0; simpa using this.symm
    have hl' : ∀ j, l[j]? = ops[k + 1 + j]? := fun j => by have := hl (j + 1); simpa [Nat.add_assoc, Nat.add_comm 1 j] using this
    simp only [List.length_cons, List.range'_succ]
    simp only [wpOps, ho]
    simp only [opsN] at h
    split at h
    · rename_i hw
      rw [wantedA_sim hw (hE.gu ops o), if_pos rfl]
      left
      split at h
      · rename_i v s1 h1
        split at h
        · rename_i s2 h2
          refine oneA_goes hcall hR (hE.ev _) h1 _ Q ?_
          intro c w' J' hG hlm hv henv hA _
          have hE' : ER J' s1 a := by
            have := hE.mono (J' := J') hG.mono hlm
            intro t u hu
            exact this t u (by rw [henv] at hu; exact hu)
          have hE2 := putA_ER h2 hE' hn hv
          have hG2 : Good J s w J' s2 w' := by rw [putA_env h2]; exact hG.env _
          refine opsN_goes hcall l (k + 1) s2 J' w' (a.put o.dst c) s' hl' h hG2.hr hE2 (by rw [put_size]; exact hn) ?_
          rintro a' w2 ⟨J2, q1, q2, q3, q4, q5⟩
          exact hQ a' w2 ⟨J2, hG2.trans q1, q2, by rw [q3, put_size], by rw [q4, put_defers], hA.trans (q5.mono (fun k hk => Nat.le_trans hG2.next hk))⟩
        · cases h
      · cases h
    · rename_i hw
      rw [wantedA_sim hw (hE.gu ops o), if_neg (by simp)]
      split at h
      · rename_i s1 h1
        have hE2 := putA_ER h1 hE hn (c := undef) (.glob _ _ (VG.of_flat rfl))
        have hG2 : Good J s w J s1 w := by rw [putA_env h1]; exact (Good.refl hR).env _
        refine opsN_goes hcall l (k + 1) s1 J w (a.put o.dst undef) s' hl' h hG2.hr hE2 (by rw [put_size]; exact hn) ?_
        rintro a' w2 ⟨J2, q1, q2, q3, q4, q5⟩
        exact hQ a' w2 ⟨J2, hG2.trans q1, q2, by rw [q3, put_size], by rw [q4, put_defers], q5.mono (fun k hk => Nat.le_trans hG2.next hk)⟩
      · cases h
    · cases h

theorem region_goes {H : Hint} {call : CallT} (hcall : CallOK P call) {f : FuncId} {nt : Nat} {ops : Array Oper} {id : Nat} {a : Act} {s' : St} (h : opsN P H call f nt ops ops.toList s = some s') (hR : HR J s w) (hE : ER J s a) (hn : nt ≤ a.tmps.size) :
    (Code.region id ops false).wp P (fun e a' w' => e = .normal ∧ Post J s w a s' a' w') a w := by
  refine wp_region ?_
  have := opsN_goes (Q := fun e a' w' => e = .normal ∧ Post J s w a s' a' w') hcall ops.toList 0 s J w a s' (fun j => by simp) h hR hE hn (fun a' w' q => ⟨rfl, q⟩)
  rw [List.range_eq_range']
  simpa using this

end Go.Sim
