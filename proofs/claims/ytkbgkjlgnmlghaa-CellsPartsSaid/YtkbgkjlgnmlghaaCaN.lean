import Derived.Test.YtkbgkjlgnmlghaaFracIn
import Derived.Test.YtkbgkjlgnmlghaaCaA
set_option linter.unusedSimpArgs false
set_option linter.unusedVariables false
namespace Go.Proofs.Ytkbgkjlgnmlghaa
open Go.Sim
set_option linter.unusedVariables false
set_option maxRecDepth 100000
theorem cellsS : Try.prog.cellsOf 25 = 4:=by kernel_rfl
theorem spot_dec {w : World} {base d : Nat} {l : List Value} (h : TS Try.prog w base d 25 l) : ∃ k : Sk,l.map (absV w) = k.cells ∧ k.i64:=by
 cases d with
 | zero => exact h.elim
 | succ d =>
  obtain ⟨h1,h2⟩:=ts_struct Try.underlying25 h
  rw [cellsS] at h1
  obtain ⟨a,b,c,e,rfl⟩:=len4 h1
  simp only [List.forall_mem_cons,List.not_mem_nil,false_imp_iff,implies_true,and_true,cellsF,List.drop,List.take] at h2
  obtain ⟨g0,g1⟩:=h2
  obtain ⟨x,y,e1,w1,w2⟩:=frac_dec g0
  obtain ⟨z,u,e2,w3,w4⟩:=frac_dec g1
  simp only [List.cons.injEq,and_true] at e1 e2
  obtain ⟨rfl,rfl⟩:=e1
  obtain ⟨rfl,rfl⟩:=e2
  exact ⟨⟨x,y,z,u⟩,rfl,w1,w2,w3,w4⟩
theorem spot_in {w : World} {h : AHeap} (hn : h.next = w.heap.size) (hm : ∀ b,b < w.heap.size → h.m.get b = absB w b) {H : Type} {enc : TypeId × Value → H} {base fuel b0 : Nat} {held : Bool} {r : Reach} {v : Value} {x : DataW H × List MemPlace}
  (hval : Value.okWide Try.prog w r b0 25 v) (hf : DataW.trod enc Try.prog w base (fun _ => true) held fuel 25 v.cells.toList = some x) :
  ∃ un ud vn vd,v = .agg #[.int .i64 un,.int .i64 ud,.int .i64 vn,.int .i64 vd] ∧ repC w v = true ∧ (i64 un ∧ i64 ud) ∧ i64 vn ∧ i64 vd:=by
 obtain ⟨cs,rfl,hsz,hrow⟩ : ∃ cs,v = .agg cs ∧ cs.size = Try.prog.cellsOf 25 ∧ Row.okWide Try.prog w r b0 25 cs:=by
  unfold Value.okWide at hval;rw [Try.underlying25] at hval;exact hval
 have hts : TS Try.prog w base fuel 25 cs.toList:=ts_of_trod (fun _ => rfl) _ _ _ _ hf
 cases fuel with
 | zero => exact hts.elim
 | succ fuel =>
  obtain ⟨h1,h2⟩:=ts_struct Try.underlying25 hts
  rw [cellsS] at h1
  obtain ⟨a,b,c,e,hl⟩:=len4 h1
  rw [hl] at h2
  simp only [List.forall_mem_cons,List.not_mem_nil,false_imp_iff,implies_true,and_true,cellsF,List.drop,List.take] at h2
  obtain ⟨g0,g1⟩:=h2
  obtain ⟨x,y,e1,w1,w2⟩:=frac_dec g0
  obtain ⟨z,u,e2,w3,w4⟩:=frac_dec g1
  simp only [List.cons.injEq,and_true] at e1 e2
  obtain ⟨rfl,rfl⟩:=e1
  obtain ⟨rfl,rfl⟩:=e2
  obtain rfl : cs = #[.int .i64 x,.int .i64 y,.int .i64 z,.int .i64 u]:=by cases cs;simp_all
  exact ⟨x,y,z,u,rfl,rfl,⟨w1,w2⟩,w3,w4⟩
end Go.Proofs.Ytkbgkjlgnmlghaa
