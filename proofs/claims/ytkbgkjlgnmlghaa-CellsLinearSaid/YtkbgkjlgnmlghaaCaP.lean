import Derived.Test.YtkbgkjlgnmlghaaSymD
import Derived.Test.YtkbgkjlgnmlghaaFracA
import Derived.KernelRfl
import Derived.Test.YtkbgkjlgnmlghaaCaA
import Derived.Test.YtkbgkjlgnmlghaaCxR
set_option linter.unusedSimpArgs false
set_option linter.unusedVariables false
namespace Go.Proofs.Ytkbgkjlgnmlghaa
open Go.Sim
set_option linter.unusedVariables false
set_option maxRecDepth 100000
theorem wf64_of {n : Int} (h : (Lit.int .i64 n).wf = true) : i64 n:=by
 unfold i64
 simp [Lit.wf,IntKind.min,IntKind.max,IntKind.signed,IntKind.bits] at h;omega
theorem cellsI : Try.prog.cellsOf 2 = 1:=by kernel_rfl
theorem cellsF : Try.prog.cellsOf 23 = 2:=by kernel_rfl
theorem len2 {l : List Value} (h : l.length = 2) : ∃ a b,l = [a,b]:=by
 match l,h with
 | [a,b],_ => exact ⟨a,b,rfl⟩
theorem len4 {l : List Value} (h : l.length = 4) : ∃ a b c d,l = [a,b,c,d]:=by
 match l,h with
 | [a,b,c,d],_ => exact ⟨a,b,c,d,rfl⟩
theorem frac_dec {w : World} {base d : Nat} {l : List Value} (h : TS Try.prog w base d 23 l) : ∃ x y,l = [.int .i64 x,.int .i64 y] ∧ i64 x ∧ i64 y:=by
 cases d with
 | zero => exact h.elim
 | succ d =>
  obtain ⟨h1,h2⟩:=ts_struct Try.underlying23 h
  rw [cellsF] at h1
  obtain ⟨a,b,rfl⟩:=len2 h1
  simp only [List.forall_mem_cons,List.not_mem_nil,false_imp_iff,implies_true,and_true,cellsI,List.drop,List.take] at h2
  obtain ⟨g0,g1⟩:=h2
  cases d with
  | zero => exact g0.elim
  | succ d =>
   obtain ⟨x,e1,w1⟩:=ts_int Try.underlying2 g0
   obtain ⟨y,e2,w2⟩:=ts_int Try.underlying2 g1
   simp only [List.cons.injEq,and_true] at e1 e2
   subst e1 e2
   exact ⟨x,y,rfl,wf64_of w1,wf64_of w2⟩
end Go.Proofs.Ytkbgkjlgnmlghaa
namespace Go.Proofs.Ytkbgkjlgnmlghaa
open Go.Sim
set_option linter.unusedVariables false
set_option maxRecDepth 100000
theorem cellsS : Try.prog.cellsOf 25 = 4:=by kernel_rfl
theorem spot_dec {w : World} {base d : Nat} {l : List Value} (h : TS Try.prog w base d 25 l) : ∃ k : Sk,l.map (absV w) = k.cells ∧ k.i64:=by
 cases d with
 | zero => exact h.elim
 | succ d =>
  obtain ⟨h1,h2⟩:=ts_struct Try.underlying25 h
  rw [cellsS] at h1
  obtain ⟨a,b,c,e,rfl⟩:=len4 h1
  simp only [List.forall_mem_cons,List.not_mem_nil,false_imp_iff,implies_true,and_true,cellsF,List.drop,List.take] at h2
  obtain ⟨g0,g1⟩:=h2
  obtain ⟨x,y,e1,w1,w2⟩:=frac_dec g0
  obtain ⟨z,u,e2,w3,w4⟩:=frac_dec g1
  simp only [List.cons.injEq,and_true] at e1 e2
  obtain ⟨rfl,rfl⟩:=e1
  obtain ⟨rfl,rfl⟩:=e2
  exact ⟨⟨x,y,z,u⟩,rfl,w1,w2,w3,w4⟩
theorem spots_in {w : World} {h : AHeap} (hn : h.next = w.heap.size) (hm : ∀ b,b < w.heap.size → h.m.get b = absB w b) {H : Type} {enc : TypeId × Value → H} {base fuel b0 : Nat} {held : Bool} {r : Reach} {v : Value} {x : DataW H × List MemPlace}
  (hval : Value.okWide Try.prog w r b0 26 v) (hf : DataW.trod enc Try.prog w base (fun _ => true) held fuel 26 v.cells.toList = some x) :
  ∃ a n c l,v = .slice a n c ∧ repC w v = true ∧ n ≤ c ∧ c ≤ maxLen ∧ Sps h a n l ∧ allS l:=by
 obtain ⟨a,n,c,d,rfl,hr,hrep,rfl,hts⟩:=value_slice Try.underlying26 hval hf
 obtain ⟨xs,k1,k2,k3,k4,k5⟩:=slice_in hn hm Try.underlying26 hts hrep Sk.cells cellsS (by omega) (fun _ => rfl) Sk.i64 (fun l hl => spot_dec hl)
 refine ⟨a,n,c,xs,rfl,hr,k2,k3,⟨k4,fun _ => rfl,by omega⟩,fun i i0 i1 => ?_⟩
 refine k5 _ ?_
 unfold gt
 rw [List.getD_eq_getElem?_getD,List.getElem?_eq_getElem (by omega)]
 exact List.getElem_mem ..
end Go.Proofs.Ytkbgkjlgnmlghaa
namespace Go.Proofs.Ytkbgkjlgnmlghaa
open Go.Sim
set_option linter.unusedVariables false
set_option maxRecDepth 100000
theorem len3 {α : Type} {l : List α} (h : l.length = 3) : ∃ a b c,l = [a,b,c]:=by
 match l,h with
 | [a,b,c],_ => exact ⟨a,b,c,rfl⟩
theorem cellsC : Try.prog.cellsOf 46 = 3:=by kernel_rfl
def Ck.i64 (k : Ck) : Prop:=Go.Proofs.Ytkbgkjlgnmlghaa.i64 k.a ∧ Go.Proofs.Ytkbgkjlgnmlghaa.i64 k.b ∧ Go.Proofs.Ytkbgkjlgnmlghaa.i64 k.d
theorem cx_dec' {w : World} {base d : Nat} {l : List Value} (h : TS Try.prog w base d 46 l) : ∃ x y z,l = [.int .i64 x,.int .i64 y,.int .i64 z] ∧ Go.Proofs.Ytkbgkjlgnmlghaa.i64 x ∧ Go.Proofs.Ytkbgkjlgnmlghaa.i64 y ∧ Go.Proofs.Ytkbgkjlgnmlghaa.i64 z:=by
 cases d with
 | zero => exact h.elim
 | succ d =>
  obtain ⟨h1,h2⟩:=ts_struct Try.underlying46 h
  rw [cellsC] at h1
  obtain ⟨a,b,c,rfl⟩:=len3 h1
  simp only [List.forall_mem_cons,List.not_mem_nil,false_imp_iff,implies_true,and_true,cellsI,List.drop,List.take] at h2
  obtain ⟨g0,g1,g2⟩:=h2
  cases d with
  | zero => exact g0.elim
  | succ d =>
   obtain ⟨x,e1,w1⟩:=ts_int Try.underlying2 g0
   obtain ⟨y,e2,w2⟩:=ts_int Try.underlying2 g1
   obtain ⟨z,e3,w3⟩:=ts_int Try.underlying2 g2
   simp only [List.cons.injEq,and_true] at e1 e2 e3
   subst e1 e2 e3
   exact ⟨x,y,z,rfl,wf64_of w1,wf64_of w2,wf64_of w3⟩
theorem cx_dec {w : World} {base d : Nat} {l : List Value} (h : TS Try.prog w base d 46 l) : ∃ k : Ck,l.map (absV w) = k.cells ∧ k.i64:=by
 obtain ⟨x,y,z,rfl,w⟩:=cx_dec' h
 exact ⟨⟨x,y,z⟩,rfl,w⟩
theorem cx_in {w : World} {h : AHeap} (hn : h.next = w.heap.size) (hm : ∀ b,b < w.heap.size → h.m.get b = absB w b) {H : Type} {enc : TypeId × Value → H} {base fuel b0 : Nat} {held : Bool} {r : Reach} {v : Value} {x : DataW H × List MemPlace}
  (hval : Value.okWide Try.prog w r b0 46 v) (hf : DataW.trod enc Try.prog w base (fun _ => true) held fuel 46 v.cells.toList = some x) :
  ∃ a b d,v = .agg #[.int .i64 a,.int .i64 b,.int .i64 d] ∧ repC w v = true ∧ i64 a ∧ i64 b ∧ i64 d:=by
 obtain ⟨cs,rfl,hsz,hrow⟩ : ∃ cs,v = .agg cs ∧ cs.size = Try.prog.cellsOf 46 ∧ Row.okWide Try.prog w r b0 46 cs:=by
  unfold Value.okWide at hval;rw [Try.underlying46] at hval;exact hval
 have hts : TS Try.prog w base fuel 46 cs.toList:=ts_of_trod (fun _ => rfl) _ _ _ _ hf
 obtain ⟨a,b,d,e,w1,w2,w3⟩:=cx_dec' hts
 obtain rfl : cs = #[.int .i64 a,.int .i64 b,.int .i64 d]:=by cases cs;simp_all
 exact ⟨a,b,d,rfl,rfl,w1,w2,w3⟩
theorem cxs_in {w : World} {h : AHeap} (hn : h.next = w.heap.size) (hm : ∀ b,b < w.heap.size → h.m.get b = absB w b) {H : Type} {enc : TypeId × Value → H} {base fuel b0 : Nat} {held : Bool} {r : Reach} {v : Value} {x : DataW H × List MemPlace}
  (hval : Value.okWide Try.prog w r b0 27 v) (hf : DataW.trod enc Try.prog w base (fun _ => true) held fuel 27 v.cells.toList = some x) :
  ∃ a n c l,v = .slice a n c ∧ repC w v = true ∧ n ≤ c ∧ c ≤ maxLen ∧ Cs h a n l ∧ ∀ k,k ∈ l → k.i64:=by
 obtain ⟨a,n,c,d,rfl,hr,hrep,rfl,hts⟩:=value_slice Try.underlying27 hval hf
 obtain ⟨xs,k1,k2,k3,k4,k5⟩:=slice_in hn hm Try.underlying27 hts hrep Ck.cells cellsC (by omega) (fun _ => rfl) Ck.i64 (fun l hl => cx_dec hl)
 exact ⟨a,n,c,xs,rfl,hr,k2,k3,⟨k4,fun _ => rfl,by omega⟩,k5⟩
end Go.Proofs.Ytkbgkjlgnmlghaa
