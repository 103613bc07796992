import Derived.Test.YtnokkniofajnhaaQuD
import Derived.Test.YtnokkniofajnhaaSymD
set_option linter.unusedSimpArgs false
set_option linter.unusedVariables false
namespace Go.Proofs.Ytnokkniofajnhaa
open Go.Sim
set_option maxRecDepth 100000
theorem wf64_of {n : Int} (h : (Lit.int .i64 n).wf = true) : i64 n:=by
 unfold i64
 simp [Lit.wf,IntKind.min,IntKind.max,IntKind.signed,IntKind.bits] at h;omega
theorem cells2 : Try.prog.cellsOf 2 = 1:=by kernel_rfl
theorem cells24 : Try.prog.cellsOf 24 = 2:=by kernel_rfl
theorem cells51 : Try.prog.cellsOf 51 = 4:=by kernel_rfl
theorem len2 {l : List Value} (h : l.length = 2) : ∃ a b,l = [a,b]:=by
 match l,h with
 | [a,b],_ => exact ⟨a,b,rfl⟩
theorem len4 {l : List Value} (h : l.length = 4) : ∃ a b c d,l = [a,b,c,d]:=by
 match l,h with
 | [a,b,c,d],_ => exact ⟨a,b,c,d,rfl⟩
theorem frac_dec {w : World} {base d : Nat} {l : List Value} (h : TS Try.prog w base d 24 l) : ∃ x y,l = [.int .i64 x,.int .i64 y] ∧ i64 x ∧ i64 y:=by
 cases d with
 | zero => exact h.elim
 | succ d =>
  obtain ⟨h1,h2⟩:=ts_struct Try.underlying24 h
  rw [cells24] at h1
  obtain ⟨a,b,rfl⟩:=len2 h1
  simp only [List.forall_mem_cons,List.not_mem_nil,false_imp_iff,implies_true,and_true,cells2,List.drop,List.take] at h2
  obtain ⟨g0,g1⟩:=h2
  cases d with
  | zero => exact g0.elim
  | succ d =>
   obtain ⟨x,e1,w1⟩:=ts_int Try.underlying2 g0
   obtain ⟨y,e2,w2⟩:=ts_int Try.underlying2 g1
   simp only [List.cons.injEq,and_true] at e1 e2
   subst e1 e2
   exact ⟨x,y,rfl,wf64_of w1,wf64_of w2⟩
theorem knot_dec {w : World} {base d : Nat} {l : List Value} (h : TS Try.prog w base d 51 l) : ∃ k : Kr,l.map (absV w) = k.cells ∧ k.i64:=by
 cases d with
 | zero => exact h.elim
 | succ d =>
  obtain ⟨h1,h2⟩:=ts_struct Try.underlying51 h
  rw [cells51] at h1
  obtain ⟨a,b,c,e,rfl⟩:=len4 h1
  simp only [List.forall_mem_cons,List.not_mem_nil,false_imp_iff,implies_true,and_true,cells24,List.drop,List.take] at h2
  obtain ⟨g0,g1⟩:=h2
  obtain ⟨x,y,e1,w1,w2⟩:=frac_dec g0
  obtain ⟨z,u,e2,w3,w4⟩:=frac_dec g1
  simp only [List.cons.injEq,and_true] at e1 e2
  obtain ⟨rfl,rfl⟩:=e1
  obtain ⟨rfl,rfl⟩:=e2
  exact ⟨⟨x,y,z,u⟩,rfl,w1,w2,w3,w4⟩
theorem knots_in {w : World} {h : AHeap} (hn : h.next = w.heap.size) (hm : ∀ b,b < w.heap.size → h.m.get b = absB w b) {H : Type} {enc : TypeId × Value → H} {base fuel b0 : Nat} {held : Bool} {r : Reach} {v : Value} {x : DataW H × List MemPlace}
  (hval : Value.okWide Try.prog w r b0 22 v) (hf : DataW.trod enc Try.prog w base (fun _ => true) held fuel 22 v.cells.toList = some x) :
  ∃ a n c l,v = .slice a n c ∧ repC w v = true ∧ n ≤ c ∧ c ≤ maxLen ∧ Ks h a n l ∧ allI64 l:=by
 obtain ⟨a,n,c,d,rfl,hr,hrep,rfl,hts⟩:=value_slice Try.underlying22 hval hf
 obtain ⟨xs,k1,k2,k3,k4,k5⟩:=slice_in hn hm Try.underlying22 hts hrep Kr.cells cells51 (by omega) (fun _ => rfl) Kr.i64 (fun l hl => knot_dec hl)
 refine ⟨a,n,c,xs,rfl,hr,k2,k3,⟨k4,fun _ => rfl,by omega⟩,fun i i0 i1 => ?_⟩
 refine k5 _ ?_
 unfold gt
 rw [List.getD_eq_getElem?_getD,List.getElem?_eq_getElem (by omega)]
 exact List.getElem_mem ..
theorem frac_in {w : World} {h : AHeap} (hn : h.next = w.heap.size) (hm : ∀ b,b < w.heap.size → h.m.get b = absB w b) {H : Type} {enc : TypeId × Value → H} {base fuel b0 : Nat} {held : Bool} {r : Reach} {v : Value} {x : DataW H × List MemPlace}
  (hval : Value.okWide Try.prog w r b0 24 v) (hf : DataW.trod enc Try.prog w base (fun _ => true) held fuel 24 v.cells.toList = some x) :
  ∃ n d,v = .agg #[.int .i64 n,.int .i64 d] ∧ repC w v = true ∧ i64 n ∧ i64 d:=by
 obtain ⟨cs,rfl,hsz,hrow⟩ : ∃ cs,v = .agg cs ∧ cs.size = Try.prog.cellsOf 24 ∧ Row.okWide Try.prog w r b0 24 cs:=by
  unfold Value.okWide at hval;rw [Try.underlying24] at hval;exact hval
 have hts : TS Try.prog w base fuel 24 cs.toList:=ts_of_trod (fun _ => rfl) _ _ _ _ hf
 obtain ⟨n,d,e,w1,w2⟩:=frac_dec hts
 obtain rfl : cs = #[.int .i64 n,.int .i64 d]:=by cases cs;simp_all
 exact ⟨n,d,rfl,rfl,w1,w2⟩
end Go.Proofs.Ytnokkniofajnhaa
namespace Go.Proofs.Ytnokkniofajnhaa
open Go.Sim
set_option maxRecDepth 100000
theorem cells3' : Try.prog.cellsOf 3 = 1:=by kernel_rfl
theorem cellsLag : Try.prog.cellsOf 41 = 2:=by kernel_rfl
theorem cells39 : Try.prog.cellsOf 39 = 5:=by kernel_rfl
theorem under39 : Try.prog.underlying 39 = some (.array 5 3):=by kernel_rfl
theorem len5 {l : List Value} (h : l.length = 5) : ∃ a b c d e,l = [a,b,c,d,e]:=by
 match l,h with
 | [a,b,c,d,e],_ => exact ⟨a,b,c,d,e,rfl⟩
theorem lag_dec {w : World} {base d : Nat} {l : List Value} (h : TS Try.prog w base d 41 l) : ∃ x y,l = [.int .i64 x,.int .i64 y] ∧ i64 x ∧ i64 y:=by
 cases d with
 | zero => exact h.elim
 | succ d =>
  obtain ⟨h1,h2⟩:=ts_struct Try.underlying41 h
  rw [cellsLag] at h1
  obtain ⟨a,b,rfl⟩:=len2 h1
  simp only [List.forall_mem_cons,List.not_mem_nil,false_imp_iff,implies_true,and_true,cells3',List.drop,List.take] at h2
  obtain ⟨g0,g1⟩:=h2
  cases d with
  | zero => exact g0.elim
  | succ d =>
   obtain ⟨x,e1,w1⟩:=ts_int Try.underlying3 g0
   obtain ⟨y,e2,w2⟩:=ts_int Try.underlying3 g1
   simp only [List.cons.injEq,and_true] at e1 e2
   subst e1 e2
   exact ⟨x,y,rfl,wf64_of w1,wf64_of w2⟩
theorem lag_in {w : World} {h : AHeap} (hn : h.next = w.heap.size) (hm : ∀ b,b < w.heap.size → h.m.get b = absB w b) {H : Type} {enc : TypeId × Value → H} {base fuel b0 : Nat} {held : Bool} {r : Reach} {v : Value} {x : DataW H × List MemPlace}
  (hval : Value.okWide Try.prog w r b0 41 v) (hf : DataW.trod enc Try.prog w base (fun _ => true) held fuel 41 v.cells.toList = some x) :
  ∃ n d,v = .agg #[.int .i64 n,.int .i64 d] ∧ repC w v = true ∧ i64 n ∧ i64 d:=by
 obtain ⟨cs,rfl,hsz,hrow⟩ : ∃ cs,v = .agg cs ∧ cs.size = Try.prog.cellsOf 41 ∧ Row.okWide Try.prog w r b0 41 cs:=by
  unfold Value.okWide at hval;rw [Try.underlying41] at hval;exact hval
 have hts : TS Try.prog w base fuel 41 cs.toList:=ts_of_trod (fun _ => rfl) _ _ _ _ hf
 obtain ⟨n,d,e,w1,w2⟩:=lag_dec hts
 obtain rfl : cs = #[.int .i64 n,.int .i64 d]:=by cases cs;simp_all
 exact ⟨n,d,rfl,rfl,w1,w2⟩
theorem counts_dec {w : World} {base d : Nat} {l : List Value} (h : TS Try.prog w base d 39 l) : ∃ a b c d e,l = [.int .i64 a,.int .i64 b,.int .i64 c,.int .i64 d,.int .i64 e]:=by
 cases d with
 | zero => exact h.elim
 | succ d =>
  unfold TS at h
  rw [under39] at h
  obtain ⟨h1,h2⟩:=h
  rw [cells39] at h1
  obtain ⟨a,b,c,e,f,rfl⟩:=len5 h1
  have g0:=h2 0 (by omega)
  have g1:=h2 1 (by omega)
  have g2:=h2 2 (by omega)
  have g3:=h2 3 (by omega)
  have g4:=h2 4 (by omega)
  simp only [cells3',Nat.zero_mul,Nat.one_mul,Nat.mul_one,List.drop,List.take] at g0 g1 g2 g3 g4
  cases d with
  | zero => exact g0.elim
  | succ d =>
   obtain ⟨x0,e0,_⟩:=ts_int Try.underlying3 g0
   obtain ⟨x1,e1,_⟩:=ts_int Try.underlying3 g1
   obtain ⟨x2,e2,_⟩:=ts_int Try.underlying3 g2
   obtain ⟨x3,e3,_⟩:=ts_int Try.underlying3 g3
   obtain ⟨x4,e4,_⟩:=ts_int Try.underlying3 g4
   simp only [List.cons.injEq,and_true] at e0 e1 e2 e3 e4
   subst e0 e1 e2 e3 e4
   exact ⟨x0,x1,x2,x3,x4,rfl⟩
theorem counts_in {w : World} {h : AHeap} (hn : h.next = w.heap.size) (hm : ∀ b,b < w.heap.size → h.m.get b = absB w b) {H : Type} {enc : TypeId × Value → H} {base fuel b0 : Nat} {held : Bool} {r : Reach} {v : Value} {x : DataW H × List MemPlace}
  (hval : Value.okWide Try.prog w r b0 39 v) (hf : DataW.trod enc Try.prog w base (fun _ => true) held fuel 39 v.cells.toList = some x) :
  ∃ a b c d e,v = .agg #[.int .i64 a,.int .i64 b,.int .i64 c,.int .i64 d,.int .i64 e] ∧ repC w v = true:=by
 obtain ⟨cs,rfl,hsz,hrow⟩ : ∃ cs,v = .agg cs ∧ cs.size = Try.prog.cellsOf 39 ∧ Row.okWide Try.prog w r b0 39 cs:=by
  unfold Value.okWide at hval;rw [under39] at hval;exact hval
 have hts : TS Try.prog w base fuel 39 cs.toList:=ts_of_trod (fun _ => rfl) _ _ _ _ hf
 obtain ⟨a,b,c,d,e,he⟩:=counts_dec hts
 obtain rfl : cs = #[.int .i64 a,.int .i64 b,.int .i64 c,.int .i64 d,.int .i64 e]:=by cases cs;simp_all
 exact ⟨a,b,c,d,e,rfl,rfl⟩
