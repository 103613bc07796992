import Derived.Test.YtkbgkjlgnmlghaaGreatCaM
import Derived.Test.YtkbgkjlgnmlghaaGreatCxR
import Derived.Test.YtkbgkjlgnmlghaaGreatCaFa
import Derived.Test.YtkbgkjlgnmlghaaGreatCaZ
set_option linter.unusedSimpArgs false
set_option linter.unusedVariables false
namespace Go.Proofs.YtkbgkjlgnmlghaaGreat
open Go.Sim
set_option linter.unusedVariables false
set_option maxRecDepth 100000
theorem len3 {α : Type} {l : List α} (h : l.length = 3) : ∃ a b c,l = [a,b,c]:=by
 match l,h with
 | [a,b,c],_ => exact ⟨a,b,c,rfl⟩
theorem cellsC : Tryz.prog.cellsOf 33 = 3:=by kernel_rfl
def Ck.i64 (k : Ck) : Prop:=Go.Proofs.YtkbgkjlgnmlghaaGreat.i64 k.a ∧ Go.Proofs.YtkbgkjlgnmlghaaGreat.i64 k.b ∧ Go.Proofs.YtkbgkjlgnmlghaaGreat.i64 k.d
theorem cx_dec' {w : World} {base d : Nat} {l : List Value} (h : TS Tryz.prog w base d 33 l) : ∃ x y z,l = [.int .i64 x,.int .i64 y,.int .i64 z] ∧ Go.Proofs.YtkbgkjlgnmlghaaGreat.i64 x ∧ Go.Proofs.YtkbgkjlgnmlghaaGreat.i64 y ∧ Go.Proofs.YtkbgkjlgnmlghaaGreat.i64 z:=by
 cases d with
 | zero => exact h.elim
 | succ d =>
  obtain ⟨h1,h2⟩:=ts_struct Tryz.underlying33 h
  rw [cellsC] at h1
  obtain ⟨a,b,c,rfl⟩:=len3 h1
  simp only [List.forall_mem_cons,List.not_mem_nil,false_imp_iff,implies_true,and_true,cellsI,List.drop,List.take] at h2
  obtain ⟨g0,g1,g2⟩:=h2
  cases d with
  | zero => exact g0.elim
  | succ d =>
   obtain ⟨x,e1,w1⟩:=ts_int Tryz.underlying2 g0
   obtain ⟨y,e2,w2⟩:=ts_int Tryz.underlying2 g1
   obtain ⟨z,e3,w3⟩:=ts_int Tryz.underlying2 g2
   simp only [List.cons.injEq,and_true] at e1 e2 e3
   subst e1 e2 e3
   exact ⟨x,y,z,rfl,wf64_of w1,wf64_of w2,wf64_of w3⟩
theorem cx_dec {w : World} {base d : Nat} {l : List Value} (h : TS Tryz.prog w base d 33 l) : ∃ k : Ck,l.map (absV w) = k.cells ∧ k.i64:=by
 obtain ⟨x,y,z,rfl,w⟩:=cx_dec' h
 exact ⟨⟨x,y,z⟩,rfl,w⟩
theorem cxs_in {w : World} {h : AHeap} (hn : h.next = w.heap.size) (hm : ∀ b,b < w.heap.size → h.m.get b = absB w b) {H : Type} {enc : TypeId × Value → H} {base fuel b0 : Nat} {held : Bool} {r : Reach} {v : Value} {x : DataW H × List MemPlace}
  (hval : Value.okWide Tryz.prog w r b0 24 v) (hf : DataW.trod enc Tryz.prog w base (fun _ => true) held fuel 24 v.cells.toList = some x) :
  ∃ a n c l,v = .slice a n c ∧ repC w v = true ∧ n ≤ c ∧ c ≤ maxLen ∧ Cs h a n l ∧ ∀ k,k ∈ l → k.i64:=by
 obtain ⟨a,n,c,d,rfl,hr,hrep,rfl,hts⟩:=value_slice Tryz.underlying24 hval hf
 obtain ⟨xs,k1,k2,k3,k4,k5⟩:=slice_in hn hm Tryz.underlying24 hts hrep Ck.cells cellsC (by omega) (fun _ => rfl) Ck.i64 (fun l hl => cx_dec hl)
 exact ⟨a,n,c,xs,rfl,hr,k2,k3,⟨k4,fun _ => rfl,by omega⟩,k5⟩
end Go.Proofs.YtkbgkjlgnmlghaaGreat
namespace Go.Proofs.YtkbgkjlgnmlghaaGreat
open Go.Sim
set_option linter.unusedVariables false
set_option maxRecDepth 100000
theorem cellsR : Tryz.prog.cellsOf 24 = 1:=by kernel_rfl
theorem rep_slice {w : World} {a : Addr} {len cap : Nat} (h1 : a.spot = none) (h2 : isCells w a.block = true) (h3 : cap ≤ maxLen) : absV w (.slice (some a) len cap) = .slice (some a) len cap:=by
 unfold absV
 have h4 : cap < slack:=by unfold maxLen at h3;unfold slack;omega
 rw [if_pos]
 show (a.spot.isNone && decide (cap < slack) && isCells w a.block) = true
 rw [h1,h2]
 simp [h4]
def RowRd (h : AHeap) (p : Hd × List Ck) : Prop:=Cs h p.1.a p.1.n p.2 ∨ (p.1.n = 0 ∧ p.2 = [])
theorem crow_in {w : World} {h : AHeap} (hn : h.next = w.heap.size) (hm : ∀ b,b < w.heap.size → h.m.get b = absB w b) {base d : Nat} {l : List Value} (hl : TS Tryz.prog w base d 24 l) : ∃ p : Hd × List Ck,l.map (absV w) = p.1.cells ∧ (RowRd h p ∧ ∀ k,k ∈ p.2 → k.i64):=by
 cases d with
 | zero => exact hl.elim
 | succ d =>
  have hts:=hl
  unfold TS at hl
  rw [Tryz.underlying24] at hl
  have go : ∀ (a : Addr) (len cap : Nat),a.spot = none → isCells w a.block = true → cap ≤ maxLen → TS Tryz.prog w base (d + 1) 24 [.slice (some a) len cap] → ∃ p : Hd × List Ck,[Value.slice (some a) len cap].map (absV w) = p.1.cells ∧ (RowRd h p ∧ ∀ k,k ∈ p.2 → k.i64):=by
   intro a len cap h1 h2 h3 ht
   obtain ⟨xs,k1,k2,k3,k4,k5⟩:=slice_in hn hm Tryz.underlying24 ht ⟨(fun q => by cases q),fun x hx => by cases hx;exact ⟨h1,h2⟩⟩ Ck.cells cellsC (by omega) (fun _ => rfl) Ck.i64 (fun l hl => cx_dec hl)
   refine ⟨(⟨some a,len,cap⟩,xs),?_,.inl ⟨k4,fun _ => rfl,by omega⟩,k5⟩
   show [absV w (.slice (some a) len cap)] = _
   rw [rep_slice h1 h2 h3]
   rfl
  rcases hl with rfl | ⟨a,len,cap,rfl,h2,h3,h4,h5⟩
  ·exact ⟨(⟨none,0,0⟩,[]),rfl,.inr ⟨rfl,rfl⟩,fun k q => by simp at q⟩
  ·by_cases hc : 0 < cap
   ·obtain ⟨s1,s2⟩:=h5 hc (by rw [cellsC];omega)
    exact go a len cap s1 s2 h3 hts
   ·have hc0 : cap = 0:=by omega
    have hl0 : len = 0:=by omega
    subst hc0 hl0
    by_cases hr : a.spot = none ∧ isCells w a.block = true
    ·exact go a 0 0 hr.1 hr.2 h3 hts
    ·refine ⟨(⟨some ⟨0,0,some 0⟩,0,0⟩,[]),?_,.inr ⟨rfl,rfl⟩,fun k q => by simp at q⟩
     show [absV w (.slice (some a) 0 0)] = _
     have : repV w (.slice (some a) 0 0) = false:=by
      show (a.spot.isNone && decide (0 < slack) && isCells w a.block) = false
      cases hs : a.spot with
      | some s => rfl
      | none =>
       have : isCells w a.block = false:=by
        cases hi : isCells w a.block with
        | false => rfl
        | true => exact absurd ⟨hs,hi⟩ hr
       rw [this];simp
     unfold absV
     rw [this]
     rfl
theorem cgrid_in {w : World} {h : AHeap} (hn : h.next = w.heap.size) (hm : ∀ b,b < w.heap.size → h.m.get b = absB w b) {H : Type} {enc : TypeId × Value → H} {base fuel b0 : Nat} {held : Bool} {r : Reach} {v : Value} {x : DataW H × List MemPlace}
  (hval : Value.okWide Tryz.prog w r b0 22 v) (hf : DataW.trod enc Tryz.prog w base (fun _ => true) held fuel 22 v.cells.toList = some x) :
  ∃ a n c hs g,v = .slice a n c ∧ repC w v = true ∧ n ≤ c ∧ c ≤ maxLen ∧ GridRd h a n hs g ∧ ∀ y,y ∈ g → ∀ k,k ∈ y → k.i64:=by
 obtain ⟨a,n,c,d,rfl,hr,hrep,rfl,hts⟩:=value_slice Tryz.underlying22 hval hf
 obtain ⟨xs,k1,k2,k3,k4,k5⟩:=slice_in hn hm Tryz.underlying22 hts hrep (fun p : Hd × List Ck => p.1.cells) cellsR (by omega) (fun _ => rfl) (fun p => RowRd h p ∧ ∀ k,k ∈ p.2 → k.i64) (fun l hl => crow_in hn hm hl)
 have lx : xs.length = n:=by
  have:=k4.length
  rw [flatE_len (enc:=fun p : Hd × List Ck => p.1.cells) (es:=1) (fun _ => rfl)] at this
  omega
 refine ⟨a,n,c,xs.map (·.1),xs.map (·.2),rfl,hr,k2,k3,⟨⟨?_,fun _ => rfl,by omega⟩,by simp [lx],fun y y0 y1 => ?_⟩,?_⟩
 ·rw [List.flatMap_map];exact k4
 ·have hy : y.toNat < xs.length:=by omega
  have e1 : gt (xs.map (·.1)) y = (xs[y.toNat]).1:=by unfold gt;rw [List.getD_eq_getElem?_getD,List.getElem?_map,List.getElem?_eq_getElem hy];rfl
  have e2 : gt (xs.map (·.2)) y = (xs[y.toNat]).2:=by unfold gt;rw [List.getD_eq_getElem?_getD,List.getElem?_map,List.getElem?_eq_getElem hy];rfl
  rw [e1,e2]
  exact (k5 _ (List.getElem_mem hy)).1
 ·intro y hy
  rw [List.mem_map] at hy
  obtain ⟨p,hp,rfl⟩:=hy
  exact (k5 p hp).2
variable {F : Prims} {call head arith cmp scmp bnot bsame conv neg imax imin ofNat slen place inR nz geZ rd wr push next mkOK nat zeros sadd eqAgg cut slc sslc strAt part app cpy putAt fresh lowered bump wrote addN lt ne fpAll fpApp brk yn rng mget mput mnew bytes clr : _} (hA : AP F ⟨call,head,arith,cmp,scmp,bnot,bsame,conv,neg,imax,imin,ofNat,slen,place,inR,nz,geZ,rd,wr,push,next,mkOK,nat,zeros,sadd,eqAgg,cut,slc,sslc,strAt,part,app,cpy,putAt,fresh,lowered,bump,wrote,addN,lt,ne,fpAll,fpApp,brk,yn,rng,mget,mput,mnew,bytes,clr⟩)
include hA
end Go.Proofs.YtkbgkjlgnmlghaaGreat
