import Derived.Test.YtogliemiljhliaaRdL
import Derived.Test.YtogliemiljhliaaSymD
import Derived.Test.YtogliemiljhliaaFracA
import Derived.KernelRfl
set_option linter.unusedSimpArgs false
set_option linter.unusedVariables false
namespace Go.Proofs.Ytogliemiljhliaa
open Go.Sim
set_option linter.unusedVariables false
set_option maxRecDepth 100000
def smallF (x : Fc) : Prop:=okF x.n x.d ∧ x.d ≤ 1000 ∧ -1000000 ≤ x.n ∧ x.n ≤ 1000000
def smalls (l : List Fc) : Prop:=∀ i : Int,0 ≤ i → i < l.length → smallF (gt l i)
def inI (l : List Fc) : Prop:=∀ i : Int,0 ≤ i → i < l.length → i64 (gt l i).n ∧ i64 (gt l i).d
def vq (x : Fc) : Rat:=rq x.n x.d
theorem smallF.is {x : Fc} (h : smallF x) : isF x.n x.d (vq x):=h.1.is
theorem smallF.bnd {x : Fc} (h : smallF x) : bnd (vq x) 1000000 1000:=by
 obtain ⟨e1,e2,_⟩:=h.is
 obtain ⟨h1,h2,h3,h4⟩:=h
 unfold Proofs.Ytogliemiljhliaa.bnd
 omega
def asF (q : Rat) : Fc:=⟨q.num,q.den⟩
theorem asF_is {n d : Int} {q : Rat} (h : isF n d q) : (⟨n,d⟩ : Fc) = asF q:=by rw [h.1,h.2.1];rfl
def predQ (l : List Int) (g s : List Fc) (p : P2) : Rat:=vq (gt g p.i) - vq (gt g p.j) + vq (gt s (ixI (clsL l) (diffOf l p)))
def predF (l : List Int) (g s : List Fc) (p : P2) : Fc:=asF (predQ l g s p)
def predL (l : List Int) (g s : List Fc) : List Fc:=(pairsL l.length).map (predF l g s)
def predOk (l : List Int) (g s : List Fc) : Prop:=g.length = l.length ∧ s.length = (clsL l).length ∧ smalls g ∧ smalls s
def PredIs (l : List Int) (g s : List Fc) (e : Int) (out : List Fc) : Prop:=
 (CheckL l e ∧ e ≠ 0 ∧ out = []) ∨ (Line l ∧ ¬ predOk l g s ∧ e = 2 ∧ out = []) ∨ (Line l ∧ predOk l g s ∧ e = 0 ∧ out = predL l g s)
theorem Line.chk {l : List Int} (ln : Line l) : CheckL l 0:=.inr (.inr (.inr ⟨⟨ln.n2,ln.n5⟩,ln.good,rfl⟩))
theorem PredIs.uniq {l : List Int} {g s : List Fc} {e e' : Int} {o o' : List Fc} (h : PredIs l g s e o) (k : PredIs l g s e' o') : e = e' ∧ o = o':=by
 have line : Line l → CheckL l e → e = 0:=fun ln q => q.uniq ln.chk
 have line' : Line l → CheckL l e' → e' = 0:=fun ln q => q.uniq ln.chk
 rcases h with ⟨h1,h2,rfl⟩ | ⟨h1,h2,rfl,rfl⟩ | ⟨h1,h2,rfl,rfl⟩ <;> rcases k with ⟨k1,k2,rfl⟩ | ⟨k1,k2,rfl,rfl⟩ | ⟨k1,k2,rfl,rfl⟩
 ·exact ⟨h1.uniq k1,rfl⟩
 ·exact absurd (line k1 h1) h2
 ·exact absurd (line k1 h1) h2
 ·exact absurd (line' h1 k1) k2
 ·exact ⟨rfl,rfl⟩
 ·exact absurd k2 h2
 ·exact absurd (line' h1 k1) k2
 ·exact absurd h2 k2
 ·exact ⟨rfl,rfl⟩
theorem sub_small {x y : Fc} (hx : smallF x) (hy : smallF y) : bnd (vq x - vq y) 2000000000 1000000:=hx.bnd.sub hy.bnd
theorem pred_small {x y z : Fc} (hx : smallF x) (hy : smallF y) (hz : smallF z) : bnd (vq x - vq y + vq z) 3000000000000 1000000000:=(sub_small hx hy).add hz.bnd
theorem sub_fits {x y : Fc} (hx : smallF x) (hy : smallF y) : fits (vq x - vq y):=(sub_small hx hy).fits (by decide) (by decide)
theorem pred_fits {x y z : Fc} (hx : smallF x) (hy : smallF y) (hz : smallF z) : fits (vq x - vq y + vq z):=(pred_small hx hy hz).fits (by decide) (by decide)
variable {F : Prims} {call head arith cmp scmp bnot bsame conv neg imax imin ofNat slen place inR nz geZ rd wr push next mkOK nat zeros sadd eqAgg cut slc sslc strAt part app cpy putAt fresh lowered bump wrote addN lt ne fpAll fpApp brk yn rng mget mput mnew bytes clr : _} (hA : AP F ⟨call,head,arith,cmp,scmp,bnot,bsame,conv,neg,imax,imin,ofNat,slen,place,inR,nz,geZ,rd,wr,push,next,mkOK,nat,zeros,sadd,eqAgg,cut,slc,sslc,strAt,part,app,cpy,putAt,fresh,lowered,bump,wrote,addN,lt,ne,fpAll,fpApp,brk,yn,rng,mget,mput,mnew,bytes,clr⟩)
include hA
theorem small_loop {h0 : AHeap} (hlow : h0.low ≤ h0.next) {a : Option Addr} {M cp : Nat} {l : List Fc} (hl : Rows fC 2 h0 a M l) (hi : inI l) (hM : M ≤ 100000) {Q : Exit → SS → Prop}
  (hret : ∀ h,¬ smalls l → Ext h0 h → ∀ e kn T,Q .ret ⟨(2,.bool false) :: e,kn,T,h⟩)
  (h9 : ∀ h kn T,smalls l → Ext h0 h → Q (.exit 0) ⟨[],kn,T,h⟩) :
  ∀ (d : Nat) (i : Int) (h : AHeap),(M - i).toNat = d → 0 ≤ i → i ≤ M → (∀ j : Int,0 ≤ j → j < i → smallF (gt l j)) → Ext h0 h →
   head 34 2 0 ⟨[(0,.slice a M cp),(3,.int .i64 i)],0,[],h⟩ Q:=by
 have lM:=hl.len
 intro d
 induction d with
 | zero =>
  intro i h hd i0 i1 hp he
  refine hA.roundR Try.func34 r34_ok (zc ?_)
  refine br (i < (M : Int)) (by rw [e_lss hA,e_ofNat hA]) (fun q => by omega) (fun _ => ?_) <;> refine zc ?_
  exact h9 h _ _ (fun j j0 j1 => hp j j0 (by omega)) he
 | succ d ih =>
 intro i h hd i0 i1 hp he
 obtain ⟨pb,po,ea,_,rr⟩:=(hl.ext he).at (i:=i) i0 (by omega)
 subst ea
 obtain ⟨n,dd,hx⟩ : ∃ x y,gt l i = ⟨x,y⟩:=⟨_,_,rfl⟩
 obtain ⟨in1,in2⟩:=hi i i0 (by omega)
 rw [hx] at in1 in2
 simp only at in1 in2
 have r1:=rr 0 2 (by omega) (by omega)
 rw [hx] at r1
 have r1 : rd h pb (place po i 2) 2 [.int .i64 n,.int .i64 dd]:=rd_ok hA r1
 have no : ¬ smallF ⟨n,dd⟩ → ¬ smalls l:=fun w q => w (by rw [← hx];exact q i i0 (by omega))
 refine hA.roundR Try.func34 r34_ok (zc ?_)
 refine br (i < (M : Int)) (by rw [e_lss hA,e_ofNat hA]) (fun _ => ?_) (fun q => by omega) <;> refine zc ?_
 refine zq ?_
 refine rcheck_ok hA (he.lowOK hlow) in1 in2 (fun e h1 k1 x1 => ⟨_,rfl,?_⟩)
 have e1:=he.trans x1
 obtain ⟨pb',po',ea',_,rr'⟩:=(hl.ext e1).at (i:=i) i0 (by omega)
 cases ea'
 have q0:=rr' 0 1 (by omega) (by omega)
 have q1:=rr' 1 1 (by omega) (by omega)
 rw [hx] at q0 q1
 have q0 : rd h1 pb (addN (place po i 2) 0) 1 [.int .i64 n]:=rd_fld hA q0
 have q1 : rd h1 pb (addN (place po i 2) 1) 1 [.int .i64 dd]:=rd_fld hA q1
 refine zq ?_
 refine br (e ≠ 0) (by rw [e_neq hA]) (fun c1 => ?_) (fun c1 => ?_) <;> refine zc ?_
 ·refine zq ?_
  exact hret h1 (no (fun w => by rcases k1 with ⟨q,_⟩ | ⟨_,q⟩;exact c1 q;exact q w.1)) e1 _ _ _
 have hok : okF n dd:=by rcases k1 with ⟨_,q⟩ | ⟨q,_⟩;exact q;omega
 refine zq ?_
 refine br (1000 < dd) (by rw [e_gtr hA]) (fun c2 => ?_) (fun c2 => ?_) <;> refine zc ?_
 ·refine zq ?_
  exact hret h1 (no (fun w => by have:=w.2.1;simp only at this;omega)) e1 _ _ _
 refine zq ?_
 refine br (1000000 < n) (by rw [e_gtr hA]) (fun c3 => ?_) (fun c3 => ?_) <;> refine zc ?_
 ·refine zq ?_
  exact hret h1 (no (fun w => by have:=w.2.2.2;simp only at this;omega)) e1 _ _ _
 refine zq ?_
 refine br (n < -1000000) (by rw [e_lss hA]) (fun c4 => ?_) (fun c4 => ?_) <;> refine zc ?_
 ·refine zq ?_
  exact hret h1 (no (fun w => by have:=w.2.2.1;simp only at this;omega)) e1 _ _ _
 refine zq ?_
 rw [add64 hA (by omega) (by omega)]
 exact ih (i + 1) h1 (by omega) (by omega) (by omega) (fun j j0 j1 => by
  by_cases e : j = i
  ·rw [e,hx];exact ⟨hok,by simp only;omega,by simp only;omega,by simp only;omega⟩
  ·exact hp j j0 (by omega)) e1
theorem small_ok31 {h : AHeap} (hlow : h.low ≤ h.next) {a : Option Addr} {M cp : Nat} {l : List Fc} (hl : Rows fC 2 h a M l) (hi : inI l) (hM : M ≤ 100000) {Q : Value → AHeap → Prop}
  (hQ : ∀ (r : Bool) h',(r = true ↔ smalls l) → Ext h h' → Q (.bool r) h') : call 34 [.slice a M cp] h Q:=by
 refine hA.bodyR Try.func34 r34_ok (hA.alike _ _ _ rfl) hlow (zc ?_)
 refine small_loop hA hlow hl hi hM (fun h' w e _ _ _ => ?_) (fun h' _ _ w e => ?_) M 0 h (by omega) (by omega) (by omega) (fun j j0 j1 => by omega) (.refl h)
 ·refine zc ?_
  exact hQ false h' ⟨fun q => (by cases q),fun q => absurd q w⟩ e
 ·refine zc ?_
  exact hQ true h' ⟨fun _ => w,fun _ => rfl⟩ e
theorem fits_loop {h0 : AHeap} (hlow : h0.low ≤ h0.next) {a : Option Addr} {M cp : Nat} {l : List Fc} (hl : Rows fC 2 h0 a M l) (hi : inI l) (hM : M ≤ 100000) {MM : Int} (eM : MM = M) {Q : Exit → SS → Prop}
  (hret : ∀ h,¬ smalls l → Ext h0 h → ∀ e kn T,Q .ret ⟨(4,.bool false) :: e,kn,T,h⟩)
  (h9 : ∀ h kn T,smalls l → Ext h0 h → Q (.exit 0) ⟨[],kn,T,h⟩) :
  ∀ (d : Nat) (i : Int) (h : AHeap),(M - i).toNat = d → 0 ≤ i → i ≤ M → (∀ j : Int,0 ≤ j → j < i → smallF (gt l j)) → Ext h0 h →
   head 50 4 0 ⟨[(11,.slice a M cp),(12,.int .i64 MM),(13,.int .i64 i)],0,[],h⟩ Q:=by
 have lM:=hl.len
 intro d
 induction d with
 | zero =>
  intro i h hd i0 i1 hp he
  refine hA.roundR Try.func50 r50_ok (zc ?_)
  refine br (i < MM) (by rw [e_lss hA]) (fun q => by omega) (fun _ => ?_) <;> refine zc ?_
  exact h9 h _ _ (fun j j0 j1 => hp j j0 (by omega)) he
 | succ d ih =>
 intro i h hd i0 i1 hp he
 obtain ⟨pb,po,ea,_,rr⟩:=(hl.ext he).at (i:=i) i0 (by omega)
 subst ea
 obtain ⟨n,dd,hx⟩ : ∃ x y,gt l i = ⟨x,y⟩:=⟨_,_,rfl⟩
 obtain ⟨in1,in2⟩:=hi i i0 (by omega)
 rw [hx] at in1 in2
 simp only at in1 in2
 have r1:=rr 0 2 (by omega) (by omega)
 rw [hx] at r1
 have r1 : rd h pb (place po i 2) 2 [.int .i64 n,.int .i64 dd]:=rd_ok hA r1
 have no : ¬ smallF ⟨n,dd⟩ → ¬ smalls l:=fun w q => w (by rw [← hx];exact q i i0 (by omega))
 refine hA.roundR Try.func50 r50_ok (zc ?_)
 refine br (i < MM) (by rw [e_lss hA]) (fun _ => ?_) (fun q => by omega) <;> refine zc ?_
 refine zq ?_
 refine check_ok hA (he.lowOK hlow) in1 in2 (fun e h1 k1 x1 => ⟨_,rfl,?_⟩)
 have e1:=he.trans x1
 refine zq ?_
 refine br (e ≠ 0) (by rw [e_neq hA]) (fun c1 => ?_) (fun c1 => ?_) <;> refine zc ?_
 ·refine zq ?_
  exact hret h1 (no (fun w => by rcases k1 with ⟨q,_⟩ | ⟨_,q⟩;exact c1 q;exact q w.1)) e1 _ _ _
 have hok : okF n dd:=by rcases k1 with ⟨_,q⟩ | ⟨q,_⟩;exact q;omega
 refine zq ?_
 refine br (1000 < dd) (by rw [e_gtr hA]) (fun c2 => ?_) (fun c2 => ?_) <;> refine zc ?_
 ·refine zq ?_
  exact hret h1 (no (fun w => by have:=w.2.1;simp only at this;omega)) e1 _ _ _
 refine zq ?_
 refine br (n < -1000000) (by rw [e_lss hA]) (fun c4 => ?_) (fun c4 => ?_) <;> refine zc ?_
 ·refine zq ?_
  exact hret h1 (no (fun w => by have:=w.2.2.1;simp only at this;omega)) e1 _ _ _
 refine zq ?_
 refine br (1000000 < n) (by rw [e_gtr hA]) (fun c3 => ?_) (fun c3 => ?_) <;> refine zc ?_
 ·refine zq ?_
  exact hret h1 (no (fun w => by have:=w.2.2.2;simp only at this;omega)) e1 _ _ _
 refine zq ?_
 rw [add64 hA (by omega) (by omega)]
 exact ih (i + 1) h1 (by omega) (by omega) (by omega) (fun j j0 j1 => by
  by_cases e : j = i
  ·rw [e,hx];exact ⟨hok,by simp only;omega,by simp only;omega,by simp only;omega⟩
  ·exact hp j j0 (by omega)) e1
theorem rfits_ok31 {h : AHeap} (hlow : h.low ≤ h.next) {a : Option Addr} {M cp : Nat} {l : List Fc} (hl : Rows fC 2 h a M l) (hi : inI l) (hM : M ≤ 100000) {m : Int} {Q : Value → AHeap → Prop}
  (hQ : ∀ (r : Bool) h',(r = true ↔ (M : Int) = m ∧ smalls l) → Ext h h' → Q (.bool r) h') : call 50 [.slice a M cp,.int .i64 m] h Q:=by
 refine hA.bodyR Try.func50 r50_ok (hA.alike _ _ _ rfl) hlow (zc ?_)
 refine br ((M : Int) ≠ m) (by rw [e_neq hA,e_ofNat hA]) (fun c => ?_) (fun c => ?_) <;> refine zc ?_
 ·exact hQ false h ⟨fun q => (by cases q),fun q => absurd q.1 c⟩ (.refl h)
 rw [e_ofNat hA]
 refine fits_loop hA hlow hl hi hM rfl (fun h' w e _ _ _ => ?_) (fun h' _ _ w e => ?_) M 0 h (by omega) (by omega) (by omega) (fun j j0 j1 => by omega) (.refl h)
 ·refine zc ?_
  exact hQ false h' ⟨fun q => (by cases q),fun q => absurd q.2 w⟩ e
 ·refine zc ?_
  exact hQ true h' ⟨fun _ => ⟨Decidable.of_not_not c,w⟩,fun _ => rfl⟩ e
end Go.Proofs.Ytogliemiljhliaa
namespace Go.Proofs.Ytogliemiljhliaa
open Go.Sim
set_option linter.unusedVariables false
set_option maxRecDepth 100000
theorem wf64_of {n : Int} (h : (Lit.int .i64 n).wf = true) : i64 n:=by
 unfold i64
 simp [Lit.wf,IntKind.min,IntKind.max,IntKind.signed,IntKind.bits] at h;omega
theorem cellsI : Try.prog.cellsOf 2 = 1:=by kernel_rfl
theorem cellsF : Try.prog.cellsOf 52 = 2:=by kernel_rfl
theorem len2 {l : List Value} (h : l.length = 2) : ∃ a b,l = [a,b]:=by
 match l,h with
 | [a,b],_ => exact ⟨a,b,rfl⟩
theorem frac_dec {w : World} {base d : Nat} {l : List Value} (h : TS Try.prog w base d 52 l) : ∃ x y,l = [.int .i64 x,.int .i64 y] ∧ i64 x ∧ i64 y:=by
 cases d with
 | zero => exact h.elim
 | succ d =>
  obtain ⟨h1,h2⟩:=ts_struct Try.underlying52 h
  rw [cellsF] at h1
  obtain ⟨a,b,rfl⟩:=len2 h1
  simp only [List.forall_mem_cons,List.not_mem_nil,false_imp_iff,implies_true,and_true,cellsI,List.drop,List.take] at h2
  obtain ⟨g0,g1⟩:=h2
  cases d with
  | zero => exact g0.elim
  | succ d =>
   obtain ⟨x,e1,w1⟩:=ts_int Try.underlying2 g0
   obtain ⟨y,e2,w2⟩:=ts_int Try.underlying2 g1
   simp only [List.cons.injEq,and_true] at e1 e2
   subst e1 e2
   exact ⟨x,y,rfl,wf64_of w1,wf64_of w2⟩
end Go.Proofs.Ytogliemiljhliaa
namespace Go.Proofs.Ytogliemiljhliaa
open Go.Sim
set_option linter.unusedVariables false
set_option maxRecDepth 100000
theorem fracs_in {w : World} {h : AHeap} (hn : h.next = w.heap.size) (hm : ∀ b,b < w.heap.size → h.m.get b = absB w b) {H : Type} {enc : TypeId × Value → H} {base fuel b0 : Nat} {held : Bool} {r : Reach} {v : Value} {x : DataW H × List MemPlace}
  (hval : Value.okWide Try.prog w r b0 50 v) (hf : DataW.trod enc Try.prog w base (fun _ => true) held fuel 50 v.cells.toList = some x) :
  ∃ a n c l,v = .slice a n c ∧ repC w v = true ∧ n ≤ c ∧ c ≤ maxLen ∧ Rows fC 2 h a n l ∧ inI l:=by
 obtain ⟨a,n,c,d,rfl,hr,hrep,rfl,hts⟩:=value_slice Try.underlying50 hval hf
 obtain ⟨xs,k1,k2,k3,k4,k5⟩:=slice_in hn hm Try.underlying50 hts hrep fC cellsF (by omega) (fun _ => rfl) (fun x => i64 x.n ∧ i64 x.d) (fun l hl => by
  obtain ⟨x,y,rfl,h1,h2⟩:=frac_dec hl
  exact ⟨⟨x,y⟩,rfl,h1,h2⟩)
 exact ⟨a,n,c,xs,rfl,hr,k2,k3,⟨k4,fun _ => rfl,by omega⟩,fun i i0 i1 => k5 _ (gt_mem xs i0 i1)⟩
end Go.Proofs.Ytogliemiljhliaa
