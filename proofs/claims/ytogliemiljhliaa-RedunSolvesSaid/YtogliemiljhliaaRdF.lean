import Derived.Test.YtogliemiljhliaaRdC
import Derived.Test.YtogliemiljhliaaSeatA
import Derived.Test.YtogliemiljhliaaSeatB
import Derived.Test.YtogliemiljhliaaSeatC
import Derived.Test.YtogliemiljhliaaSeatD
import Derived.Test.YtogliemiljhliaaSeatE
import Derived.Test.YtogliemiljhliaaSeatF
import Derived.Test.YtogliemiljhliaaSeatG
import Derived.KernelRfl
import Derived.Test.YtogliemiljhliaaSymD
set_option linter.unusedSimpArgs false
set_option linter.unusedVariables false
namespace Go.Proofs.Ytogliemiljhliaa
open Go.Sim
set_option linter.unusedVariables false
set_option maxRecDepth 100000
variable {F : Prims} {call head arith cmp scmp bnot bsame conv neg imax imin ofNat slen place inR nz geZ rd wr push next mkOK nat zeros sadd eqAgg cut slc sslc strAt part app cpy putAt fresh lowered bump wrote addN lt ne fpAll fpApp brk yn rng mget mput mnew bytes clr : _} (hA : AP F ⟨call,head,arith,cmp,scmp,bnot,bsame,conv,neg,imax,imin,ofNat,slen,place,inR,nz,geZ,rd,wr,push,next,mkOK,nat,zeros,sadd,eqAgg,cut,slc,sslc,strAt,part,app,cpy,putAt,fresh,lowered,bump,wrote,addN,lt,ne,fpAll,fpApp,brk,yn,rng,mget,mput,mnew,bytes,clr⟩)
include hA
set_option maxHeartbeats 1000000 in
theorem rrows_inner {h0 : AHeap} (hlow : h0.low ≤ h0.next) {a : Option Addr} {N c : Nat} {l : List Int} (hl : Is h0 a N l) (ln : Line l) {ac : Option Addr} {C cc : Nat} (hc : Is h0 ac C (clsL l)) (hC : C ≤ 100) {i : Int} (i0 : 0 ≤ i) (i1 : i < N) {L : List P2} (hL : L.length ≤ 100) {Q : Exit → SS → Prop}
  (hok : ∀ h' ao k co bs,k = (L ++ pRow i N).length → Apd h' 1 ao k co ((hds (wid l) bs ((L ++ pRow i N).map (rowF l))).flatMap Hd.cells) → From h0.next ao → GrW iC 1 (wid l) h0 h' bs ((L ++ pRow i N).map (rowF l)) → (∀ ad,ao = some ad → ad.block ∉ bs) → Q (.exit 2) ⟨[(0,.slice a N c),(3,.slice ac C cc),(4,.slice ao k co),(5,.int .i64 i)],0,[],h'⟩) :
  ∀ (m : Nat) (j : Int) (h : AHeap) (ao : Option Addr) (k co : Nat) (bs : List Nat),(N - j).toNat ≤ m → i < j → j ≤ N → k = (L ++ pRow i j).length → Apd h 1 ao k co ((hds (wid l) bs ((L ++ pRow i j).map (rowF l))).flatMap Hd.cells) → From h0.next ao → GrW iC 1 (wid l) h0 h bs ((L ++ pRow i j).map (rowF l)) → (∀ ad,ao = some ad → ad.block ∉ bs) →
   head 38 7 0 ⟨[(0,.slice a N c),(3,.slice ac C cc),(4,.slice ao k co),(5,.int .i64 i),(6,.int .i64 j)],0,[],h⟩ Q:=by
 have lN:=hl.len
 have lC:=hc.len
 have n5:=ln.n5
 intro m
 induction m with
 | zero =>
  intro j h ao k co bs hm j0 j1 hk t hf w out
  refine hA.roundR Try.func38 r38_ok (zc ?_)
  refine br (j < N) (by rw [e_lss hA,e_ofNat hA]) (fun q => by omega) (fun _ => ?_) <;> refine zc ?_
  obtain rfl : j = N:=by omega
  exact hok h ao k co bs hk t hf w out
 | succ m ih =>
 intro j h ao k co bs hm j0 j1 hk t hf w out
 by_cases cj : j < N
 rotate_left
 ·refine hA.roundR Try.func38 r38_ok (zc ?_)
  refine br (j < N) (by rw [e_lss hA,e_ofNat hA]) (fun q => by omega) (fun _ => ?_) <;> refine zc ?_
  obtain rfl : j = N:=by omega
  exact hok h ao k co bs hk t hf w out
 have he:=w.ext
 have kb : k ≤ 1000:=by
  rw [hk,List.length_append]
  have:=pRow_len i j.toNat
  rw [show ((j.toNat : Nat) : Int) = j by omega] at this
  omega
 have pmem : (⟨i,j⟩ : P2) ∈ pairsL l.length:=mem_pairs.2 ⟨i0,j0,by simp only;omega⟩
 obtain ⟨W,hW⟩ : ∃ z : Int,z = (N : Int) + C:=⟨_,rfl⟩
 have hWw : W = wid l:=by unfold wid;omega
 have eW : arith .add .i64 (N : Int) C = W:=by rw [hW];exact add64 hA (by omega) (by omega)
 have eN : ofNat N = (N : Int):=e_ofNat hA N
 have eC : ofNat C = (C : Int):=e_ofNat hA C
 refine hA.roundR Try.func38 r38_ok (zc ?_)
 refine br (j < N) (by rw [e_lss hA,e_ofNat hA]) (fun _ => ?_) (fun q => by omega) <;> refine zc ?_
 (refine zq ?_;repeat ((first | rw [eN] | rw [eC] | rw [eW]);refine zq ?_))
 refine ⟨mk_ok hA (by omega) (Int.le_refl _) (by omega),?_⟩
 refine zc ?_
 obtain ⟨ww,hww⟩ : ∃ z : Nat,z = wid l:=⟨_,rfl⟩
 rw [e_zeros hA,e_next hA,e_push hA,e_nat hA,show W.toNat = ww by omega,copies_int]
 have oP:=Own.push h 1 ((zrow ww).flatMap iC)
 have eP:=Ext.push h 1 ((zrow ww).flatMap iC)
 have nP : (h.push 1 ((zrow ww).flatMap iC)).next = h.next + 1:=rfl
 generalize h.push 1 ((zrow ww).flatMap iC) = hP at *
 obtain ⟨rb,hrb⟩ : ∃ z,z = h.next:=⟨_,rfl⟩
 rw [← hrb] at oP nP ⊢
 have D : DatI h hP rb ww (zrow ww):=⟨eP,oP,by omega,by omega,by unfold zrow;simp,by unfold wid at hww;omega⟩
 have dm:=diff_mem ln pmem
 obtain ⟨ix0,ix1,ix2⟩:=ixI_mem dm
 have wN : N + C = ww:=by unfold wid at hww;omega
 obtain ⟨h1,h2,w1,w2,D2,n2,g2⟩:=D.three (i:=i) (j:=j) (k:=0) i0 (by omega) (by omega) (by omega) (by omega) (by omega)
 have w1:=wr_ok hA w1
 have w2:=wr_ok hA w2
 refine zq ?_
 have e2 : Ext h0 h2:=he.trans D2.ext
 obtain ⟨h9,hh9⟩ : ∃ z,z = bump h2 17:=⟨_,rfl⟩
 have x9 : Ext h2 h9:=by rw [hh9];exact ext_bump hA _ _
 have e9:=e2.trans x9
 have l9:=e9.lowOK hlow
 have D9:=D2.more x9
 obtain ⟨lb,lo,y,ea,_,hy,ry⟩:=is_at (hl.ext e9) (i:=j) (by omega) (by omega)
 subst ea
 obtain ⟨lb',lo',x,ea,_,hx,rx⟩:=is_at (hl.ext e9) (i:=i) (by omega) (by omega)
 cases ea
 have qy:=rd_ok hA ry
 have qx:=rd_ok hA rx
 have g1:=ln.rng (i:=i) i0 (by omega)
 have g2':=ln.rng (i:=j) (by omega) (by omega)
 have es : arith .sub .i64 y x = y - x:=sub64 hA (by omega) (by omega)
 have edf : diffOf l ⟨i,j⟩ = y - x:=by unfold diffOf;simp only;omega
 obtain ⟨d,hd⟩ : ∃ z,z = y - x:=⟨_,rfl⟩
 rw [← hd] at es edf
 rw [edf] at ix0 ix1 ix2
 rw [← hh9]
 (refine zq ?_;repeat ((first | rw [eN] | rw [es]);refine zq ?_))
 refine at_ok hA (low_fresh hA h9) ((hc.ext e9).ext (ext_fresh hA h9)) (by omega) (fun r hr => ⟨_,rfl,?_⟩)
 refine zc ?_
 rw [low_same hA l9]
 obtain ⟨z,hz⟩ : ∃ z : Int,z = (N : Int) + r:=⟨_,rfl⟩
 have hr0 : 0 ≤ r:=by rw [hr];exact ix0
 have hr1 : r < C:=by rw [hr,lC.symm];exact ix1
 rw [show arith .add .i64 (Int.ofNat N) r = z by rw [hz];exact add64 hA (a:=(N : Int)) (by omega) (by omega)]
 obtain ⟨h3,w3,D3,r3⟩:=D9.put (i:=z) (by omega) (by omega) (x:=1)
 have w3 : wr h9 rb (place 0 z 1) [.int .i64 1] h3:=wr_ok hA (by rw [Nat.zero_add];exact w3)
 refine zq ?_
 have e3:=D3.ext
 have t3:=t.ext e3
 have w3':=w.more e3
 have tk : (L ++ pRow i (j + 1)).map (rowF l) = (L ++ pRow i j).map (rowF l) ++ [rowF l ⟨i,j⟩]:=by
  rw [pRow_succ (by omega),← List.append_assoc,List.map_append]
  congr 1
  unfold pOne;rw [if_pos j0];rfl
 have rnew : rb ∉ bs:=fun q => by have:=w.ltr rb q;omega
 have D3' : Own h3 rb 1 ((rowF l ⟨i,j⟩).flatMap iC):=by
  have:=D3.own
  unfold rowF
  simp only
  rw [edf,lN,← hr,← hz,← hww]
  exact this
 have wA:=w3'.add D3' (by have:=he.next;omega) D3.lt rnew
 have lg:=w.len
 have hB : hds (wid l) (bs ++ [rb]) ((L ++ pRow i j).map (rowF l) ++ [rowF l ⟨i,j⟩]) = hds (wid l) bs ((L ++ pRow i j).map (rowF l)) ++ [⟨some ⟨rb,0,none⟩,ww,ww⟩]:=by rw [hds_add lg,rowF_len,← hww]
 refine appK_ok hA TL hd_len (by omega) hd_ok (v:=⟨some ⟨rb,0,none⟩,ww,ww⟩) t3 (by omega) (fun b' h' ha hx hn' hb' hk' => ?_)
 generalize someCap 1 (k + 1) = cc' at *
 obtain ⟨k',hk2⟩ : ∃ z,z = k + 1:=⟨_,rfl⟩
 rw [← hk2] at ha ⊢
 refine zc ?_
 rw [add64 hA (by omega) (by omega)]
 have tlt:=t.lt
 have out' : ∀ b,b ∈ bs ++ [rb] → ∀ ad,ao = some ad → ad.block ≠ b:=fun b hb ad had e => by
  rcases List.mem_append.1 hb with q | q
  ·exact out ad had (by rw [e];exact q)
  ·simp only [List.mem_singleton] at q;have:=tlt ad had;omega
 have x':=hx h0 (he.trans e3) hf
 refine ih (j + 1) h' _ _ _ (bs ++ [rb]) (by omega) (by omega) (by omega) (by rw [hk2,hk,pRow_succ (by omega)];unfold pOne;rw [if_pos j0];simp only [List.length_append,List.length_singleton];omega) (by rw [tk,hB];exact ha) (fun ad e => by cases e;have:=he.next;have:=e3.next;simp only;omega) ?_ (fun ad e => by cases e;exact fun q => by have:=wA.ltr _ q;simp only at this;omega)
 rw [tk]
 exact wA.keep x' (by omega) (fun b hb => hk' b (wA.ltr b hb) (out' b hb))
theorem rrows_outer {h0 : AHeap} (hlow : h0.low ≤ h0.next) {a : Option Addr} {N c : Nat} {l : List Int} (hl : Is h0 a N l) (ln : Line l) {ac : Option Addr} {C cc : Nat} (hc : Is h0 ac C (clsL l)) (hC : C ≤ 100) {Q : Exit → SS → Prop}
  (hok : ∀ h' ao k co bs,k = (pairsL N).length → Apd h' 1 ao k co ((hds (wid l) bs ((pairsL N).map (rowF l))).flatMap Hd.cells) → From h0.next ao → GrW iC 1 (wid l) h0 h' bs ((pairsL N).map (rowF l)) → Q (.exit 0) ⟨[(4,.slice ao k co)],0,[],h'⟩) :
  ∀ (m : Nat) (i : Int) (h : AHeap) (ao : Option Addr) (k co : Nat) (bs : List Nat),(N - i).toNat ≤ m → 0 ≤ i → i ≤ N → k = (pUpTo N i).length → Apd h 1 ao k co ((hds (wid l) bs ((pUpTo N i).map (rowF l))).flatMap Hd.cells) → From h0.next ao → GrW iC 1 (wid l) h0 h bs ((pUpTo N i).map (rowF l)) → (∀ ad,ao = some ad → ad.block ∉ bs) →
   head 38 4 0 ⟨[(0,.slice a N c),(3,.slice ac C cc),(4,.slice ao k co),(5,.int .i64 i)],0,[],h⟩ Q:=by
 have n5:=ln.n5
 have lN:=hl.len
 intro m
 induction m with
 | zero =>
  intro i h ao k co bs hm i0 i1 hk t hf w out
  refine hA.roundR Try.func38 r38_ok (zc ?_)
  refine br (i < N) (by rw [e_lss hA,e_ofNat hA]) (fun q => by omega) (fun _ => ?_) <;> refine zc ?_
  obtain rfl : i = N:=by omega
  exact hok h ao k co bs hk t hf w
 | succ m ih =>
 intro i h ao k co bs hm i0 i1 hk t hf w out
 refine hA.roundR Try.func38 r38_ok (zc ?_)
 refine br (i < N) (by rw [e_lss hA,e_ofNat hA]) (fun ci => ?_) (fun _ => ?_) <;> refine zc ?_
 rotate_left
 ·obtain rfl : i = N:=by omega
  exact hok h ao k co bs hk t hf w
 have lb:=pUpTo_len N i.toNat
 rw [show ((i.toNat : Nat) : Int) = i by omega] at lb
 have lb2 : N * i.toNat ≤ 5 * 5:=Nat.mul_le_mul (by omega) (by omega)
 rw [add64 hA (by omega) (by omega)]
 have e0 : pUpTo N i ++ pRow i (i + 1) = pUpTo N i:=by rw [pRow_none,List.append_nil]
 refine rrows_inner hA hlow hl ln hc hC i0 ci (L:=pUpTo N i) (by omega) (fun h' ao' k' co' bs' hk' t' hf' w' out' => ?_) N (i + 1) h ao k co bs (by omega) (by omega) (by omega) (by rw [e0];exact hk) (by rw [e0];exact t) hf (by rw [e0];exact w) out
 refine zc ?_
 rw [add64 hA (by omega) (by omega)]
 exact ih (i + 1) h' ao' k' co' bs' (by omega) (by omega) (by omega) (by rw [pUpTo_succ i0];exact hk') (by rw [pUpTo_succ i0];exact t') hf' (by rw [pUpTo_succ i0];exact w') out'
theorem rrows_ok {h : AHeap} (hlow : h.low ≤ h.next) {a : Option Addr} {N c : Nat} {l : List Int} (hl : Is h a N l) (ln : Line l) {Q : Value → AHeap → Prop}
  (hQ : ∀ h' ao k co hs,GrR iC 1 h' ao k hs (rowsL l) → k = (pairsL N).length → k ≤ 10 → Ext h h' → Q (.slice ao k co) h') : call 38 [.slice a N c] h Q:=by
 have lN:=hl.len
 have n5:=ln.n5
 refine hA.bodyR Try.func38 r38_ok (hA.alike _ _ _ rfl) hlow (zc ?_)
 refine rcls_ok hA hlow hl ln (fun h1 ac C co1 rc c10 x1 => ⟨_,_,_,rfl,?_⟩)
 refine zc ?_
 have z0 : pUpTo (N : Int) 0 = []:=rfl
 refine rrows_outer hA (x1.lowOK hlow) (hl.ext x1) ln rc c10 (fun h3 ao k co bs hk t hf w => ?_) N 0 h1 none 0 0 [] (by omega) (by omega) (by omega) (by rw [z0];rfl) (by rw [z0];simpa [hds] using Apd.nil h1 1) (.none _) (by rw [z0];simpa using GrW.nil h1 iC_len (by omega)) (fun ad e => by cases e)
 refine zc ?_
 have er : (pairsL N).map (rowF l) = rowsL l:=by unfold rowsL;rw [lN]
 rw [er] at t w
 have e : k = ((hds (wid l) bs (rowsL l))).length:=by rw [hds_len w.len];unfold rowsL;rw [List.length_map,lN,hk]
 exact hQ h3 ao k co _ (w.rd ⟨by have:=t.cells;rwa [e] at this ⊢,hd_len,by omega⟩) hk (by rw [hk];exact pairs_few (by omega)) (x1.trans w.ext)
end Go.Proofs.Ytogliemiljhliaa
namespace Go.Proofs.Ytogliemiljhliaa
open Go.Sim
set_option maxRecDepth 100000
theorem mixed : Try.prog.follows .mixedOrders = true:=by kernel_rfl
theorem names : Try.prog.funcs.toList.all (fun fn => !(fn.name == "runtime.NumGoroutine")) = true := by kernel_rfl
theorem named (g : FuncId) (fn : Func) (h : Try.prog.funcs[g]? = some fn) : (fn.name == "runtime.NumGoroutine") = false := by
 have:=List.all_eq_true.1 names fn (List.mem_of_getElem? (by simpa using h))
 simpa using this
theorem pAa : Try.f88.body.isNone = true:=by kernel_rfl
theorem pAb : Extern.findNext Try.f88 = none:=by kernel_rfl
theorem pAc : Extern.find Try.f88 = some add64Entry:=by kernel_rfl
theorem pSa : Try.f90.body.isNone = true:=by kernel_rfl
theorem pSb : Extern.findNext Try.f90 = none:=by kernel_rfl
theorem pSc : Extern.find Try.f90 = some sub64E:=by kernel_rfl
theorem prims0_ok : CallOK Try.prog prims0:=withFn_ok (Go.Sim.add64_ok Try.func88 (named _ _ Try.func88) pAa pAb pAc) (withFn_ok (Go.Sim.sub64_ok Try.func90 (named _ _ Try.func90) pSa pSb pSc) noPrims_ok)
theorem prims0_keep : CallKeep prims0:=withFn_keep (withFn_keep noPrims_keep)
theorem prims_keep : CallKeep prims:=withTrue_keep prims0_keep
end Go.Proofs.Ytogliemiljhliaa
namespace Go.Proofs.Ytogliemiljhliaa
open Go.Sim
set_option linter.unusedVariables false
set_option maxRecDepth 100000
theorem cellsInt : Try.prog.cellsOf 3 = 1:=by kernel_rfl
theorem is_in {w : World} {h : AHeap} (hn : h.next = w.heap.size) (hm : ∀ b,b < w.heap.size → h.m.get b = absB w b) {H : Type} {enc : TypeId × Value → H} {base fuel b0 : Nat} {held : Bool} {r : Reach} {v : Value} {x : DataW H × List MemPlace}
  (hval : Value.okWide Try.prog w r b0 22 v) (hf : DataW.trod enc Try.prog w base (fun _ => true) held fuel 22 v.cells.toList = some x) :
  ∃ a n c l,v = .slice a n c ∧ repC w v = true ∧ n ≤ c ∧ c ≤ maxLen ∧ Is h a n l ∧ ∀ x ∈ l,(Lit.int .i64 x).wf = true:=by
 obtain ⟨a,n,c,d,rfl,hr,hrep,rfl,hts⟩:=value_slice Try.underlying22 hval hf
 obtain ⟨xs,k1,k2,k3,k4,k5⟩:=slice_in hn hm Try.underlying22 hts hrep iC cellsInt (by omega) (fun _ => rfl) (fun n => (Lit.int .i64 n).wf = true) (fun l hl => by
  cases d with
  | zero => exact hl.elim
  | succ d =>
   obtain ⟨y,rfl,hw⟩:=ts_int Try.underlying3 hl
   exact ⟨y,rfl,hw⟩)
 exact ⟨a,n,c,xs,rfl,hr,k2,k3,⟨k4,fun _ => rfl,by omega⟩,k5⟩
end Go.Proofs.Ytogliemiljhliaa
