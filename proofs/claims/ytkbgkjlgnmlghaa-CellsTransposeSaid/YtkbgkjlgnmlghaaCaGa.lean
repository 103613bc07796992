import Derived.Test.YtkbgkjlgnmlghaaCaFa
import Derived.Test.YtkbgkjlgnmlghaaCaZ
import Derived.Test.YtkbgkjlgnmlghaaCaP
set_option linter.unusedSimpArgs false
set_option linter.unusedVariables false
namespace Go.Proofs.Ytkbgkjlgnmlghaa
open Go.Sim
set_option linter.unusedVariables false
set_option maxRecDepth 100000
theorem cellsR : Try.prog.cellsOf 27 = 1:=by kernel_rfl
theorem rep_slice {w : World} {a : Addr} {len cap : Nat} (h1 : a.spot = none) (h2 : isCells w a.block = true) (h3 : cap ≤ maxLen) : absV w (.slice (some a) len cap) = .slice (some a) len cap:=by
 unfold absV
 have h4 : cap < slack:=by unfold maxLen at h3;unfold slack;omega
 rw [if_pos]
 show (a.spot.isNone && decide (cap < slack) && isCells w a.block) = true
 rw [h1,h2]
 simp [h4]
def RowRd (h : AHeap) (p : Hd × List Ck) : Prop:=Cs h p.1.a p.1.n p.2 ∨ (p.1.n = 0 ∧ p.2 = [])
theorem crow_in {w : World} {h : AHeap} (hn : h.next = w.heap.size) (hm : ∀ b,b < w.heap.size → h.m.get b = absB w b) {base d : Nat} {l : List Value} (hl : TS Try.prog w base d 27 l) : ∃ p : Hd × List Ck,l.map (absV w) = p.1.cells ∧ (RowRd h p ∧ ∀ k,k ∈ p.2 → k.i64):=by
 cases d with
 | zero => exact hl.elim
 | succ d =>
  have hts:=hl
  unfold TS at hl
  rw [Try.underlying27] at hl
  have go : ∀ (a : Addr) (len cap : Nat),a.spot = none → isCells w a.block = true → cap ≤ maxLen → TS Try.prog w base (d + 1) 27 [.slice (some a) len cap] → ∃ p : Hd × List Ck,[Value.slice (some a) len cap].map (absV w) = p.1.cells ∧ (RowRd h p ∧ ∀ k,k ∈ p.2 → k.i64):=by
   intro a len cap h1 h2 h3 ht
   obtain ⟨xs,k1,k2,k3,k4,k5⟩:=slice_in hn hm Try.underlying27 ht ⟨(fun q => by cases q),fun x hx => by cases hx;exact ⟨h1,h2⟩⟩ Ck.cells cellsC (by omega) (fun _ => rfl) Ck.i64 (fun l hl => cx_dec hl)
   refine ⟨(⟨some a,len,cap⟩,xs),?_,.inl ⟨k4,fun _ => rfl,by omega⟩,k5⟩
   show [absV w (.slice (some a) len cap)] = _
   rw [rep_slice h1 h2 h3]
   rfl
  rcases hl with rfl | ⟨a,len,cap,rfl,h2,h3,h4,h5⟩
  ·exact ⟨(⟨none,0,0⟩,[]),rfl,.inr ⟨rfl,rfl⟩,fun k q => by simp at q⟩
  ·by_cases hc : 0 < cap
   ·obtain ⟨s1,s2⟩:=h5 hc (by rw [cellsC];omega)
    exact go a len cap s1 s2 h3 hts
   ·have hc0 : cap = 0:=by omega
    have hl0 : len = 0:=by omega
    subst hc0 hl0
    by_cases hr : a.spot = none ∧ isCells w a.block = true
    ·exact go a 0 0 hr.1 hr.2 h3 hts
    ·refine ⟨(⟨some ⟨0,0,some 0⟩,0,0⟩,[]),?_,.inr ⟨rfl,rfl⟩,fun k q => by simp at q⟩
     show [absV w (.slice (some a) 0 0)] = _
     have : repV w (.slice (some a) 0 0) = false:=by
      show (a.spot.isNone && decide (0 < slack) && isCells w a.block) = false
      cases hs : a.spot with
      | some s => rfl
      | none =>
       have : isCells w a.block = false:=by
        cases hi : isCells w a.block with
        | false => rfl
        | true => exact absurd ⟨hs,hi⟩ hr
       rw [this];simp
     unfold absV
     rw [this]
     rfl
theorem cgrid_in {w : World} {h : AHeap} (hn : h.next = w.heap.size) (hm : ∀ b,b < w.heap.size → h.m.get b = absB w b) {H : Type} {enc : TypeId × Value → H} {base fuel b0 : Nat} {held : Bool} {r : Reach} {v : Value} {x : DataW H × List MemPlace}
  (hval : Value.okWide Try.prog w r b0 35 v) (hf : DataW.trod enc Try.prog w base (fun _ => true) held fuel 35 v.cells.toList = some x) :
  ∃ a n c hs g,v = .slice a n c ∧ repC w v = true ∧ n ≤ c ∧ c ≤ maxLen ∧ GridRd h a n hs g ∧ ∀ y,y ∈ g → ∀ k,k ∈ y → k.i64:=by
 obtain ⟨a,n,c,d,rfl,hr,hrep,rfl,hts⟩:=value_slice Try.underlying35 hval hf
 obtain ⟨xs,k1,k2,k3,k4,k5⟩:=slice_in hn hm Try.underlying35 hts hrep (fun p : Hd × List Ck => p.1.cells) cellsR (by omega) (fun _ => rfl) (fun p => RowRd h p ∧ ∀ k,k ∈ p.2 → k.i64) (fun l hl => crow_in hn hm hl)
 have lx : xs.length = n:=by
  have:=k4.length
  rw [flatE_len (enc:=fun p : Hd × List Ck => p.1.cells) (es:=1) (fun _ => rfl)] at this
  omega
 refine ⟨a,n,c,xs.map (·.1),xs.map (·.2),rfl,hr,k2,k3,⟨⟨?_,fun _ => rfl,by omega⟩,by simp [lx],fun y y0 y1 => ?_⟩,?_⟩
 ·rw [List.flatMap_map];exact k4
 ·have hy : y.toNat < xs.length:=by omega
  have e1 : gt (xs.map (·.1)) y = (xs[y.toNat]).1:=by unfold gt;rw [List.getD_eq_getElem?_getD,List.getElem?_map,List.getElem?_eq_getElem hy];rfl
  have e2 : gt (xs.map (·.2)) y = (xs[y.toNat]).2:=by unfold gt;rw [List.getD_eq_getElem?_getD,List.getElem?_map,List.getElem?_eq_getElem hy];rfl
  rw [e1,e2]
  exact (k5 _ (List.getElem_mem hy)).1
 ·intro y hy
  rw [List.mem_map] at hy
  obtain ⟨p,hp,rfl⟩:=hy
  exact (k5 p hp).2
theorem DegL.valid {n : Nat} {l : List Sk} {g : Gd} {Z : List Ck} {N : Nat} (h : DegL n l g Z N) : ValidL Z:=fun i i0 i1 => (h.2 i i0 (by have:=h.1;omega)).2
theorem GridIs.sq {n : Int} {l : List Sk} {v : List Ck} {G : Gd} (h : GridIs n l v G 0) (h0 : CheckS n l 0) {nn : Nat} (hn : n = nn) : SqG nn G:=by
 have k1:=h.run
 have e : n.toNat = nn:=by omega
 rw [contrib_places,e] at k1
 exact (bil_run (g:=zeroG nn) (zeroG_sq nn) _ (fun c hc => by
  rw [List.mem_map] at hc
  obtain ⟨p,hp,rfl⟩:=hc
  have:=places_in h0 hn hp
  exact ⟨this.1,this.2.1⟩) _ _ (zeroG_sq nn) k1).2
variable {F : Prims} {call head arith cmp scmp bnot bsame conv neg imax imin ofNat slen place inR nz geZ rd wr push next mkOK nat zeros sadd eqAgg cut slc sslc strAt part app cpy putAt fresh lowered bump wrote addN lt ne fpAll brk yn rng mget mput mnew bytes clr : _} (hA : AP F ⟨call,head,arith,cmp,scmp,bnot,bsame,conv,neg,imax,imin,ofNat,slen,place,inR,nz,geZ,rd,wr,push,next,mkOK,nat,zeros,sadd,eqAgg,cut,slc,sslc,strAt,part,app,cpy,putAt,fresh,lowered,bump,wrote,addN,lt,ne,fpAll,brk,yn,rng,mget,mput,mnew,bytes,clr⟩)
include hA
theorem flat_ok {h : AHeap} (hlow : h.low ≤ h.next) {a : Option Addr} {N c : Nat} {hs : List Hd} {g : Gd} (n2 : 2 ≤ N) (n8 : N ≤ 8) (sq : SqG N g) (t : GridRd h a N hs g) {Q : Value → AHeap → Prop}
  (hQ : ∀ h' b,Own h' b 3 (g.flatten.flatMap Ck.cells) → h.next ≤ b → b < h'.next → Ext h h' → Q (.tuple #[.slice (some ⟨b,0,none⟩) (N * N) (someCap 3 (N * N)),.int .i64 0]) h') : call 30 [.slice a N c] h Q:=by
 refine hA.bodyR Try.func30 r30_ok (hA.alike _ _ _ rfl) hlow (zc ?_)
 refine checkGrid_ok hA hlow n2 n8 sq t (fun h1 x1 => ⟨_,rfl,?_⟩)
 refine zc ?_
 refine br False (by rw [e_neq hA];rfl) (fun q => q.elim) (fun _ => ?_) <;> refine zc ?_
 refine concat_ok hA (x1.lowOK hlow) n2 n8 sq (t.ext x1) (fun h2 b ho hb1 hb2 x2 => ⟨_,_,_,rfl,?_⟩)
 have fin:=hQ h2 b ho (by have:=x1.next;omega) hb2 (x1.trans x2)
 generalize someCap 3 (N * N) = cap at *
 generalize N * N = mm at *
 refine zc ?_
 exact fin
theorem flat_is {h : AHeap} (hlow : h.low ≤ h.next) {a : Option Addr} {N c : Nat} {hs : List Hd} {g : Gd} (n2 : 2 ≤ N) (n8 : N ≤ 8) (sq : SqG N g) (t : GridRd h a N hs g) {Q : Value → AHeap → Prop}
  (hQ : ∀ h' b M cap,M = N * N → Cs h' (some ⟨b,0,none⟩) M g.flatten → Ext h h' → Q (.tuple #[.slice (some ⟨b,0,none⟩) M cap,.int .i64 0]) h') : call 30 [.slice a N c] h Q:=by
 refine flat_ok hA hlow n2 n8 sq t (fun h' b ho hb1 hb2 x => hQ h' b _ _ rfl ?_ x)
 have:=Own.rows ho ck_len (by omega) hb2
 rw [sq.flen] at this
 exact this
set_option maxHeartbeats 1000000 in
theorem ltranspose_ok (hF : ∀ h,F 18 [] h = some (.bool true,h)) {h : AHeap} (hlow : h.low ≤ h.next) {a a' a'' : Option Addr} {N M G c c' c'' : Nat} {l : List Sk} {v : List Ck} {hs : List Hd} {g : Gd} (hG : G ≤ 9223372036854775807) (hl : Sps h a N l) (hi : allS l) (hv : Cs h a' M v) (hg : GridRd h a'' G hs g) {Q : Value → AHeap → Prop}
  (hQ : ∀ h',Ext h h' → Q (.bool true) h') : call 8 [.slice a N c,.slice a' M c',.slice a'' G c''] h Q:=by
 refine hA.bodyR Try.func8 r8_ok (hA.alike _ _ _ rfl) hlow (zc ?_)
 refine hA.prim (hF h) ⟨_,rfl,?_⟩
 refine zc ?_
 refine greatGrid_ok hA hlow hG hg (fun r h1 k1 x1 => ⟨_,rfl,?_⟩)
 cases r with
 | true =>
  refine zc ?_
  exact hQ h1 x1
 | false =>
 refine zc ?_
 refine squareAny_ok hA (x1.lowOK hlow) (hg.ext x1) (fun e h2 k2 x2 => ⟨_,rfl,?_⟩)
 have y2:=x1.trans x2
 refine zc ?_
 refine br (e ≠ 0) (by rw [e_neq hA]) (fun _ => ?_) (fun e0 => ?_) <;> refine zc ?_
 ·exact hQ h2 y2
 obtain ⟨n2,n8,sq⟩:=k2 (by omega)
 rw [e_ofNat hA]
 refine lvalid_ok hA (y2.lowOK hlow) (hl.ext y2) hi (hv.ext y2) (fun r h3 k3 x3 => ⟨_,rfl,?_⟩)
 have y3:=y2.trans x3
 cases r with
 | false =>
  refine zc ?_
  rw [show bnot false = true by rw [e_bnot hA];rfl]
  refine zc ?_
  exact hQ h3 y3
 | true =>
 obtain ⟨chk,rfl,okv,hN,hM⟩:=k3 rfl
 refine zc ?_
 rw [show bnot true = false by rw [e_bnot hA];rfl]
 refine zc ?_
 rw [show bnot true = false by rw [e_bnot hA];rfl]
 refine zc ?_
 rw [e_ofNat hA]
 have lv:=hv.len
 have ll:=hl.len
 have n32 : N ≤ 32:=by have:=chk.zero.2.1;omega
 refine kgrid_is2 hA (y3.lowOK hlow) (hl.ext y3) hi (hv.ext y3) (by omega) (by omega) (fun p5 m5 q5 g5 e5 h5 k5 t5 n5 x5 => ⟨_,_,_,_,rfl,?_⟩)
 have y5:=y3.trans x5
 refine zc ?_
 have se:=k5.err chk (by omega) okv
 have fin16 : ∀ h',Ext h h' → Q (.bool true) h':=hQ
 refine degrid_ok hA (y5.lowOK hlow) n2 n8 sq (hg.ext y5) (hl.ext y5) hi (by omega) chk (fun h6 hd x6 => ⟨_,_,_,_,rfl,?_⟩) (fun h6 za zcp Z rZ dZ x6 => ⟨_,_,_,_,rfl,?_⟩)
 ·have y6:=y5.trans x6
  refine zc ?_
  rcases se with rfl | rfl
  ·refine br False (by rw [e_neq hA];rfl) (fun q => q.elim) (fun _ => ?_) <;> refine zc ?_
   refine br True (by rw [e_neq hA];rfl) (fun _ => ?_) (fun q => absurd trivial q) <;> refine zc ?_
   refine br True (by rw [e_eql hA];rfl) (fun _ => ?_) (fun q => absurd trivial q) <;> refine zc ?_
   refine br False (by rw [e_eql hA];rfl) (fun q => q.elim) (fun _ => ?_) <;> refine zc ?_
   rw [show cmp .eql 16 16 = true by rw [e_eql hA];rfl]
   exact hQ h6 y6
  ·refine br True (by rw [e_neq hA];rfl) (fun _ => ?_) (fun q => absurd trivial q) <;> refine zc ?_
   refine br False (by rw [e_eql hA];rfl) (fun q => q.elim) (fun _ => ?_) <;> refine zc ?_
   rw [show cmp .eql 16 16 = true by rw [e_eql hA];rfl]
   refine zc ?_
   refine br False (by rw [e_eql hA];rfl) (fun q => q.elim) (fun _ => ?_) <;> refine zc ?_
   rw [show cmp .eql 16 16 = true by rw [e_eql hA];rfl]
   exact hQ h6 y6
 have y6:=y5.trans x6
 refine zc ?_
 rcases se with rfl | rfl
 rotate_left
 ·refine br True (by rw [e_neq hA];rfl) (fun _ => ?_) (fun q => absurd trivial q) <;> refine zc ?_
  refine br False (by rw [e_eql hA];rfl) (fun q => q.elim) (fun _ => ?_) <;> refine zc ?_
  rw [show cmp .eql 16 16 = true by rw [e_eql hA];rfl]
  refine zc ?_
  refine br True (by rw [e_eql hA];rfl) (fun _ => ?_) (fun q => absurd trivial q) <;> refine zc ?_
  exact hQ h6 y6
 refine br False (by rw [e_neq hA];rfl) (fun q => q.elim) (fun _ => ?_) <;> refine zc ?_
 refine br False (by rw [e_neq hA];rfl) (fun q => q.elim) (fun _ => ?_) <;> refine zc ?_
 have f5:=n5 rfl
 obtain rfl : m5 = G:=by omega
 have sq5:=k5.sq chk rfl
 have v5:=t5.more x6
 rcases v5 with ⟨_,q,_⟩ | ⟨o1,b1,rfl,j2,j8,s1,d1⟩
 ·omega
 obtain ⟨hs5,r5⟩:=d1.rd
 rw [sq5.len] at r5
 refine flat_is hA (y6.lowOK hlow) n2 n8 sq5 r5 (fun h7 xb M7 xc eM7 r7 x7 => ⟨_,_,_,_,rfl,?_⟩)
 have y7:=y6.trans x7
 refine zc ?_
 refine flat_is hA (y7.lowOK hlow) n2 n8 sq (hg.ext y7) (fun h8 yb M8 yc eM8 r8 x8 => ⟨_,_,_,_,rfl,?_⟩)
 have y8:=y7.trans x8
 obtain rfl : M7 = M8:=by omega
 refine zc ?_
 refine br False (by rw [e_neq hA];rfl) (fun q => q.elim) (fun _ => ?_) <;> refine zc ?_
 refine br False (by rw [e_neq hA];rfl) (fun q => q.elim) (fun _ => ?_) <;> refine zc ?_
 refine br ((N : Int) ≠ N) (by rw [e_neq hA,e_ofNat hA]) (fun q => absurd rfl q) (fun _ => ?_) <;> refine zc ?_
 refine br ((M7 : Int) ≠ M7) (by rw [e_neq hA,e_ofNat hA]) (fun q => absurd rfl q) (fun _ => ?_) <;> refine zc ?_
 have MM : M7 ≤ 8 * 8:=by rw [eM7];exact Nat.mul_le_mul n8 n8
 have eM : (M7 : Int) = (m5 : Int) * m5:=by rw [eM7,Int.natCast_mul]
 rw [e_ofNat hA,e_ofNat hA,mul64 hA (by omega) (by omega),← eM]
 refine br ((M7 : Int) ≠ M7) (by rw [e_neq hA]) (fun q => absurd rfl q) (fun _ => ?_) <;> refine zc ?_
 refine dot_ok hA (y8.lowOK hlow) (r7.ext x8) r8 sq5.fvalid sq.fvalid (by omega) (fun r t u e h9 k9 x9 => ⟨_,_,_,_,rfl,?_⟩)
 have y9:=y8.trans x9
 refine zc ?_
 refine dot_ok hA (y9.lowOK hlow) (hv.ext y9) (rZ.ext ((x7.trans x8).trans x9)) okv dZ.valid (by omega) (fun r' t' u' e' h10 k10 x10 => ⟨_,_,_,_,rfl,?_⟩)
 have y10:=y9.trans x10
 refine zc ?_
 have key : ∀ p q,dotS (List.zip g5.flatten g.flatten) zeroK = some p → dotS (v.zip Z) zeroK = some q → p = q:=fun p q hp hq => transpose_val rfl chk (by omega) sq k5 (by rw [ll];exact dZ) hp hq
 rcases k9 with ⟨p,hp,rfl,rfl,rfl,rfl⟩ | ⟨hp,rfl,rfl,rfl,rfl⟩ <;> rcases k10 with ⟨q,hq,rfl,rfl,rfl,rfl⟩ | ⟨hq,rfl,rfl,rfl,rfl⟩
 ·obtain rfl:=key p q hp hq
  obtain ⟨pa,pb,pd⟩:=p
  refine br False (by rw [e_neq hA];rfl) (fun q => q.elim) (fun _ => ?_) <;> refine zc ?_
  refine br False (by rw [e_neq hA];rfl) (fun q => q.elim) (fun _ => ?_) <;> refine zc ?_
  obtain ⟨rr,hr1,hr2⟩:=eqC pa pb pd pa pb pd
  obtain rfl : rr = true:=hr2.2 ⟨rfl,rfl,rfl⟩
  rw [e_eqAgg hA]
  refine ⟨guardC,true,hr1,?_⟩
  refine zc ?_
  repeat (first
   | (refine br True (by rw [e_neq hA];rfl) (fun _ => ?_) (fun q => absurd trivial q);refine zc ?_)
   | (refine br False (by rw [e_neq hA];rfl) (fun q => q.elim) (fun _ => ?_);refine zc ?_)
   | (refine br True (by rw [e_eql hA];rfl) (fun _ => ?_) (fun q => absurd trivial q);refine zc ?_)
   | (refine br False (by rw [e_eql hA];rfl) (fun q => q.elim) (fun _ => ?_);refine zc ?_)
   | (rw [show cmp .eql 16 16 = true by rw [e_eql hA];rfl];refine zc ?_))
  exact hQ h10 y10
 all_goals
  repeat (first
   | (refine br True (by rw [e_neq hA];rfl) (fun _ => ?_) (fun q => absurd trivial q);refine zc ?_)
   | (refine br False (by rw [e_neq hA];rfl) (fun q => q.elim) (fun _ => ?_);refine zc ?_)
   | (refine br True (by rw [e_eql hA];rfl) (fun _ => ?_) (fun q => absurd trivial q);refine zc ?_)
   | (refine br False (by rw [e_eql hA];rfl) (fun q => q.elim) (fun _ => ?_);refine zc ?_)
   | (rw [show cmp .eql 16 16 = true by rw [e_eql hA];rfl];refine zc ?_))
  exact hQ h10 y10
end Go.Proofs.Ytkbgkjlgnmlghaa
