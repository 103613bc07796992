import Derived.Test.YtkbgkjlgnmlghaaCaT
set_option linter.unusedSimpArgs false
set_option linter.unusedVariables false
namespace Go.Proofs.Ytkbgkjlgnmlghaa
open Go.Sim
set_option linter.unusedVariables false
set_option maxRecDepth 100000
structure Hd where
 a : Option Addr
 n : Nat
 c : Nat
 deriving Inhabited
def Hd.cells (k : Hd) : List Value:=[.slice k.a k.n k.c]
structure GridRd (h : AHeap) (a : Option Addr) (N : Nat) (hs : List Hd) (g : Gd) : Prop where
 hd : Rows Hd.cells 1 h a N hs
 len : g.length = N
 rowW : ∀ y : Int,0 ≤ y → y < N → Cs h (gt hs y).a (gt hs y).n (gt g y) ∨ ((gt hs y).n = 0 ∧ gt g y = [])
theorem GridRd.ext {h h' : AHeap} {a : Option Addr} {N : Nat} {hs : List Hd} {g : Gd} (t : GridRd h a N hs g) (e : Ext h h') : GridRd h' a N hs g:=⟨t.hd.ext e,t.len,fun y y0 y1 => (t.rowW y y0 y1).imp (fun r => r.ext e) id⟩
theorem GridRd.rowL {h : AHeap} {a : Option Addr} {N : Nat} {hs : List Hd} {g : Gd} (t : GridRd h a N hs g) (y : Int) (y0 : 0 ≤ y) (y1 : y < N) : (gt g y).length = (gt hs y).n:=by
 rcases t.rowW y y0 y1 with q | ⟨q1,q2⟩
 ·exact q.len
 ·rw [q1,q2];rfl
theorem GridRd.rowS {h : AHeap} {a : Option Addr} {N : Nat} {hs : List Hd} {g : Gd} (t : GridRd h a N hs g) (y : Int) (y0 : 0 ≤ y) (y1 : y < N) (hn : 0 < (gt hs y).n) : Cs h (gt hs y).a (gt hs y).n (gt g y):=by
 rcases t.rowW y y0 y1 with q | ⟨q1,q2⟩
 ·exact q
 ·omega
theorem GridRd.row {h : AHeap} {a : Option Addr} {N : Nat} {hs : List Hd} {g : Gd} (t : GridRd h a N hs g) (sq : SqG N g) (y : Int) (y0 : 0 ≤ y) (y1 : y < N) : Cs h (gt hs y).a (gt hs y).n (gt g y):=
 t.rowS y y0 y1 (by have:=t.rowL y y0 y1;rw [sq.row y y0 y1] at this;omega)
theorem Grid2.rd {h0 h : AHeap} {oa : Nat} {bs : List Nat} {g : Gd} (t : Grid2 Ck.cells 3 h0 h oa bs g) : ∃ hs,GridRd h (some ⟨oa,0,none⟩) g.length hs g:=by
 have hl:=t.len
 refine ⟨List.zipWith (fun b r => (⟨some ⟨b,0,none⟩,r.length,someCap 3 r.length⟩ : Hd)) bs g,?_,rfl,fun y y0 y1 => ?_⟩
 ·have e : hdrs 3 bs g = (List.zipWith (fun b r => (⟨some ⟨b,0,none⟩,r.length,someCap 3 r.length⟩ : Hd)) bs g).flatMap Hd.cells:=by
   unfold hdrs
   rw [List.flatMap_def,List.map_zipWith]
   clear hl t
   induction bs generalizing g with
   | nil => simp
   | cons b bs ih =>
    cases g with
    | nil => simp
    | cons r g => simp only [List.zipWith_cons_cons,List.flatten_cons];rw [ih];rfl
  have o:=t.own
  rw [e] at o
  have:=Own.rows o (fun _ => rfl) (by omega) t.lt
  rwa [List.length_zipWith,hl,Nat.min_self] at this
 ·have e : gt (List.zipWith (fun b r => (⟨some ⟨b,0,none⟩,r.length,someCap 3 r.length⟩ : Hd)) bs g) y = ⟨some ⟨bs.getD y.toNat 0,0,none⟩,(gt g y).length,someCap 3 (gt g y).length⟩:=by
   unfold gt
   rw [List.getD_eq_getElem?_getD,List.getElem?_zipWith,List.getElem?_eq_getElem (by omega),List.getElem?_eq_getElem (by omega),List.getD_eq_getElem?_getD,List.getD_eq_getElem?_getD,List.getElem?_eq_getElem (by omega),List.getElem?_eq_getElem (by omega)]
   rfl
  rw [e]
  exact .inl <| Own.rows (t.row y y0 y1) t.each (by omega) (t.ltr _ (bs_mem (by omega)))
noncomputable def degS (g : Gd) (L : List Pk) (s : Ck) : Option Ck:=L.foldlM (fun s e => plusF s e.w (gt (gt g e.y) e.x)) s
theorem degS_append (g : Gd) (a b : List Pk) (s : Ck) : degS g (a ++ b) s = (degS g a s).bind (degS g b):=by unfold degS;rw [List.foldlM_append];rfl
theorem degS_one (g : Gd) (e : Pk) (s : Ck) : degS g [e] s = plusF s e.w (gt (gt g e.y) e.x):=by unfold degS;rw [List.foldlM_cons];cases plusF s e.w (gt (gt g e.y) e.x) <;> rfl
theorem grid_some {h : AHeap} {a : Option Addr} {N : Nat} {hs : List Hd} {g : Gd} (t : GridRd h a N hs g) (hN : 0 < N) : ∃ b o,a = some ⟨b,o,none⟩ ∧ b < h.next:=by
 obtain ⟨b,o,e,l,_⟩:=t.hd.at (i:=0) (by omega) (by omega)
 exact ⟨b,o,e,l⟩
variable {F : Prims} {call head arith cmp scmp bnot bsame conv neg imax imin ofNat slen place inR nz geZ rd wr push next mkOK nat zeros sadd eqAgg cut slc sslc strAt part app cpy putAt fresh lowered bump wrote addN lt ne fpAll brk yn rng mget mput mnew bytes clr : _} (hA : AP F ⟨call,head,arith,cmp,scmp,bnot,bsame,conv,neg,imax,imin,ofNat,slen,place,inR,nz,geZ,rd,wr,push,next,mkOK,nat,zeros,sadd,eqAgg,cut,slc,sslc,strAt,part,app,cpy,putAt,fresh,lowered,bump,wrote,addN,lt,ne,fpAll,brk,yn,rng,mget,mput,mnew,bytes,clr⟩)
include hA
theorem head_rd {h : AHeap} {b o N : Nat} {hs : List Hd} {g : Gd} (t : GridRd h (some ⟨b,o,none⟩) N hs g) {y : Int} (y0 : 0 ≤ y) (y1 : y < N) : rd h b (place o y 1) 1 [.slice (gt hs y).a (gt hs y).n (gt hs y).c]:=by
 obtain ⟨b',o',e,_,w⟩:=t.hd.at y0 y1
 cases e
 exact rd_ok hA (w 0 1 (by omega) (by omega))
theorem rd_cell {h : AHeap} {b o N : Nat} {hs : List Hd} {g : Gd} (t : GridRd h (some ⟨b,o,none⟩) N hs g) (sq : SqG N g) {y x : Int} (y0 : 0 ≤ y) (y1 : y < N) (x0 : 0 ≤ x) (x1 : x < N) :
  ∃ rb ro rc a b' d,rb < h.next ∧ rd h b (place o y 1) 1 [.slice (some ⟨rb,ro,none⟩) N rc] ∧ gt (gt g y) x = ⟨a,b',d⟩ ∧ rd h rb (place ro x 3) 3 [.int .i64 a,.int .i64 b',.int .i64 d]:=by
 have hr:=head_rd hA t y0 y1
 have r:=t.row sq y y0 y1
 have ry:=sq.row y y0 y1
 have e:=r.len
 rw [ry] at e
 rw [← e] at r hr
 obtain ⟨b1,o1,a1,a2,a3,ea,lb,hg,rr⟩:=cs_at r (i:=x) x0 x1
 rw [ea] at hr
 exact ⟨b1,o1,_,a1,a2,a3,lb,hr,hg,rd_ok hA rr⟩
theorem cg_one {h0 : AHeap} (hlow : h0.low ≤ h0.next) {b o N c : Nat} {hs : List Hd} {g : Gd} (sq : SqG N g) (hn : N ≤ 8) (t : GridRd h0 (some ⟨b,o,none⟩) N hs g) {NN : Int} (hNN : NN = N) {Q : Exit → SS → Prop}
  (hok : ∀ h',Ext h0 h' → Q (.exit 0) ⟨[(0,.slice (some ⟨b,o,none⟩) N c)],0,[],h'⟩) :
  ∀ (m : Nat) (i : Int) (h : AHeap),(N - i).toNat ≤ m → 0 ≤ i → i ≤ N → Ext h0 h →
   head 53 4 0 ⟨[(0,.slice (some ⟨b,o,none⟩) N c),(15,.slice (some ⟨b,o,none⟩) N c),(16,.int .i64 NN),(17,.int .i64 i)],0,[],h⟩ Q:=by
 intro m
 induction m with
 | zero =>
  intro i h hm i0 i1 he
  refine hA.roundR Try.func53 r53_ok (zc ?_)
  refine br (i < NN) (by rw [e_lss hA]) (fun c1 => by omega) (fun c1 => ?_) <;> refine zc ?_
  exact hok h he
 | succ m ih =>
 intro i h hm i0 i1 he
 by_cases ci : i < N
 rotate_left
 ·refine hA.roundR Try.func53 r53_ok (zc ?_)
  refine br (i < NN) (by rw [e_lss hA]) (fun c1 => by omega) (fun c1 => ?_) <;> refine zc ?_
  exact hok h he
 have d1:=head_rd hA (t.ext he) i0 ci
 have ry:=(t.row sq i i0 ci).len
 rw [sq.row i i0 ci] at ry
 rw [← ry] at d1
 generalize (gt hs i).a = ra at *
 generalize (gt hs i).c = rc at *
 refine hA.roundR Try.func53 r53_ok (zc ?_)
 refine br (i < NN) (by rw [e_lss hA]) (fun c1 => ?_) (fun c1 => by omega) <;> refine zc ?_
 refine zq ?_
 refine br ((N : Int) ≠ N) (by rw [e_neq hA,e_ofNat hA]) (fun q => absurd rfl q) (fun _ => ?_) <;> refine zc ?_
 rw [add64 hA (by omega) (by omega)]
 exact ih (i + 1) h (by omega) (by omega) (by omega) he
theorem cg_two {h0 : AHeap} (hlow : h0.low ≤ h0.next) {b o N c : Nat} {hs : List Hd} {g : Gd} (sq : SqG N g) (hn : N ≤ 8) (t : GridRd h0 (some ⟨b,o,none⟩) N hs g) {NN : Int} (hNN : NN = N) {Q : Exit → SS → Prop}
  (hok : ∀ h',Ext h0 h' → Q (.exit 2) ⟨[],0,[],h'⟩) :
  ∀ (m : Nat) (i : Int) (h : AHeap),(N - i).toNat ≤ m → 0 ≤ i → i ≤ N → Ext h0 h →
   head 53 10 0 ⟨[(27,.slice (some ⟨b,o,none⟩) N c),(28,.int .i64 NN),(29,.int .i64 i)],0,[],h⟩ Q:=by
 intro m
 induction m with
 | zero =>
  intro i h hm i0 i1 he
  refine hA.roundR Try.func53 r53_ok (zc ?_)
  refine br (i < NN) (by rw [e_lss hA]) (fun c1 => by omega) (fun c1 => ?_) <;> refine zc ?_
  exact hok h he
 | succ m ih =>
 intro i h hm i0 i1 he
 by_cases ci : i < N
 rotate_left
 ·refine hA.roundR Try.func53 r53_ok (zc ?_)
  refine br (i < NN) (by rw [e_lss hA]) (fun c1 => by omega) (fun c1 => ?_) <;> refine zc ?_
  exact hok h he
 have d1:=head_rd hA (t.ext he) i0 ci
 have rr:=(t.ext he).row sq i i0 ci
 have ry:=rr.len
 have rw':=sq.row i i0 ci
 rw [rw'] at ry
 rw [← ry] at d1 rr
 generalize (gt hs i).a = ra at *
 generalize (gt hs i).c = rc at *
 refine hA.roundR Try.func53 r53_ok (zc ?_)
 refine br (i < NN) (by rw [e_lss hA]) (fun c1 => ?_) (fun c1 => by omega) <;> refine zc ?_
 refine zq ?_
 refine kvalid_ok hA (he.lowOK hlow) rr (by omega) (fun r h2 k2 x2 => ⟨_,rfl,?_⟩)
 obtain rfl : r = true:=k2.2 (fun j j0 j1 => sq.ok i j i0 ci j0 (by rw [rw'] at j1;exact j1))
 refine zc ?_
 rw [show bnot true = false by rw [e_bnot hA];rfl]
 refine zc ?_
 rw [add64 hA (by omega) (by omega)]
 exact ih (i + 1) h2 (by omega) (by omega) (by omega) (he.trans x2)
theorem checkGrid_ok {h : AHeap} (hlow : h.low ≤ h.next) {a : Option Addr} {N c : Nat} {hs : List Hd} {g : Gd} (n2 : 2 ≤ N) (n8 : N ≤ 8) (sq : SqG N g) (t : GridRd h a N hs g) {Q : Value → AHeap → Prop}
  (hQ : ∀ h',Ext h h' → Q (.int .i64 0) h') : call 53 [.slice a N c] h Q:=by
 obtain ⟨b,o,rfl,_⟩:=grid_some t (by omega)
 refine hA.bodyR Try.func53 r53_ok (hA.alike _ _ _ rfl) hlow (zc ?_)
 refine br ((N : Int) < 2) (by rw [e_lss hA,e_ofNat hA]) (fun q => by omega) (fun _ => ?_) <;> refine zc ?_
 refine br (8 < (N : Int)) (by rw [e_gtr hA,e_ofNat hA]) (fun q => by omega) (fun _ => ?_) <;> refine zc ?_
 refine cg_one hA hlow sq n8 t (e_ofNat hA N) (fun h1 x1 => ?_) N 0 h (by omega) (by omega) (by omega) (.refl h)
 refine zc ?_
 refine cg_two hA (x1.lowOK hlow) sq n8 (t.ext x1) (e_ofNat hA N) (fun h2 x2 => ?_) N 0 h1 (by omega) (by omega) (by omega) (.refl h1)
 refine zc ?_
 exact hQ h2 (x1.trans x2)
end Go.Proofs.Ytkbgkjlgnmlghaa
