import Derived.Test.YtnokkniofajnhaaSymRowsA
import Derived.Test.YtnokkniofajnhaaFracR
import Derived.Test.YtnokkniofajnhaaSeatT
import Derived.Test.YtnokkniofajnhaaFracA
import Derived.Test.YtnokkniofajnhaaQuP
set_option linter.unusedSimpArgs false
set_option linter.unusedVariables false
namespace Go.Proofs.Ytnokkniofajnhaa
open Go.Sim
set_option maxRecDepth 100000
structure Kr where
 xn : Int
 xd : Int
 yn : Int
 yd : Int
instance : Inhabited Kr:=⟨⟨0,0,0,0⟩⟩
def Kr.cells (k : Kr) : List Value:=[.int .i64 k.xn,.int .i64 k.xd,.int .i64 k.yn,.int .i64 k.yd]
def Kr.i64 (k : Kr) : Prop:=Proofs.Ytnokkniofajnhaa.i64 k.xn ∧ Proofs.Ytnokkniofajnhaa.i64 k.xd ∧ Proofs.Ytnokkniofajnhaa.i64 k.yn ∧ Proofs.Ytnokkniofajnhaa.i64 k.yd
abbrev Ks (h : AHeap) (a : Option Addr) (n : Nat) (l : List Kr) : Prop:=Rows Kr.cells 4 h a n l
def allI64 (l : List Kr) : Prop:=∀ i : Int,0 ≤ i → i < l.length → (gt l i).i64
theorem ks_at {h : AHeap} {a : Option Addr} {n : Nat} {l : List Kr} (p : Ks h a n l) (q : allI64 l) {i : Int} (h0 : 0 ≤ i) (hi : i < n) :
  ∃ b o x y z w,a = some ⟨b,o,none⟩ ∧ b < h.next ∧ gt l i = ⟨x,y,z,w⟩ ∧ i64 x ∧ i64 y ∧ i64 z ∧ i64 w ∧ h.readG ⟨b,o + i.toNat * 4,none⟩ 4 = some [.int .i64 x,.int .i64 y,.int .i64 z,.int .i64 w] ∧
   h.readG ⟨b,o + i.toNat * 4 + 0,none⟩ 2 = some [.int .i64 x,.int .i64 y] ∧ h.readG ⟨b,o + i.toNat * 4 + 2,none⟩ 2 = some [.int .i64 z,.int .i64 w]:=by
 have hl:=p.len
 obtain ⟨b,o,h1,h2,h3⟩:=p.at h0 hi
 obtain ⟨q1,q2,q3,q4⟩:=q i h0 (by omega)
 exact ⟨b,o,(gt l i).xn,(gt l i).xd,(gt l i).yn,(gt l i).yd,h1,h2,rfl,q1,q2,q3,q4,h3 0 4 (by omega) (by omega),h3 0 2 (by omega) (by omega),h3 2 2 (by omega) (by omega)⟩
theorem ks_in {h : AHeap} {b o n : Nat} {l : List Kr} (p : Ks h (some ⟨b,o,none⟩) n l) (q : allI64 l) {i : Int} (h0 : 0 ≤ i) (hi : i < n) :
  b < h.next ∧ ∃ x y z w,gt l i = ⟨x,y,z,w⟩ ∧ i64 x ∧ i64 y ∧ i64 z ∧ i64 w ∧ h.readG ⟨b,o + i.toNat * 4,none⟩ 4 = some [.int .i64 x,.int .i64 y,.int .i64 z,.int .i64 w] ∧
   h.readG ⟨b,o + i.toNat * 4 + 0,none⟩ 2 = some [.int .i64 x,.int .i64 y] ∧ h.readG ⟨b,o + i.toNat * 4 + 2,none⟩ 2 = some [.int .i64 z,.int .i64 w]:=by
 obtain ⟨b',o',x,y,z,w,e,h2,h3⟩:=ks_at p q h0 hi
 cases e
 exact ⟨h2,x,y,z,w,h3⟩
theorem ks_some {h : AHeap} {a : Option Addr} {n : Nat} {l : List Kr} (p : Ks h a n l) (hn : 0 < n) : ∃ b o,a = some ⟨b,o,none⟩:=by
 obtain ⟨b,o,h1,_⟩:=p.at (i:=0) (by omega) (by omega)
 exact ⟨b,o,h1⟩
def smallF (m n d : Int) : Prop:=okF n d ∧ -m ≤ n ∧ n ≤ m ∧ d ≤ m
def rq (n d : Int) : Rat:=(n : Rat) / (d : Rat)
theorem okF.is {n d : Int} (h : okF n d) : isF n d (rq n d):=by
 obtain ⟨q,hq⟩:=h
 have:=hq.val
 unfold rq
 rw [← this]
 exact hq
theorem isF.rq {n d : Int} {q : Rat} (h : isF n d q) : rq n d = q:=h.val.symm
variable {F : Prims} {call head arith cmp scmp bnot bsame conv neg imax imin ofNat slen place inR nz geZ rd wr push next mkOK nat zeros sadd eqAgg cut slc sslc strAt part app cpy putAt fresh lowered bump wrote addN lt ne fpAll fpApp brk yn rng mget mput mnew bytes clr : _} (hA : AP F ⟨call,head,arith,cmp,scmp,bnot,bsame,conv,neg,imax,imin,ofNat,slen,place,inR,nz,geZ,rd,wr,push,next,mkOK,nat,zeros,sadd,eqAgg,cut,slc,sslc,strAt,part,app,cpy,putAt,fresh,lowered,bump,wrote,addN,lt,ne,fpAll,fpApp,brk,yn,rng,mget,mput,mnew,bytes,clr⟩)
include hA
theorem small_ok' {h : AHeap} (hlow : h.low ≤ h.next) {n d m : Int} (hn : i64 n) (hd : i64 d) (hm : 0 ≤ m ∧ m ≤ 1000000) {Q : Value → AHeap → Prop}
  (hQ : ∀ (r : Bool) h',(r = true ↔ smallF m n d) → Ext h h' → Q (.bool r) h') : call 33 [.agg #[.int .i64 n,.int .i64 d],.int .i64 m] h Q:=by
 refine hA.bodyR Try.func33 r33_ok (hA.alike _ _ _ rfl) hlow (zc ?_)
 refine check_ok hA hlow hn hd (fun e h1 k1 x1 => ⟨_,rfl,?_⟩)
 refine zc ?_
 have em : neg .i64 m = -m:=by rw [e_neg hA,wrap64 (by omega) (by omega)];omega
 have no : (¬ smallF m n d) → ∀ h',Ext h h' → Q (.bool false) h':=fun w h' x => hQ false h' ⟨(fun q => by cases q),fun q => absurd q w⟩ x
 refine br (e = 0) (by rw [e_eql hA]) (fun c1 => ?_) (fun c1 => ?_) <;> refine zc ?_
 rotate_left
 ·exact no (fun w => by rcases k1 with ⟨q,_⟩ | ⟨_,q⟩;exact c1 q;exact q w.1) _ x1
 have hok : okF n d:=by rcases k1 with ⟨_,q⟩ | ⟨q,_⟩;exact q;omega
 rw [em]
 refine br (-m ≤ n) (by rw [e_geq hA]) (fun c2 => ?_) (fun c2 => ?_) <;> refine zc ?_
 rotate_left
 ·exact no (fun w => c2 w.2.1) _ x1
 refine br (n ≤ m) (by rw [e_leq hA]) (fun c3 => ?_) (fun c3 => ?_) <;> refine zc ?_
 rotate_left
 ·exact no (fun w => c3 w.2.2.1) _ x1
 refine hQ _ _ ?_ x1
 rw [e_leq hA,decide_eq_true_iff]
 exact ⟨fun c4 => ⟨hok,c2,c3,c4⟩,fun w => w.2.2.2⟩
theorem fits_ok {h : AHeap} (hlow : h.low ≤ h.next) {n d m : Int} (hn : i64 n) (hd : i64 d) (hm : 0 ≤ m ∧ m ≤ 1000000) {Q : Value → AHeap → Prop}
  (hQ : ∀ (r : Bool) h',(r = true ↔ smallF m n d) → Ext h h' → Q (.bool r) h') : call 29 [.agg #[.int .i64 n,.int .i64 d],.int .i64 m] h Q:=by
 refine hA.bodyR Try.func29 r29_ok (hA.alike _ _ _ rfl) hlow (zc ?_)
 refine rcheck_ok hA hlow hn hd (fun e h1 k1 x1 => ⟨_,rfl,?_⟩)
 refine zc ?_
 have em : neg .i64 m = -m:=by rw [e_neg hA,wrap64 (by omega) (by omega)];omega
 have no : (¬ smallF m n d) → ∀ h',Ext h h' → Q (.bool false) h':=fun w h' x => hQ false h' ⟨(fun q => by cases q),fun q => absurd q w⟩ x
 refine br (e = 0) (by rw [e_eql hA]) (fun c1 => ?_) (fun c1 => ?_) <;> refine zc ?_
 rotate_left
 ·exact no (fun w => by rcases k1 with ⟨q,_⟩ | ⟨_,q⟩;exact c1 q;exact q w.1) _ x1
 have hok : okF n d:=by rcases k1 with ⟨_,q⟩ | ⟨q,_⟩;exact q;omega
 rw [em]
 refine br (-m ≤ n) (by rw [e_leq hA]) (fun c2 => ?_) (fun c2 => ?_) <;> refine zc ?_
 rotate_left
 ·exact no (fun w => c2 w.2.1) _ x1
 refine br (n ≤ m) (by rw [e_leq hA]) (fun c3 => ?_) (fun c3 => ?_) <;> refine zc ?_
 rotate_left
 ·exact no (fun w => c3 w.2.2.1) _ x1
 refine hQ _ _ ?_ x1
 rw [e_leq hA,decide_eq_true_iff]
 exact ⟨fun c4 => ⟨hok,c2,c3,c4⟩,fun w => w.2.2.2⟩
omit hA in
theorem cmpIs_of {n d m e c r : Int} {p q : Rat} (hp : isF n d p) (hq : isF m e q) (k : CmpIs n d m e c r) : c = cmpF p q ∧ r = 0:=by
 rcases k with ⟨w,_⟩ | ⟨p',q',hp',hq',k1,k2⟩
 ·exact absurd ⟨⟨p,hp⟩,⟨q,hq⟩⟩ w
 ·obtain rfl:=hp.uniq hp'
  obtain rfl:=hq.uniq hq'
  exact ⟨k1,k2⟩
theorem qorder_ok {h : AHeap} (hlow : h.low ≤ h.next) {n d m e : Int} {p q : Rat} (hp : isF n d p) (hq : isF m e q) {Q : Value → AHeap → Prop}
  (hQ : ∀ (c : Int) h',c = cmpF p q → Ext h h' → Q (.int .i64 c) h') : call 34 [.agg #[.int .i64 n,.int .i64 d],.agg #[.int .i64 m,.int .i64 e]] h Q:=by
 refine hA.bodyR Try.func34 r34_ok (hA.alike _ _ _ rfl) hlow (zc ?_)
 refine cmp_ok hA hlow hp.i64n hp.i64d hq.i64n hq.i64d (fun c r h1 k x => ⟨_,_,rfl,?_⟩)
 refine zc ?_
 exact hQ c h1 (cmpIs_of hp hq k).1 x
theorem qless_ok {h : AHeap} (hlow : h.low ≤ h.next) {n d m e : Int} {p q : Rat} (hp : isF n d p) (hq : isF m e q) {Q : Value → AHeap → Prop}
  (hQ : ∀ (r : Bool) h',(r = true ↔ p < q) → Ext h h' → Q (.bool r) h') : call 27 [.agg #[.int .i64 n,.int .i64 d],.agg #[.int .i64 m,.int .i64 e]] h Q:=by
 refine hA.bodyR Try.func27 r27_ok (hA.alike _ _ _ rfl) hlow (zc ?_)
 refine rcmp_ok hA hlow hp.i64n hp.i64d hq.i64n hq.i64d (fun c r h1 k x => ⟨_,_,rfl,?_⟩)
 refine zc ?_
 refine hQ _ h1 ?_ x
 rw [e_lss hA,decide_eq_true_iff,(cmpIs_of hp hq k).1]
 exact cmpF_lt
end Go.Proofs.Ytnokkniofajnhaa
namespace Go.Proofs.Ytnokkniofajnhaa
open Go.Sim
set_option maxRecDepth 100000
def toK (l : List Kr) : List Kn:=l.map fun k => (rq k.xn k.xd,rq k.yn k.yd)
theorem toK_len (l : List Kr) : (toK l).length = l.length:=by unfold toK;simp
theorem toK_at {l : List Kr} {i : Int} (h0 : 0 ≤ i) (h1 : i < l.length) : kx (toK l) i = rq (gt l i).xn (gt l i).xd ∧ ky (toK l) i = rq (gt l i).yn (gt l i).yd:=by
 unfold kx ky toK gt
 rw [List.getD,List.getD,List.getElem?_map,List.getElem?_eq_getElem (by omega)]
 exact ⟨rfl,rfl⟩
structure GoodL (l : List Kr) : Prop where
 two : 2 ≤ l.length
 most : l.length ≤ 40
 small : ∀ i : Int,0 ≤ i → i < l.length → smallF 100 (gt l i).xn (gt l i).xd ∧ smallF 100 (gt l i).yn (gt l i).yd
 incr : ∀ i : Int,0 < i → i < l.length → kx (toK l) (i - 1) < kx (toK l) i ∧ ky (toK l) (i - 1) < ky (toK l) i
theorem smallF.bnd {m : Nat} {n d : Int} (h : smallF m n d) : bnd (rq n d) m m:=by
 obtain ⟨h1,h2,h3,h4⟩:=h
 obtain ⟨e1,e2,_⟩:=h1.is
 unfold Proofs.Ytnokkniofajnhaa.bnd
 omega
theorem GoodL.corr {l : List Kr} (g : GoodL l) : Corr (toK l):=by
 refine ⟨by rw [toK_len];exact g.two,by rw [toK_len];exact g.most,fun i i0 i1 => ?_,fun i i0 i1 => g.incr i i0 (by rw [toK_len] at i1;exact i1)⟩
 rw [toK_len] at i1
 obtain ⟨e1,e2⟩:=toK_at i0 i1
 obtain ⟨s1,s2⟩:=g.small i i0 i1
 rw [e1,e2]
 exact ⟨s1.bnd,s2.bnd⟩
theorem GoodL.is {l : List Kr} (g : GoodL l) {i : Int} (i0 : 0 ≤ i) (i1 : i < l.length) : isF (gt l i).xn (gt l i).xd (kx (toK l) i) ∧ isF (gt l i).yn (gt l i).yd (ky (toK l) i):=by
 obtain ⟨e1,e2⟩:=toK_at i0 i1
 obtain ⟨s1,s2⟩:=g.small i i0 i1
 rw [e1,e2]
 exact ⟨s1.1.is,s2.1.is⟩
theorem opIs_of {f : Rat → Rat → Rat} {n d m e a b r : Int} {p q : Rat} (hp : isF n d p) (hq : isF m e q) (hf : fits (f p q)) (k : OpIs f n d m e a b r) : isF a b (f p q) ∧ r = 0:=by
 rcases k with ⟨w,_⟩ | ⟨p',q',hp',hq',k⟩
 ·exact absurd ⟨⟨p,hp⟩,⟨q,hq⟩⟩ w
 ·obtain rfl:=hp.uniq hp'
  obtain rfl:=hq.uniq hq'
  rcases k with ⟨_,rfl,rfl,rfl⟩ | ⟨w,_⟩
  ·exact ⟨⟨rfl,rfl,hf⟩,rfl⟩
  ·exact absurd hf w
theorem divIs_of {n d m e a b r : Int} {p q : Rat} (hp : isF n d p) (hq : isF m e q) (h0 : q ≠ 0) (hf : fits (p / q)) (k : DivIs n d m e a b r) : isF a b (p / q) ∧ r = 0:=by
 have hm : m ≠ 0:=fun w => h0 (Rat.num_eq_zero.1 (by rw [← hq.1,w]))
 rcases k with ⟨w,_⟩ | ⟨_,_,w,_⟩ | ⟨p',q',hp',hq',_,k⟩
 ·exact absurd ⟨⟨p,hp⟩,⟨q,hq⟩⟩ w
 ·exact absurd w hm
 ·obtain rfl:=hp.uniq hp'
  obtain rfl:=hq.uniq hq'
  rcases k with ⟨_,rfl,rfl,rfl⟩ | ⟨w,_⟩
  ·exact ⟨⟨rfl,rfl,hf⟩,rfl⟩
  ·exact absurd hf w
variable {F : Prims} {call head arith cmp scmp bnot bsame conv neg imax imin ofNat slen place inR nz geZ rd wr push next mkOK nat zeros sadd eqAgg cut slc sslc strAt part app cpy putAt fresh lowered bump wrote addN lt ne fpAll fpApp brk yn rng mget mput mnew bytes clr : _} (hA : AP F ⟨call,head,arith,cmp,scmp,bnot,bsame,conv,neg,imax,imin,ofNat,slen,place,inR,nz,geZ,rd,wr,push,next,mkOK,nat,zeros,sadd,eqAgg,cut,slc,sslc,strAt,part,app,cpy,putAt,fresh,lowered,bump,wrote,addN,lt,ne,fpAll,fpApp,brk,yn,rng,mget,mput,mnew,bytes,clr⟩)
include hA
theorem cor_loop {h0 : AHeap} (hlow : h0.low ≤ h0.next) {b o n c : Nat} {l : List Kr} (hl : Ks h0 (some ⟨b,o,none⟩) n l) (hi : allI64 l) (g : GoodL l) {xn xd : Int} {x : Rat} (hx : isF xn xd x) (d1 : x ≤ kx (toK l) (n - 1)) {K0 : List Value} {Q : Exit → SS → Prop}
  (hQ : ∀ (k : Int) h',1 ≤ k → k < n → kx (toK l) (k - 1) ≤ x → x ≤ kx (toK l) k → Ext h0 h' → Q (.exit 0) ⟨[(0,.slice (some ⟨b,o,none⟩) n c),(3,.pointer (some ⟨0,0,some 0⟩)),(4,.pointer (some ⟨1,0,some 0⟩)),(6,.int .i64 k)],17,[(0,[.int .i64 xn,.int .i64 xd]),(1,K0)],h'⟩) :
  ∀ (m : Nat) (k : Int) (h : AHeap),(n - k).toNat ≤ m → 1 ≤ k → k < n → kx (toK l) (k - 1) ≤ x → Ext h0 h → head 35 2 2 ⟨[(0,.slice (some ⟨b,o,none⟩) n c),(3,.pointer (some ⟨0,0,some 0⟩)),(4,.pointer (some ⟨1,0,some 0⟩)),(6,.int .i64 k)],2,[(0,[.int .i64 xn,.int .i64 xd]),(1,K0)],h⟩ Q:=by
 have hlen:=hl.len
 have g2:=g.most
 intro m
 induction m with
 | zero =>
  intro k h hm k1 k2 kx1 he
  omega
 | succ m ih =>
  intro k h hm k1 k2 kx1 he
  obtain ⟨nn,hnn⟩ : ∃ z : Int,z = n - 1:=⟨_,rfl⟩
  have e1 : arith .sub .i64 (ofNat n) 1 = nn:=by rw [e_ofNat hA,hnn];exact sub64 hA (by omega) (by omega)
  obtain ⟨h9,hh9⟩ : ∃ z,z = bump h 15:=⟨_,rfl⟩
  have e9 : Ext h0 h9:=by rw [hh9];exact he.trans (ext_bump hA _ _)
  have l9:=e9.lowOK hlow
  obtain ⟨hbb,u,v,z,w,hg,_,_,_,_,_,r1,_⟩:=ks_in (hl.ext e9) hi (i:=k) (by omega) k2
  obtain ⟨kk,_⟩:=g.is (i:=k) (by omega) (by omega)
  rw [hg] at kk
  replace kk : isF u v _:=kk
  refine hA.roundR Try.func35 r35_ok (zc ?_)
  rw [e1,← hh9]
  refine br (k < nn) (by rw [e_lss hA]) (fun c1 => ?_) (fun c1 => ?_) <;> refine zc ?_
  rotate_left
  ·exact hQ k h9 k1 k2 kx1 (by rw [show k = n - 1 by omega];exact d1) e9
  have r2:=rd_fld hA r1
  refine zq ?_
  refine qorder_ok hA (low_fresh hA h9) hx kk (fun r h10 hr x10 => ⟨_,rfl,?_⟩)
  refine zc ?_
  obtain ⟨h11,hh11⟩ : ∃ z,z = lowered h9 h10:=⟨_,rfl⟩
  have e11 : Ext h0 h11:=by rw [hh11];exact ext_low hA hlow e9 x10
  rw [← hh11]
  refine br (0 < r) (by rw [e_gtr hA]) (fun c2 => ?_) (fun c2 => ?_) <;> refine zc ?_
  ·rw [add64 hA (by omega) (by omega)]
   rw [hr] at c2
   exact ih (k + 1) h11 (by omega) (by omega) (by omega) (by rw [show k + 1 - 1 = k by omega];exact Rat.le_of_lt (cmpF_gt.1 c2)) e11
  ·refine hQ k h11 k1 k2 kx1 ?_ e11
   rw [hr] at c2
   exact Rat.not_lt.1 (fun q => c2 (cmpF_gt.2 q))
theorem corrected_ok {h : AHeap} (hlow : h.low ≤ h.next) {a : Option Addr} {n c : Nat} {l : List Kr} (hl : Ks h a n l) (hi : allI64 l) (g : GoodL l) {xn xd : Int} {x : Rat} (hx : isF xn xd x) (hb : bnd x 10000 10000) (d0 : kx (toK l) 0 ≤ x) (d1 : x ≤ kx (toK l) (n - 1)) {Q : Value → AHeap → Prop}
  (hQ : ∀ u v q h',isF u v q → ValQ (toK l) x q → bnd q 60000000000000000 20000000000000000 → Ext h h' → Q (.tuple #[.agg #[.int .i64 u,.int .i64 v],.int .i64 0]) h') : call 35 [.slice a n c,.agg #[.int .i64 xn,.int .i64 xd]] h Q:=by
 have hlen:=hl.len
 have g1:=g.two
 have g2:=g.most
 obtain ⟨b,o,rfl⟩:=ks_some hl (by omega)
 refine hA.bodyR Try.func35 r35_ok (hA.alike _ _ _ rfl) hlow (zc ?_)
 refine cor_loop hA hlow hl hi g hx d1 (fun k h1 k1 k2 m1 m2 x1 => ?_) n 1 h (by omega) (by omega) (by omega) d0 (.refl h)
 refine zc ?_
 have ek : arith .sub .i64 k 1 = k - 1:=sub64 hA (by omega) (by omega)
 obtain ⟨k',hk'⟩ : ∃ z,z = k - 1:=⟨_,rfl⟩
 rw [← hk'] at ek m1
 obtain ⟨h9,hh9⟩ : ∃ z,z = bump h1 13:=⟨_,rfl⟩
 have e9 : Ext h h9:=by rw [hh9];exact x1.trans (ext_bump hA _ _)
 have l9:=e9.lowOK hlow
 obtain ⟨_,b1,b2,b3,b4,hg1,_,_,_,_,r1,_,_⟩:=ks_in (hl.ext e9) hi (i:=k') (by omega) (by omega)
 obtain ⟨_,a1,a2,a3,a4,hg2,_,_,_,_,r2,_,_⟩:=ks_in (hl.ext e9) hi (i:=k) (by omega) (by omega)
 obtain ⟨ib1,ib2⟩:=g.is (i:=k') (by omega) (by omega)
 obtain ⟨ia1,ia2⟩:=g.is (i:=k) (by omega) (by omega)
 rw [hg1] at ib1 ib2
 rw [hg2] at ia1 ia2
 replace ib1 : isF b1 b2 _:=ib1
 replace ib2 : isF b3 b4 _:=ib2
 replace ia1 : isF a1 a2 _:=ia1
 replace ia2 : isF a3 a4 _:=ia2
 have cc:=g.corr
 obtain ⟨f1,f2,f3,f4,f5,f6⟩:=line_bnd cc (i:=k) (by omega) (by rw [toK_len];omega) hb
 have inc:=(g.incr k (by omega) (by omega)).1
 rw [← hk'] at f1 f2 f3 f4 f5 inc
 have hv : ValQ (toK l) x (lineQ (toK l) k x):=⟨k,k1,by rw [toK_len];omega,by rw [← hk'];exact m1,m2,rfl⟩
 rw [ek,← hh9]
 have r3:=rd_ok hA r1
 have r4:=rd_ok hA r2
 refine zq ?_
 refine fsub_ok hA l9 ia2.i64n ia2.i64d ib2.i64n ib2.i64d (fun _ _ _ ho h10 x10 => ⟨_,_,_,rfl,?_⟩)
 obtain ⟨is1,rfl⟩:=opIs_of ia2 ib2 (f1.fits (by omega) (by omega)) ho
 have e10:=e9.trans x10
 have l10:=e10.lowOK hlow
 refine zc ?_
 refine br (False) (by rw [e_neq hA];rfl) (fun q => q.elim) (fun _ => ?_) <;> refine zc ?_
 refine fsub_ok hA l10 hx.i64n hx.i64d ib1.i64n ib1.i64d (fun _ _ _ ho h11 x11 => ⟨_,_,_,rfl,?_⟩)
 obtain ⟨is2,rfl⟩:=opIs_of hx ib1 (f2.fits (by omega) (by omega)) ho
 have e11:=e10.trans x11
 have l11:=e11.lowOK hlow
 refine zc ?_
 refine br (False) (by rw [e_neq hA];rfl) (fun q => q.elim) (fun _ => ?_) <;> refine zc ?_
 refine fsub_ok hA l11 ia1.i64n ia1.i64d ib1.i64n ib1.i64d (fun _ _ _ ho h12 x12 => ⟨_,_,_,rfl,?_⟩)
 obtain ⟨is3,rfl⟩:=opIs_of ia1 ib1 (f3.fits (by omega) (by omega)) ho
 have e12:=e11.trans x12
 have l12:=e12.lowOK hlow
 refine zc ?_
 refine br (False) (by rw [e_neq hA];rfl) (fun q => q.elim) (fun _ => ?_) <;> refine zc ?_
 refine mul_ok hA l12 is1.i64n is1.i64d is2.i64n is2.i64d (fun _ _ _ ho h13 x13 => ⟨_,_,_,rfl,?_⟩)
 obtain ⟨is4,rfl⟩:=opIs_of is1 is2 (f4.fits (by omega) (by omega)) ho
 have e13:=e12.trans x13
 have l13:=e13.lowOK hlow
 refine zc ?_
 refine br (False) (by rw [e_neq hA];rfl) (fun q => q.elim) (fun _ => ?_) <;> refine zc ?_
 refine div_ok hA l13 is4.i64n is4.i64d is3.i64n is3.i64d (fun _ _ _ ho h14 x14 => ⟨_,_,_,rfl,?_⟩)
 obtain ⟨is5,rfl⟩:=divIs_of is4 is3 (by have:=inc;grind) (f5.fits (by omega) (by omega)) ho
 have e14:=e13.trans x14
 have l14:=e14.lowOK hlow
 refine zc ?_
 refine br (False) (by rw [e_neq hA];rfl) (fun q => q.elim) (fun _ => ?_) <;> refine zc ?_
 refine fadd_ok hA l14 ib2.i64n ib2.i64d is5.i64n is5.i64d (fun s1 s2 _ ho h15 x15 => ⟨_,_,_,rfl,?_⟩)
 have e6 : lineQ (toK l) k x = ky (toK l) k' + (ky (toK l) k - ky (toK l) k') * (x - kx (toK l) k') / (kx (toK l) k - kx (toK l) k'):=by unfold lineQ;rw [← hk']
 obtain ⟨is6,rfl⟩:=opIs_of ib2 is5 (by rw [← e6];exact f6.fits (by omega) (by omega)) ho
 rw [← e6] at is6
 refine zc ?_
 exact hQ _ _ _ _ is6 hv f6 (e14.trans x15)
end Go.Proofs.Ytnokkniofajnhaa
namespace Go.Proofs.Ytnokkniofajnhaa
open Go.Sim
set_option maxRecDepth 100000
variable {F : Prims} {call head arith cmp scmp bnot bsame conv neg imax imin ofNat slen place inR nz geZ rd wr push next mkOK nat zeros sadd eqAgg cut slc sslc strAt part app cpy putAt fresh lowered bump wrote addN lt ne fpAll fpApp brk yn rng mget mput mnew bytes clr : _} (hA : AP F ⟨call,head,arith,cmp,scmp,bnot,bsame,conv,neg,imax,imin,ofNat,slen,place,inR,nz,geZ,rd,wr,push,next,mkOK,nat,zeros,sadd,eqAgg,cut,slc,sslc,strAt,part,app,cpy,putAt,fresh,lowered,bump,wrote,addN,lt,ne,fpAll,fpApp,brk,yn,rng,mget,mput,mnew,bytes,clr⟩)
include hA
theorem line_ok {h : AHeap} (hlow : h.low ≤ h.next) {t : List Kn} (cc : Corr t) {k k' : Int} (hk : k' = k - 1) (k0 : 1 ≤ k) (k1 : k < t.length) {x : Rat} (hb : bnd x 10000 10000) {a1 a2 a3 a4 b1 b2 b3 b4 xn xd : Int} (ia1 : isF a1 a2 (kx t k)) (ia2 : isF a3 a4 (ky t k)) (ib1 : isF b1 b2 (kx t k')) (ib2 : isF b3 b4 (ky t k')) (hx : isF xn xd x) {Q : Value → AHeap → Prop}
  (hQ : ∀ u v h',isF u v (lineQ t k x) → Ext h h' → Q (.agg #[.int .i64 u,.int .i64 v]) h') : call 59 [.agg #[.int .i64 b1,.int .i64 b2,.int .i64 b3,.int .i64 b4],.agg #[.int .i64 a1,.int .i64 a2,.int .i64 a3,.int .i64 a4],.agg #[.int .i64 xn,.int .i64 xd]] h Q:=by
 obtain ⟨f1,f2,f3,f4,f5,f6,f7⟩:=mean_bnd cc k0 k1 hb
 have f8:=(line_bnd cc k0 k1 hb).2.2.2.2.2
 have mean:=line_mean cc k0 k1 x
 have inc:=(cc.incr k (by omega) k1).1
 rw [← hk] at f2 f3 f4 f5 f6 f7 mean inc
 rw [← mean] at f8
 have ne : kx t k - kx t k' ≠ 0:=by grind
 have e9:=Ext.refl h
 have l9:=hlow
 refine hA.bodyR Try.func59 r59_ok (hA.alike _ _ _ rfl) hlow (zc ?_)
 refine rsub_ok hA l9 ia1.i64n ia1.i64d hx.i64n hx.i64d (fun _ _ _ ho h10 x10 => ⟨_,_,_,rfl,?_⟩)
 obtain ⟨is1,rfl⟩:=opIs_of ia1 hx (f1.fits (by omega) (by omega)) ho
 have e10:=e9.trans x10
 have l10:=e10.lowOK hlow
 refine zc ?_
 refine rsub_ok hA l10 hx.i64n hx.i64d ib1.i64n ib1.i64d (fun _ _ _ ho h11 x11 => ⟨_,_,_,rfl,?_⟩)
 obtain ⟨is2,rfl⟩:=opIs_of hx ib1 (f2.fits (by omega) (by omega)) ho
 have e11:=e10.trans x11
 have l11:=e11.lowOK hlow
 refine zc ?_
 refine rsub_ok hA l11 ia1.i64n ia1.i64d ib1.i64n ib1.i64d (fun _ _ _ ho h12 x12 => ⟨_,_,_,rfl,?_⟩)
 obtain ⟨is3,rfl⟩:=opIs_of ia1 ib1 (f3.fits (by omega) (by omega)) ho
 have e12:=e11.trans x12
 have l12:=e12.lowOK hlow
 refine zc ?_
 refine rdiv_ok hA l12 is1.i64n is1.i64d is3.i64n is3.i64d (fun _ _ _ ho h13 x13 => ⟨_,_,_,rfl,?_⟩)
 obtain ⟨is4,rfl⟩:=divIs_of is1 is3 ne (f4.fits (by omega) (by omega)) ho
 have e13:=e12.trans x13
 have l13:=e13.lowOK hlow
 refine zc ?_
 refine rdiv_ok hA l13 is2.i64n is2.i64d is3.i64n is3.i64d (fun _ _ _ ho h14 x14 => ⟨_,_,_,rfl,?_⟩)
 obtain ⟨is5,rfl⟩:=divIs_of is2 is3 ne (f5.fits (by omega) (by omega)) ho
 have e14:=e13.trans x14
 have l14:=e14.lowOK hlow
 refine zc ?_
 refine rmul_ok hA l14 is4.i64n is4.i64d ib2.i64n ib2.i64d (fun _ _ _ ho h15 x15 => ⟨_,_,_,rfl,?_⟩)
 obtain ⟨is6,rfl⟩:=opIs_of is4 ib2 (f6.fits (by omega) (by omega)) ho
 have e15:=e14.trans x15
 have l15:=e15.lowOK hlow
 refine zc ?_
 refine rmul_ok hA l15 is5.i64n is5.i64d ia2.i64n ia2.i64d (fun _ _ _ ho h16 x16 => ⟨_,_,_,rfl,?_⟩)
 obtain ⟨is7,rfl⟩:=opIs_of is5 ia2 (f7.fits (by omega) (by omega)) ho
 have e16:=e15.trans x16
 have l16:=e16.lowOK hlow
 refine zc ?_
 refine radd_ok hA l16 is6.i64n is6.i64d is7.i64n is7.i64d (fun _ _ _ ho h17 x17 => ⟨_,_,_,rfl,?_⟩)
 obtain ⟨is8,rfl⟩:=opIs_of is6 is7 (f8.fits (by omega) (by omega)) ho
 have e17:=e16.trans x17
 have l17:=e17.lowOK hlow
 refine zc ?_
 rw [mean] at is8
 exact hQ _ _ _ is8 e17
theorem at_loop {h0 : AHeap} (hlow : h0.low ≤ h0.next) {b o n c : Nat} {l : List Kr} (hl : Ks h0 (some ⟨b,o,none⟩) n l) (hi : allI64 l) (g : GoodL l) {xn xd : Int} {x : Rat} (hx : isF xn xd x) (hb : bnd x 10000 10000) (d0 : kx (toK l) 0 ≤ x) {Q : Exit → SS → Prop}
  (hQ : ∀ (u v : Int) (q : Rat) h',isF u v q → ValQ (toK l) x q → Ext h0 h' → ∀ w : Nat → Value,Q .ret ⟨[(32,w 0),(31,w 1),(30,w 2),(29,w 3),(28,w 4),(27,w 5),(26,w 6),(25,w 7),(24,w 8),(23,w 9),(22,w 10),(0,w 11),(3,w 12),(4,.pointer (some ⟨1,0,some 0⟩)),(5,w 14)],23,[(1,[.int .i64 u,.int .i64 v]),(0,[.int .i64 xn,.int .i64 xd]),(1,[.int .i64 0,.int .i64 0])],h'⟩) :
  ∀ (m : Nat) (k : Int) (h : AHeap),k.toNat ≤ m → 1 ≤ k → k < n → x ≤ kx (toK l) k → Ext h0 h → head 36 2 2 ⟨[(0,.slice (some ⟨b,o,none⟩) n c),(3,.pointer (some ⟨0,0,some 0⟩)),(4,.pointer (some ⟨1,0,some 0⟩)),(5,.int .i64 k)],2,[(0,[.int .i64 xn,.int .i64 xd]),(1,[.int .i64 0,.int .i64 0])],h⟩ Q:=by
 have hlen:=hl.len
 have g2:=g.most
 have cc:=g.corr
 intro m
 induction m with
 | zero => intro k h hm k1 k2 kx1 he;omega
 | succ m ih =>
  intro k h hm k1 k2 kx1 he
  have ek : arith .sub .i64 k 1 = k - 1:=sub64 hA (by omega) (by omega)
  obtain ⟨k',hk'⟩ : ∃ z,z = k - 1:=⟨_,rfl⟩
  rw [← hk'] at ek
  obtain ⟨h9,hh9⟩ : ∃ z,z = bump h 9:=⟨_,rfl⟩
  have e9 : Ext h0 h9:=by rw [hh9];exact he.trans (ext_bump hA _ _)
  have l9:=e9.lowOK hlow
  obtain ⟨_,b1,b2,b3,b4,hg1,_,_,_,_,_,r1,_⟩:=ks_in (hl.ext e9) hi (i:=k') (by omega) (by omega)
  obtain ⟨ib1,ib2⟩:=g.is (i:=k') (by omega) (by omega)
  obtain ⟨ia1,ia2⟩:=g.is (i:=k) (by omega) (by omega)
  rw [hg1] at ib1 ib2
  replace ib1 : isF b1 b2 _:=ib1
  replace ib2 : isF b3 b4 _:=ib2
  have r2:=rd_fld hA r1
  refine hA.roundR Try.func36 r36_ok (zc ?_)
  refine br (0 < k) (by rw [e_gtr hA]) (fun _ => ?_) (fun q => absurd (show 0 < k by omega) q) <;> refine zc ?_
  rw [ek,← hh9]
  refine zq ?_
  refine qless_ok hA (low_fresh hA h9) hx ib1 (fun r h10 hr x10 => ⟨_,rfl,?_⟩)
  refine zc ?_
  obtain ⟨h11,hh11⟩ : ∃ z,z = lowered h9 h10:=⟨_,rfl⟩
  have e11 : Ext h0 h11:=by rw [hh11];exact ext_low hA hlow e9 x10
  rw [← hh11]
  refine br (r = false) (by rw [e_bnot hA];cases r <;> rfl) (fun c2 => ?_) (fun c2 => ?_) <;> refine zc ?_
  ·have hkx : kx (toK l) k' ≤ x:=Rat.not_lt.1 (fun q => by have:=hr.2 q;rw [c2] at this;cases this)
   obtain ⟨h12,hh12⟩ : ∃ z,z = bump h11 12:=⟨_,rfl⟩
   have e12 : Ext h0 h12:=by rw [hh12];exact e11.trans (ext_bump hA _ _)
   have l12:=e12.lowOK hlow
   obtain ⟨_,c1,c2,c3,c4,hg3,_,_,_,_,q1,_,_⟩:=ks_in (hl.ext e12) hi (i:=k') (by omega) (by omega)
   obtain ⟨_,a1,a2,a3,a4,hg2,_,_,_,_,q2,_,_⟩:=ks_in (hl.ext e12) hi (i:=k) (by omega) (by omega)
   rw [hg2] at ia1 ia2
   replace ia1 : isF a1 a2 _:=ia1
   replace ia2 : isF a3 a4 _:=ia2
   rw [hg1] at hg3
   cases hg3
   have q3:=rd_ok hA q1
   have q4:=rd_ok hA q2
   rw [ek,← hh12]
   refine zq ?_
   refine line_ok hA (low_fresh hA h12) cc hk' k1 (by rw [toK_len];omega) hb ia1 ia2 ib1 ib2 hx (fun u v h13 hv x13 => ⟨_,_,rfl,?_⟩)
   refine zq ?_
   have:=hQ u v _ _ hv ⟨k,k1,by rw [toK_len];omega,by rw [← hk'];exact hkx,kx1,rfl⟩ (ext_low hA hlow e12 x13)
   exact this fun i => ([.agg #[.int .i64 u,.int .i64 v],.agg #[.int .i64 xn,.int .i64 xd],.agg #[.int .i64 a1,.int .i64 a2,.int .i64 a3,.int .i64 a4],.pointer (some ⟨b,place o k 4,none⟩),.int .i64 k,.slice (some ⟨b,o,none⟩) n c,.agg #[.int .i64 b1,.int .i64 b2,.int .i64 b3,.int .i64 b4],.pointer (some ⟨b,place o k' 4,none⟩),.int .i64 k',.int .i64 k,.slice (some ⟨b,o,none⟩) n c,.slice (some ⟨b,o,none⟩) n c,.pointer (some ⟨0,0,some 0⟩),.bool true,.int .i64 k] : List Value).getD i (.bool true)
  ·have hkx : x < kx (toK l) k':=hr.1 (by cases r with | true => rfl | false => exact absurd rfl c2)
   by_cases z : k' = 0
   ·rw [z] at hkx;exact absurd hkx (Rat.not_lt.2 d0)
   rw [ek]
   exact ih k' h11 (by omega) (by omega) (by omega) (Rat.le_of_lt hkx) e11
theorem at_ok {h : AHeap} (hlow : h.low ≤ h.next) {a : Option Addr} {n c : Nat} {l : List Kr} (hl : Ks h a n l) (hi : allI64 l) (g : GoodL l) {xn xd : Int} {x : Rat} (hx : isF xn xd x) (hb : bnd x 10000 10000) (d0 : kx (toK l) 0 ≤ x) (d1 : x ≤ kx (toK l) (n - 1)) {Q : Value → AHeap → Prop}
  (hQ : ∀ u v q h',isF u v q → ValQ (toK l) x q → Ext h h' → Q (.agg #[.int .i64 u,.int .i64 v]) h') : call 36 [.slice a n c,.agg #[.int .i64 xn,.int .i64 xd]] h Q:=by
 have hlen:=hl.len
 have g1:=g.two
 have g2:=g.most
 obtain ⟨b,o,rfl⟩:=ks_some hl (by omega)
 obtain ⟨nn,hnn⟩ : ∃ z : Int,z = n - 1:=⟨_,rfl⟩
 have e1 : arith .sub .i64 (ofNat n) 1 = nn:=by rw [e_ofNat hA,hnn];exact sub64 hA (by omega) (by omega)
 rw [← hnn] at d1
 refine hA.bodyR Try.func36 r36_ok (hA.alike _ _ _ rfl) hlow (zc ?_)
 rw [e1]
 refine at_loop hA hlow hl hi g hx hb d0 (fun u v q h' hu hv x' w => ?_) n nn h (by omega) (by omega) (by omega) d1 (.refl h)
 refine zc ?_
 exact hQ u v q h' hu hv x'
