import Derived.Test.YtogliemiljhliaaRdGv
import Derived.Test.YtogliemiljhliaaRdYp
set_option linter.unusedSimpArgs false
set_option linter.unusedVariables false
namespace Go.Proofs.Ytogliemiljhliaa
open Go.Sim Ext
set_option linter.unusedVariables false
set_option maxRecDepth 100000
structure BasN (n : Nat) (L : Int) (B : List Nat) (b : Nat → Nat → Int) (x : Nat → Int) : Prop where
 lead : L ≠ 0
 leadB : L.natAbs ≤ 1000000000
 few : B.length ≤ 100
 lt : ∀ c,c ∈ B → c < n
 own : ∀ c,c ∈ B → b c c = L
 late : ∀ c,c ∈ B → ∀ y,c < y → b c y = 0
 small : ∀ c,c ∈ B → ∀ y,y < n → (b c y).natAbs ≤ 1000000000
 xs : ∀ j,j < n → (x j).natAbs ≤ 100
 sum : ∀ k,k < n → lsum (fun c => x c * b c k) B = L * x k
def sumB (b : Nat → Nat → Int) (x : Nat → Int) (B : List Nat) (i k : Nat) : Int:=lsum (fun c => x c * b c k) (B.take i)
theorem sumB_succ {b : Nat → Nat → Int} {x : Nat → Int} {B : List Nat} {i k : Nat} (h : i < B.length) : sumB b x B (i + 1) k = sumB b x B i k + x (B.getD i 0) * b (B.getD i 0) k:=by
 unfold sumB lsum
 rw [List.take_succ_eq_append_getElem h,List.map_append,List.sum_append,List.getD_eq_getElem?_getD,List.getElem?_eq_getElem h]
 simp
theorem sumB_small {n : Nat} {L : Int} {B : List Nat} {b : Nat → Nat → Int} {x : Nat → Int} (g : BasN n L B b x) {k : Nat} (hk : k < n) : ∀ i,i ≤ B.length → (sumB b x B i k).natAbs ≤ i * 100000000000
 | 0,_ => by show (0 : Int).natAbs ≤ _;omega
 | i + 1,h => by
  rw [sumB_succ (by omega)]
  have h1:=sumB_small g hk i (by omega)
  have m : B.getD i 0 ∈ B:=mem_bound.2 ⟨i,by omega,rfl⟩
  have h2 : (x (B.getD i 0) * b (B.getD i 0) k).natAbs ≤ 100 * 1000000000:=by rw [Int.natAbs_mul];exact Nat.mul_le_mul (g.xs _ (g.lt _ m)) (g.small _ m k hk)
  omega
def mixV (L : Int) (s s' : Nat → Int) (k : Nat) : Nat → Fc:=fun y => if y < k then fr (s' y) L else fr (s y) L
variable {F : Prims} {call head arith cmp scmp bnot bsame conv neg imax imin ofNat slen place inR nz geZ rd wr push next mkOK nat zeros sadd eqAgg cut slc sslc strAt part app cpy putAt fresh lowered bump wrote addN lt ne fpAll fpApp brk yn rng mget mput mnew bytes clr : _} (hA : AP F ⟨call,head,arith,cmp,scmp,bnot,bsame,conv,neg,imax,imin,ofNat,slen,place,inR,nz,geZ,rd,wr,push,next,mkOK,nat,zeros,sadd,eqAgg,cut,slc,sslc,strAt,part,app,cpy,putAt,fresh,lowered,bump,wrote,addN,lt,ne,fpAll,fpApp,brk,yn,rng,mget,mput,mnew,bytes,clr⟩)
include hA
theorem of31_ok {h : AHeap} (hlow : h.low ≤ h.next) {n d : Int} {Q : Value → AHeap → Prop} (hQ : Q (.agg #[.int .i64 n,.int .i64 d]) h) : call 24 [.int .i64 n,.int .i64 d] h Q:=by
 refine hA.bodyR Try.func24 r24_ok (hA.alike _ _ _ rfl) hlow (zc ?_)
 exact hQ
theorem spz_loop {h0 : AHeap} (hlow : h0.low ≤ h0.next) {b n : Nat} (n100 : n ≤ 100) {v0 : Value} {ax : Option Addr} {cx kn : Nat} {T : List (Nat × List Value)} {Q : Exit → SS → Prop}
  (hQ : ∀ h',Vec fC 2 h0 h' b n (fun _ => ⟨0,1⟩) → Q (.exit 0) ⟨[(0,v0),(1,.slice ax n cx),(5,.slice (some ⟨b,0,none⟩) n n)],kn,T,h'⟩) :
  ∀ (d i : Nat) (I : Int) (h : AHeap),n - i = d → i ≤ n → I = i → Vec fC 2 h0 h b n (oneTo i) →
   head 26 3 kn ⟨[(0,v0),(1,.slice ax n cx),(5,.slice (some ⟨b,0,none⟩) n n),(6,.int .i64 I)],kn,T,h⟩ Q:=by
 intro d
 induction d with
 | zero =>
  intro i I h hd hi eI t
  refine hA.roundR Try.func26 r26_ok (zc ?_)
  refine br (I < (n : Int)) (by rw [e_lss hA,e_ofNat hA]) (fun q => by omega) (fun _ => ?_) <;> refine zc ?_
  exact hQ h (t.congr (fun j hj => by unfold oneTo;rw [if_pos (by omega)]))
 | succ d ih =>
 intro i I h hd hi eI t
 obtain ⟨h1,w1,t1,r1⟩:=t.set (i:=i) (by omega) (⟨0,1⟩ : Fc)
 have w1 : wr h b (place 0 I 2) [.int .i64 0,.int .i64 1] h1:=wr_ok hA (by rw [eI];exact w1)
 refine hA.roundR Try.func26 r26_ok (zc ?_)
 refine br (I < (n : Int)) (by rw [e_lss hA,e_ofNat hA]) (fun _ => ?_) (fun q => by omega) <;> refine zc ?_
 refine zq ?_
 refine of31_ok hA (t.ext.lowOK hlow) ⟨_,_,rfl,?_⟩
 refine zq ?_
 rw [add64 hA (by omega) (by omega)]
 exact ih (i + 1) (I + 1) h1 (by omega) (by omega) (by omega) (t1.congr (fun j hj => by
  unfold oneTo
  by_cases c : j = i
  ·rw [if_pos c,if_pos (by omega)]
  ·rw [if_neg c]
   by_cases c2 : j < i
   ·rw [if_pos c2,if_pos (by omega)]
   ·rw [if_neg c2,if_neg (by omega)]))
theorem spl_loop {h : AHeap} {ab : Option Addr} {K cb : Nat} {hs : List Hd} {g : List (List Fc)} (hg : GrR fC 2 h ab K hs g) {i : Nat} {I : Int} (eI : I = i) (hi : i < K) {n c : Nat} (n100 : n ≤ 100) (hc : c < n) {f : Nat → Fc} (hf : gt g (i : Int) = lst f n) (hn0 : (f c).n ≠ 0) (hz : ∀ y,c < y → y < n → (f y).n = 0) {v1 v5 : Value} {kn : Nat} {T : List (Nat × List Value)} {Q : Exit → SS → Prop}
  (hQ : ∀ C : Int,C = c → Q (.exit 4) ⟨[(0,.slice ab K cb),(1,v1),(5,v5),(7,.int .i64 I),(8,.int .i64 C)],kn,T,h⟩) :
  ∀ (d y : Nat) (Y : Int),y - c = d → c ≤ y → y < n → Y = y →
   head 26 10 kn ⟨[(0,.slice ab K cb),(1,v1),(5,v5),(7,.int .i64 I),(8,.int .i64 Y)],kn,T,h⟩ Q:=by
 intro d
 induction d with
 | zero =>
  intro y Y hd hy hyn eY
  obtain rfl : y = c:=by omega
  obtain ⟨bb,bo,ea,lb⟩:=hg.some (by omega)
  subst ea
  have r0:=gr_head hA hg (y:=I) (by omega) (by omega)
  have rr:=hg.row I (by omega) (by omega)
  obtain ⟨xa,xn,xc,hx⟩ : ∃ x y z,gt hs I = ⟨x,y,z⟩:=⟨_,_,_,rfl⟩
  rw [hx] at r0 rr
  rw [eI,hf] at rr
  have rr : Rows fC 2 h xa xn (lst f n):=rr
  obtain rfl : xn = n:=by rw [← rr.len,lst_len]
  obtain ⟨pb,po,ea,lp,r3⟩:=rr.at (i:=Y) (by omega) (by omega)
  subst ea
  obtain ⟨un,ud,hu⟩ : ∃ p q,f y = ⟨p,q⟩:=⟨_,_,rfl⟩
  have r3:=r3 0 1 (by omega) (by omega)
  rw [show gt (lst f xn) Y = ⟨un,ud⟩ by rw [eY,lst_gt _ (by omega)];exact hu] at r3
  have r3 : rd h pb (addN (place po Y 2) 0) 1 [.int .i64 un]:=rd_fld hA r3
  rw [hu] at hn0
  refine hA.roundR Try.func26 r26_ok (zc ?_)
  refine br (0 ≤ Y) (by rw [e_geq hA]) (fun _ => ?_) (fun q => by omega) <;> refine zc ?_
  refine zq ?_
  refine br (un = 0) (by rw [e_eql hA]) (fun q => absurd q hn0) (fun _ => ?_) <;> refine zc ?_
  exact hQ Y eY
 | succ d ih =>
  intro y Y hd hy hyn eY
  obtain ⟨bb,bo,ea,lb⟩:=hg.some (by omega)
  subst ea
  have r0:=gr_head hA hg (y:=I) (by omega) (by omega)
  have rr:=hg.row I (by omega) (by omega)
  obtain ⟨xa,xn,xc,hx⟩ : ∃ x y z,gt hs I = ⟨x,y,z⟩:=⟨_,_,_,rfl⟩
  rw [hx] at r0 rr
  rw [eI,hf] at rr
  have rr : Rows fC 2 h xa xn (lst f n):=rr
  obtain rfl : xn = n:=by rw [← rr.len,lst_len]
  obtain ⟨pb,po,ea,lp,r3⟩:=rr.at (i:=Y) (by omega) (by omega)
  subst ea
  obtain ⟨un,ud,hu⟩ : ∃ p q,f y = ⟨p,q⟩:=⟨_,_,rfl⟩
  have r3:=r3 0 1 (by omega) (by omega)
  rw [show gt (lst f xn) Y = ⟨un,ud⟩ by rw [eY,lst_gt _ (by omega)];exact hu] at r3
  have r3 : rd h pb (addN (place po Y 2) 0) 1 [.int .i64 un]:=rd_fld hA r3
  have z:=hz y (by omega) (by omega)
  rw [hu] at z
  refine hA.roundR Try.func26 r26_ok (zc ?_)
  refine br (0 ≤ Y) (by rw [e_geq hA]) (fun _ => ?_) (fun q => by omega) <;> refine zc ?_
  refine zq ?_
  refine br (un = 0) (by rw [e_eql hA]) (fun _ => ?_) (fun q => absurd z q) <;> refine zc ?_
  refine zq ?_
  rw [sub64 hA (by omega) (by omega)]
  exact ih (y - 1) (Y - 1) (by omega) (by omega) (by omega) (by omega)
theorem spi_loop {h0 : AHeap} (hlow : h0.low ≤ h0.next) {ab : Option Addr} {K cb : Nat} {hs : List Hd} {g : List (List Fc)} (hg : GrR fC 2 h0 ab K hs g) {i : Nat} {I : Int} (eI : I = i) (hi : i < K) {n c : Nat} (n100 : n ≤ 100) (hc : c < n) {u s s' : Nat → Int} {x : Nat → Int} {L : Int} (hf : gt g (i : Int) = lst (fun y => fr (u y) L) n) {ax : Option Addr} {cx : Nat} (hx : Rows fC 2 h0 ax n (lst (fun j => fr (x j) 1) n))
  (hL : L ≠ 0) (hL2 : L.natAbs ≤ 1000000000) (hu : ∀ y,y < n → (u y).natAbs ≤ 1000000000) (hx1 : (x c).natAbs ≤ 100) (hs1 : ∀ y,y < n → (s y).natAbs ≤ 1000000000000000) (hs2 : ∀ y,y < n → (s' y).natAbs ≤ 1000000000000000) (hss : ∀ y,y < n → s' y = s y + x c * u y) {sb : Nat} {C : Int} (eC : C = c) {Q : Exit → SS → Prop}
  (hQ : ∀ h',Vec fC 2 h0 h' sb n (fun y => fr (s' y) L) → Q (.exit 6) ⟨[(0,.slice ab K cb),(1,.slice ax n cx),(5,.slice (some ⟨sb,0,none⟩) n n),(7,.int .i64 I)],13,[],h'⟩) :
  ∀ (d k : Nat) (kk : Int) (h : AHeap),n - k = d → k ≤ n → kk = k → Vec fC 2 h0 h sb n (mixV L s s' k) →
   head 26 15 13 ⟨[(0,.slice ab K cb),(1,.slice ax n cx),(5,.slice (some ⟨sb,0,none⟩) n n),(7,.int .i64 I),(8,.int .i64 C),(9,.int .i64 kk)],13,[],h⟩ Q:=by
 intro d
 induction d with
 | zero =>
  intro k kk h hd hk ek t
  refine hA.roundR Try.func26 r26_ok (zc ?_)
  refine br (kk < (n : Int)) (by rw [e_lss hA,e_ofNat hA]) (fun q => by omega) (fun _ => ?_) <;> refine zc ?_
  exact hQ h (t.congr (fun j hj => by unfold mixV;rw [if_pos (by omega)]))
 | succ d ih =>
 intro k kk h hd hk ek t
 obtain ⟨h9,hh9⟩ : ∃ z,z = bump h 18:=⟨_,rfl⟩
 have x9 : Ext h h9:=by rw [hh9];exact ext_bump hA _ _
 have n9 : h9.next = h.next + 18:=by rw [hh9,e_bump hA];rfl
 have e9:=t.ext.trans x9
 have l9:=e9.lowOK hlow
 obtain ⟨xb,xo,ea,lx,r1⟩:=(hx.ext e9).at (i:=C) (by omega) (by omega)
 subst ea
 have r1:=r1 0 2 (by omega) (by omega)
 obtain ⟨xn,xd,hxx⟩ : ∃ p q,fr (x c) 1 = ⟨p,q⟩:=⟨_,_,rfl⟩
 rw [show gt (lst (fun j => fr (x j) 1) n) C = ⟨xn,xd⟩ by rw [eC,lst_gt _ (by omega)];exact hxx] at r1
 have r1 : rd h9 xb (place xo C 2) 2 [.int .i64 xn,.int .i64 xd]:=rd_ok hA r1
 have hg9:=hg.ext e9
 obtain ⟨bb,bo,ea,lb⟩:=hg9.some (by omega)
 subst ea
 have r0:=gr_head hA hg9 (y:=I) (by omega) (by omega)
 have rr:=hg9.row I (by omega) (by omega)
 obtain ⟨ra,rn,rc,hh⟩ : ∃ p q r,gt hs I = ⟨p,q,r⟩:=⟨_,_,_,rfl⟩
 rw [hh] at r0 rr
 rw [eI,hf] at rr
 have rr : Rows fC 2 h9 ra rn (lst (fun y => fr (u y) L) n):=rr
 obtain rfl : rn = n:=by rw [← rr.len,lst_len]
 obtain ⟨pb,po,ea,lp,r3⟩:=rr.at (i:=kk) (by omega) (by omega)
 subst ea
 obtain ⟨un,ud,huu⟩ : ∃ p q,fr (u k) L = ⟨p,q⟩:=⟨_,_,rfl⟩
 have r3:=r3 0 2 (by omega) (by omega)
 rw [show gt (lst (fun y => fr (u y) L) rn) kk = ⟨un,ud⟩ by rw [ek,lst_gt _ (by omega)];exact huu] at r3
 have r3 : rd h9 pb (place po kk 2) 2 [.int .i64 un,.int .i64 ud]:=rd_ok hA r3
 have ix : isF xn xd (rq (x c) 1):=by have:=fr_is (a:=x c) (b:=1) (by omega) (by decide) (by decide);rw [hxx] at this;exact this
 have iu : isF un ud (rq (u k) L):=by have:=fr_is (a:=u k) (b:=L) (by have:=hu k (by omega);omega) (by omega) hL;rw [huu] at this;exact this
 obtain ⟨sn,sd,hsn⟩ : ∃ p q,fr (s k) L = ⟨p,q⟩:=⟨_,_,rfl⟩
 have is : isF sn sd (rq (s k) L):=by have:=fr_is (a:=s k) (b:=L) (by have:=hs1 k (by omega);omega) (by omega) hL;rw [hsn] at this;exact this
 have ep : rq (x c) 1 * rq (u k) L = rq (x c * u k) L:=by rw [rq_mul (by decide) hL,Int.one_mul]
 have eq : rq (s k) L + rq (x c * u k) L = rq (s' k) L:=by
  rw [hss k (by omega)]
  have:=cast_ne0 hL
  unfold rq
  rw [Rat.intCast_add]
  grind
 have fp : fits (rq (x c) 1 * rq (u k) L):=by rw [ep];exact fits_rq (by rw [Int.natAbs_mul];exact Nat.le_trans (Nat.mul_le_mul hx1 (hu k (by omega))) (by decide)) (by omega) hL
 have fs : fits (rq (s k) L + rq (x c * u k) L):=by rw [eq];exact fits_rq (by have:=hs2 k (by omega);omega) (by omega) hL
 refine hA.roundR Try.func26 r26_ok (zc ?_)
 refine br (kk < (rn : Int)) (by rw [e_lss hA,e_ofNat hA]) (fun _ => ?_) (fun q => by omega) <;> refine zc ?_
 refine zq ?_
 rw [← hh9]
 refine zq ?_
 refine rmul_ok hA (low_fresh hA h9) ix.i64n ix.i64d iu.i64n iu.i64d (fun a1 b1 r k1 hz ez => ⟨_,_,_,rfl,?_⟩)
 obtain ⟨j1,rfl⟩:=opIs_of ix iu fp k1
 rw [ep] at j1
 obtain ⟨hX,hhX⟩ : ∃ z,z = lowered h9 hz:=⟨_,rfl⟩
 have eX : Ext h9 hX:=by rw [hhX];exact ext_low hA l9 (.refl h9) ez
 refine zc ?_
 rw [← hhX]
 refine zq ?_
 obtain ⟨h8,hh8⟩ : ∃ z,z = bump hX 12:=⟨_,rfl⟩
 have x8 : Ext hX h8:=by rw [hh8];exact ext_bump hA _ _
 have n8 : h8.next = hX.next + 12:=by rw [hh8,e_bump hA];rfl
 have t8:=((t.more x9).more eX).more x8
 have l8:=t8.ext.lowOK hlow
 have r5 : rd h8 sb (place 0 kk 2) 2 [.int .i64 sn,.int .i64 sd]:=rd_ok hA (by
  obtain ⟨b',o',ea',_,r5⟩:=t8.rows.at (i:=kk) (by omega) (by omega)
  cases ea'
  have r5:=r5 0 2 (by omega) (by omega)
  rw [show gt (lst (mixV L s s' k) rn) kk = ⟨sn,sd⟩ by rw [ek,lst_gt _ (by omega),← hsn];unfold mixV;rw [if_neg (by omega)]] at r5
  exact r5)
 rw [← hh8]
 refine zq ?_
 refine radd_ok hA (low_fresh hA h8) is.i64n is.i64d j1.i64n j1.i64d (fun a2 b2 r' k2 hw ew => ⟨_,_,_,rfl,?_⟩)
 obtain ⟨j2,rfl⟩:=opIs_of is j1 fs k2
 rw [eq] at j2
 obtain ⟨hY,hhY⟩ : ∃ z,z = lowered h8 hw:=⟨_,rfl⟩
 have eY : Ext h8 hY:=by rw [hhY];exact ext_low hA l8 (.refl h8) ew
 refine zc ?_
 rw [← hhY]
 refine zq ?_
 refine br False (by rw [e_neq hA];rfl) (fun q => q.elim) (fun _ => ?_) <;> refine zc ?_
 refine zq ?_
 refine br False (by rw [e_neq hA];rfl) (fun q => q.elim) (fun _ => ?_) <;> refine zc ?_
 have tY:=t8.more eY
 obtain ⟨hZ,wZ,tZ,_⟩:=tY.set (i:=k) (by omega) (⟨a2,b2⟩ : Fc)
 have wZ : wr hY sb (place 0 kk 2) [.int .i64 a2,.int .i64 b2] hZ:=wr_ok hA (by rw [ek];exact wZ)
 refine zq ?_
 rw [add64 hA (by omega) (by omega)]
 refine ih (k + 1) (kk + 1) hZ (by omega) (by omega) (by omega) (tZ.congr (fun j hj => ?_))
 unfold mixV
 by_cases q : j = k
 ·subst q
  rw [if_pos rfl,if_pos (by omega)]
  exact fr_eq j2 rfl
 ·rw [if_neg q]
  by_cases w : j < k
  ·rw [if_pos w,if_pos (by omega)]
  ·rw [if_neg w,if_neg (by omega)]
theorem spo_loop {h0 : AHeap} (hlow : h0.low ≤ h0.next) {ab : Option Addr} {K cb : Nat} {hs : List Hd} {n : Nat} {L : Int} {B : List Nat} {b : Nat → Nat → Int} {x : Nat → Int} (G : BasN n L B b x) (n100 : n ≤ 100) (hg : GrR fC 2 h0 ab K hs (B.map (fun c => lst (fun y => fr (b c y) L) n))) {ax : Option Addr} {cx : Nat} (hx : Rows fC 2 h0 ax n (lst (fun j => fr (x j) 1) n)) {sb : Nat} {Q : Exit → SS → Prop}
  (hQ : ∀ h',Vec fC 2 h0 h' sb n (fun y => fr (sumB b x B K y) L) → Q (.exit 2) ⟨[(1,.slice ax n cx),(5,.slice (some ⟨sb,0,none⟩) n n)],0,[],h'⟩) :
  ∀ (d i : Nat) (I : Int) (h : AHeap),K - i = d → i ≤ K → I = i → Vec fC 2 h0 h sb n (fun y => fr (sumB b x B i y) L) →
   head 26 7 0 ⟨[(0,.slice ab K cb),(1,.slice ax n cx),(5,.slice (some ⟨sb,0,none⟩) n n),(7,.int .i64 I)],0,[],h⟩ Q:=by
 have lK : B.length = K:=by rw [← hg.len,List.length_map]
 have K100:=G.few
 intro d
 induction d with
 | zero =>
  intro i I h hd hi eI t
  obtain rfl : i = K:=by omega
  refine hA.roundR Try.func26 r26_ok (zc ?_)
  refine br (I < (i : Int)) (by rw [e_lss hA,e_ofNat hA]) (fun q => by omega) (fun _ => ?_) <;> refine zc ?_
  exact hQ h t
 | succ d ih =>
 intro i I h hd hi eI t
 obtain ⟨c,hc⟩ : ∃ z,z = B.getD i 0:=⟨_,rfl⟩
 have cm : c ∈ B:=by rw [hc];exact mem_bound.2 ⟨i,by omega,rfl⟩
 have cn:=G.lt c cm
 have hf : gt (B.map (fun c => lst (fun y => fr (b c y) L) n)) (i : Int) = lst (fun y => fr (b c y) L) n:=by
  unfold gt
  rw [List.getD_eq_getElem?_getD,List.getElem?_map,show ((i : Int)).toNat = i from rfl,List.getElem?_eq_getElem (show i < B.length by omega),hc,List.getD_eq_getElem?_getD,List.getElem?_eq_getElem (show i < B.length by omega)]
  rfl
 have e:=t.ext
 refine hA.roundR Try.func26 r26_ok (zc ?_)
 refine br (I < (K : Int)) (by rw [e_lss hA,e_ofNat hA]) (fun _ => ?_) (fun q => by omega) <;> refine zc ?_
 rw [e_ofNat hA,sub64 hA (by omega) (by omega)]
 refine spl_loop hA (hg.ext e) eI (by omega) n100 cn hf (by rw [G.own c cm,fr_self G.lead];decide) (fun y y0 y1 => by rw [G.late c cm y y0];exact (fr_num G.lead).2 rfl) (fun C eC => ?_) (n - 1 - c) (n - 1) _ rfl (by omega) (by omega) (by omega)
 refine zc ?_
 refine br (C < 0) (by rw [e_lss hA]) (fun q => by omega) (fun _ => ?_) <;> refine zc ?_
 obtain ⟨h9,hh9⟩ : ∃ z,z = bump h 13:=⟨_,rfl⟩
 have x9 : Ext h h9:=by rw [hh9];exact ext_bump hA _ _
 have n9 : h9.next = h.next + 13:=by rw [hh9,e_bump hA];rfl
 have e9:=e.trans x9
 have l9:=e9.lowOK hlow
 have hg9:=hg.ext e9
 obtain ⟨bb,bo,ea,lb⟩:=hg9.some (by omega)
 subst ea
 have r0:=gr_head hA hg9 (y:=I) (by omega) (by omega)
 have rr:=hg9.row I (by omega) (by omega)
 obtain ⟨ra,rn,rc,hh⟩ : ∃ p q r,gt hs I = ⟨p,q,r⟩:=⟨_,_,_,rfl⟩
 rw [hh] at r0 rr
 rw [eI,hf] at rr
 have rr : Rows fC 2 h9 ra rn (lst (fun y => fr (b c y) L) n):=rr
 obtain rfl : rn = n:=by rw [← rr.len,lst_len]
 obtain ⟨pb,po,ea,lp,r3⟩:=rr.at (i:=C) (by omega) (by omega)
 subst ea
 have r3:=r3 0 2 (by omega) (by omega)
 rw [show gt (lst (fun y => fr (b c y) L) rn) C = ⟨1,1⟩ by rw [eC,lst_gt _ (by omega),G.own c cm];exact fr_self G.lead] at r3
 have r3 : rd h9 pb (place po C 2) 2 [.int .i64 1,.int .i64 1]:=rd_ok hA r3
 rw [← hh9]
 refine zq ?_
 refine of31_ok hA (low_fresh hA h9) ⟨_,_,rfl,?_⟩
 refine zc ?_
 rw [low_same hA l9]
 refine zq ?_
 obtain ⟨r,hr1,hr2⟩:=eqF 1 1 1 1
 obtain rfl : r = true:=hr2.2 ⟨rfl,rfl⟩
 rw [e_eqAgg hA]
 refine ⟨guardF,true,hr1,?_⟩
 refine zq ?_
 refine ⟨fp_old hA (wrote_no hA (.refl _)) (by rw [e_addN hA,e_next hA];omega),fp_old hA (wrote_no hA (.refl _)) (by rw [e_addN hA,e_next hA];omega),?_⟩
 refine zq ?_
 refine br False (by rw [e_bnot hA];rfl) (fun q => q.elim) (fun _ => ?_) <;> refine zc ?_
 refine zq ?_
 have sm:=fun (k : Nat) (hk : k < rn) (i : Nat) (hi : i ≤ B.length) => (show (sumB b x B i k).natAbs ≤ 1000000000000000 by
  have:=sumB_small G hk i hi
  have : i * 100000000000 ≤ 100 * 100000000000:=Nat.mul_le_mul_right _ (by omega)
  omega)
 refine spi_loop hA hlow hg eI (by omega) n100 cn hf hx G.lead G.leadB (G.small c cm) (G.xs c cn) (fun y hy => sm y hy i (by omega)) (fun y hy => sm y hy (i + 1) (by omega)) (fun y hy => by rw [sumB_succ (by omega),← hc]) eC (fun h7 t7 => ?_) rn 0 0 h9 (by omega) (by omega) rfl ((t.more x9).congr (fun y hy => by unfold mixV;rw [if_neg (Nat.not_lt_zero y)]))
 refine zc ?_
 rw [add64 hA (by omega) (by omega)]
 exact ih (i + 1) (I + 1) h7 (by omega) (by omega) (by omega) t7
theorem spanned_ok {h : AHeap} (hlow : h.low ≤ h.next) {ab : Option Addr} {K cb : Nat} {hs : List Hd} {n : Nat} {L : Int} {B : List Nat} {b : Nat → Nat → Int} {x : Nat → Int} (G : BasN n L B b x) (n100 : n ≤ 100) (hg : GrR fC 2 h ab K hs (B.map (fun c => lst (fun y => fr (b c y) L) n))) {ax : Option Addr} {cx : Nat} (hx : Rows fC 2 h ax n (lst (fun j => fr (x j) 1) n)) {Q : Value → AHeap → Prop}
  (hQ : ∀ h',Ext h h' → Q (.bool true) h') : call 26 [.slice ab K cb,.slice ax n cx] h Q:=by
 have lK : B.length = K:=by rw [← hg.len,List.length_map]
 refine hA.bodyR Try.func26 r26_ok (hA.alike _ _ _ rfl) hlow (zc ?_)
 rw [e_ofNat hA]
 refine ⟨mk_ok hA (by omega) (Int.le_refl _) (by omega),?_⟩
 refine zc ?_
 rw [e_zeros hA,e_next hA,e_push hA,e_nat hA,show (Int.ofNat n).toNat = n from rfl]
 rw [show copies [Value.int .i64 0,.int .i64 0] n = (lst (fun _ => (⟨0,0⟩ : Fc)) n).flatMap fC from copies_lst (enc:=fC) ⟨0,0⟩ n]
 refine spz_loop hA (h0:=h) hlow n100 (fun h5 v5 => ?_) n 0 0 _ (by omega) (by omega) rfl ⟨.push h 2 _,Own.push h 2 _,Nat.le_refl _,Nat.lt_succ_self _,fC_len,by omega⟩
 obtain ⟨sb,hsb⟩ : ∃ z,z = h.next:=⟨_,rfl⟩
 rw [← hsb] at v5 ⊢
 refine zc ?_
 refine spo_loop hA hlow G n100 hg hx (fun h6 v6 => ?_) K 0 0 h5 (by omega) (by omega) rfl (v5.congr (fun y hy => (fr_zero L).symm))
 refine zc ?_
 have v6:=v6.congr (g:=fun j => fr (x j) 1) (fun y hy => by
  unfold sumB
  rw [← lK,List.take_length,G.sum y hy]
  have:=rq_cancel G.lead (show (1 : Int) ≠ 0 by decide) (a:=x y)
  rw [Int.mul_one] at this
  unfold fr;rw [this])
 refine fracs_ok hA (v6.ext.lowOK hlow) v6.rows (hx.ext v6.ext) (by omega) (fun h7 u7 => ⟨_,rfl,?_⟩)
 refine zc ?_
 exact hQ h7 (v6.ext.trans u7)
end Go.Proofs.Ytogliemiljhliaa
