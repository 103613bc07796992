import Derived.Test.YtogliemiljhliaaRdQ
set_option linter.unusedSimpArgs false
set_option linter.unusedVariables false
namespace Go.Proofs.Ytogliemiljhliaa
open Go.Sim
set_option linter.unusedVariables false
set_option maxRecDepth 100000
variable {F : Prims} {call head arith cmp scmp bnot bsame conv neg imax imin ofNat slen place inR nz geZ rd wr push next mkOK nat zeros sadd eqAgg cut slc sslc strAt part app cpy putAt fresh lowered bump wrote addN lt ne fpAll fpApp brk yn rng mget mput mnew bytes clr : _} (hA : AP F ⟨call,head,arith,cmp,scmp,bnot,bsame,conv,neg,imax,imin,ofNat,slen,place,inR,nz,geZ,rd,wr,push,next,mkOK,nat,zeros,sadd,eqAgg,cut,slc,sslc,strAt,part,app,cpy,putAt,fresh,lowered,bump,wrote,addN,lt,ne,fpAll,fpApp,brk,yn,rng,mget,mput,mnew,bytes,clr⟩)
include hA
theorem sub_loop {h0 hs : AHeap} (hlow : h0.low ≤ h0.next) {oa cp co m n k i : Nat} {bs : Nat → Nat} {f : Nat → Nat → Fc} {u v : Nat → Rat} {b : Rat} {bn bd : Int} (hk : k < m) (hi : i < m) (m100 : m ≤ 100) (n100 : n < 100) (hu : ∀ x,x ≤ n → isF (f k x).n (f k x).d (u x)) (hv : ∀ x,x ≤ n → isF (f i x).n (f i x).d (v x)) (hb : isF bn bd b) (h1 : ∀ x,x ≤ n → fits (b * u x)) (h2 : ∀ x,x ≤ n → fits (v x - b * u x)) (nik : i ≠ k) (b0 : bn ≠ 0) {C N K I : Int} (eN : N = n) (eK : K = k) (eI : I = i) {k0 k1 kb : List Value} {Q : Exit → SS → Prop}
  (hQ : ∀ h',MatW fC 2 cp h0 h' oa bs m (n + 1) (rowG f i (n + 1) (fun x => ofQ (v x - b * u x))) → Stays hs h' bs m → Q (.exit 8) ⟨[(0,.slice (some ⟨oa,0,none⟩) m co),(2,.pointer (some ⟨0,0,some 0⟩)),(3,.int .i64 N),(4,.pointer (some ⟨1,0,some 0⟩)),(5,.int .i64 K),(6,.int .i64 C),(10,.int .i64 I)],20,[(0,k0),(1,k1),(18,kb),(19,[.int .i64 bn,.int .i64 bd])],h'⟩) :
  ∀ (d j : Nat) (J : Int) (h : AHeap),n + 1 - j = d → j ≤ n + 1 → J = j → MatW fC 2 cp h0 h oa bs m (n + 1) (rowG f i j (fun x => ofQ (v x - b * u x))) → Stays hs h bs m →
   head 48 22 20 ⟨[(0,.slice (some ⟨oa,0,none⟩) m co),(2,.pointer (some ⟨0,0,some 0⟩)),(3,.int .i64 N),(4,.pointer (some ⟨1,0,some 0⟩)),(5,.int .i64 K),(6,.int .i64 C),(10,.int .i64 I),(11,.pointer (some ⟨19,0,some 0⟩)),(12,.int .i64 J)],20,[(0,k0),(1,k1),(18,kb),(19,[.int .i64 bn,.int .i64 bd])],h⟩ Q:=by
 intro d
 induction d with
 | zero =>
  intro j J h hd hj eJ t st
  obtain rfl : j = n + 1:=by omega
  refine hA.roundR Try.func48 r48_ok (zc ?_)
  refine br (J ≤ N) (by rw [e_leq hA]) (fun q => by omega) (fun _ => ?_) <;> refine zc ?_
  refine zq ?_
  exact hQ h t st
 | succ d ih =>
 intro j J h hd hj eJ t st
 obtain ⟨h9,hh9⟩ : ∃ z,z = bump h 15:=⟨_,rfl⟩
 have x9 : Ext h h9:=by rw [hh9];exact ext_bump hA _ _
 have t9:=t.more x9
 have l9:=t9.ext.lowOK hlow
 obtain ⟨xn,xd,hx⟩ : ∃ x y,f k j = ⟨x,y⟩:=⟨_,_,rfl⟩
 obtain ⟨y1,y2,hy⟩ : ∃ x y,f i j = ⟨x,y⟩:=⟨_,_,rfl⟩
 obtain ⟨rb,hrb⟩ : ∃ z,z = bs k:=⟨_,rfl⟩
 obtain ⟨sb,hsb⟩ : ∃ z,z = bs i:=⟨_,rfl⟩
 have z1 : rd h9 oa (place 0 K 1) 1 [.slice (some ⟨rb,0,none⟩) (n + 1) cp]:=rd_ok hA (by rw [eK,hrb];exact t9.head hk)
 have z2 : rd h9 rb (place 0 J 2) 2 [.int .i64 xn,.int .i64 xd]:=rd_ok hA (by
  have:=t9.el hk (x:=j) (by omega)
  rw [show rowG f i j (fun x => ofQ (v x - b * u x)) k j = ⟨xn,xd⟩ by unfold rowG;rw [if_neg (by omega),hx]] at this
  rw [eJ,hrb];exact this)
 have hx':=hu j (by omega)
 have hy':=hv j (by omega)
 rw [hx] at hx'
 rw [hy] at hy'
 refine hA.roundR Try.func48 r48_ok (zc ?_)
 refine br (J ≤ N) (by rw [e_leq hA]) (fun _ => ?_) (fun q => by omega) <;> refine zc ?_
 refine zq ?_
 refine br (I ≠ K) (by rw [e_neq hA]) (fun _ => ?_) (fun q => by omega) <;> refine zc ?_
 refine zq ?_
 refine br (bn ≠ 0) (by rw [e_neq hA]) (fun _ => ?_) (fun q => absurd b0 q) <;> refine zc ?_
 rw [← hh9]
 refine zq ?_
 refine rmul_ok hA (low_fresh hA h9) hb.i64n hb.i64d hx'.i64n hx'.i64d (fun a1 a2 e k2 hz ez => ⟨_,_,_,rfl,?_⟩)
 obtain ⟨kk,rfl⟩:=opIs_of hb hx' (h1 j (by omega)) k2
 obtain ⟨hX,hhX⟩ : ∃ z,z = lowered h9 hz:=⟨_,rfl⟩
 have eX : Ext h9 hX:=by rw [hhX];exact ext_low hA l9 (.refl h9) ez
 have tX:=t9.more eX
 obtain ⟨hB,hhB⟩ : ∃ z,z = bump hX 19:=⟨_,rfl⟩
 have xB : Ext hX hB:=by rw [hhB];exact ext_bump hA _ _
 have tB:=tX.more xB
 have lB:=tB.ext.lowOK hlow
 have z3 : rd hB oa (place 0 I 1) 1 [.slice (some ⟨sb,0,none⟩) (n + 1) cp]:=rd_ok hA (by rw [eI,hsb];exact tB.head hi)
 have z4 : rd hB sb (place 0 J 2) 2 [.int .i64 y1,.int .i64 y2]:=rd_ok hA (by
  have:=tB.el hi (x:=j) (by omega)
  rw [show rowG f i j (fun x => ofQ (v x - b * u x)) i j = ⟨y1,y2⟩ by unfold rowG;rw [if_neg (by omega),hy]] at this
  rw [eJ,hsb];exact this)
 refine zc ?_
 rw [← hhX]
 refine zq ?_
 rw [← hhB]
 refine zq ?_
 refine rsub_ok hA (low_fresh hA hB) hy'.i64n hy'.i64d kk.i64n kk.i64d (fun c1 c2 e2 k3 hz2 ez2 => ⟨_,_,_,rfl,?_⟩)
 obtain ⟨kk2,rfl⟩:=opIs_of hy' kk (h2 j (by omega)) k3
 obtain ⟨hY,hhY⟩ : ∃ z,z = lowered hB hz2:=⟨_,rfl⟩
 have eY : Ext hB hY:=by rw [hhY];exact ext_low hA lB (.refl hB) ez2
 have tY:=tB.more eY
 obtain ⟨g1,w1,t1,r1⟩:=tY.set hi (x:=j) (by omega) (⟨c1,c2⟩ : Fc)
 have w1 : wr hY sb (place 0 J 2) [.int .i64 c1,.int .i64 c2] g1:=wr_ok hA (by rw [eJ,hsb];exact w1)
 refine zc ?_
 rw [← hhY]
 refine zq ?_
 have lto:=tX.lto
 refine ⟨fp_old hA (wrote_no hA ez2) (by rw [e_addN hA,e_next hA];omega),?_⟩
 refine zc ?_
 rw [add64 hA (by omega) (by omega)]
 refine ih (j + 1) (J + 1) g1 (by omega) (by omega) (by omega) (t1.congr (fun y x hy hx' => ?_)) (((((st.ext x9).ext eX).ext xB).ext eY).wrote r1 hi)
 unfold upd rowG
 by_cases c : y = i ∧ x = j
 ·rw [if_pos c,if_pos ⟨c.1,by omega⟩,c.2,kk2.ofQ]
 ·rw [if_neg c]
  by_cases c2 : y = i ∧ x < j
  ·rw [if_pos c2,if_pos ⟨c2.1,by omega⟩]
  ·rw [if_neg c2,if_neg (fun q' => by
    by_cases e : x = j
    ·exact c ⟨q'.1,e⟩
    ·exact c2 ⟨q'.1,by omega⟩)]
def elimF (f : Nat → Nat → Fc) (u : Nat → Rat) (v : Nat → Nat → Rat) (k c : Nat) (i : Nat) : Nat → Nat → Fc:=fun y x => if y < i ∧ y ≠ k ∧ (f y c).n ≠ 0 then ofQ (v y x - v y c * u x) else f y x
theorem rows_elim {h0 hs : AHeap} (hlow : h0.low ≤ h0.next) {oa cp co m n k c : Nat} {bs : Nat → Nat} {f : Nat → Nat → Fc} {u : Nat → Rat} {v : Nat → Nat → Rat} (hk : k < m) (hc : c < n) (m100 : m ≤ 100) (n100 : n < 100) (hu : ∀ x,x ≤ n → isF (f k x).n (f k x).d (u x)) (hv : ∀ i x,i < m → x ≤ n → isF (f i x).n (f i x).d (v i x)) (h1 : ∀ i x,i < m → x ≤ n → fits (v i c * u x)) (h2 : ∀ i x,i < m → x ≤ n → fits (v i x - v i c * u x)) {C N K : Int} (eC : C = c) (eN : N = n) (eK : K = k) {k0 k1 kb : List Value} {Q : Exit → SS → Prop}
  (hQ : ∀ h',MatW fC 2 cp h0 h' oa bs m (n + 1) (elimF f u v k c m) → Stays hs h' bs m → Q (.exit 6) ⟨[(0,.slice (some ⟨oa,0,none⟩) m co),(2,.pointer (some ⟨0,0,some 0⟩)),(3,.int .i64 N),(4,.pointer (some ⟨1,0,some 0⟩)),(5,.int .i64 K),(6,.int .i64 C)],19,[(0,k0),(1,k1),(18,kb)],h'⟩) :
  ∀ (d i : Nat) (I : Int) (h : AHeap),m - i = d → i ≤ m → I = i → MatW fC 2 cp h0 h oa bs m (n + 1) (elimF f u v k c i) → Stays hs h bs m →
   head 48 18 19 ⟨[(0,.slice (some ⟨oa,0,none⟩) m co),(2,.pointer (some ⟨0,0,some 0⟩)),(3,.int .i64 N),(4,.pointer (some ⟨1,0,some 0⟩)),(5,.int .i64 K),(6,.int .i64 C),(10,.int .i64 I)],19,[(0,k0),(1,k1),(18,kb)],h⟩ Q:=by
 intro d
 induction d with
 | zero =>
  intro i I h hd hi eI t st
  obtain rfl : i = m:=by omega
  refine hA.roundR Try.func48 r48_ok (zc ?_)
  refine br (I < (i : Int)) (by rw [e_lss hA,e_ofNat hA]) (fun q => by omega) (fun _ => ?_) <;> refine zc ?_
  exact hQ h t st
 | succ d ih =>
 intro i I h hd hi eI t st
 obtain ⟨sb,hsb⟩ : ∃ z,z = bs i:=⟨_,rfl⟩
 obtain ⟨bn,bd,hb⟩ : ∃ x y,f i c = ⟨x,y⟩:=⟨_,_,rfl⟩
 have fi : ∀ x,elimF f u v k c i i x = f i x:=fun x => by unfold elimF;rw [if_neg (fun q => by omega)]
 have z1 : rd h oa (place 0 I 1) 1 [.slice (some ⟨sb,0,none⟩) (n + 1) cp]:=rd_ok hA (by rw [eI,hsb];exact t.head (by omega))
 have z2 : rd h sb (place 0 C 2) 2 [.int .i64 bn,.int .i64 bd]:=rd_ok hA (by
  have:=t.el (y:=i) (x:=c) (by omega) (by omega)
  rw [fi,hb] at this
  rw [eC,hsb];exact this)
 refine hA.roundR Try.func48 r48_ok (zc ?_)
 refine br (I < (m : Int)) (by rw [e_lss hA,e_ofNat hA]) (fun _ => ?_) (fun q => by omega) <;> refine zc ?_
 refine zq ?_
 have fk : ∀ x,elimF f u v k c i k x = f k x:=fun x => by unfold elimF;rw [if_neg (fun q => q.2.1 rfl)]
 have same : (i = k ∨ bn = 0) → MatW fC 2 cp h0 h oa bs m (n + 1) (elimF f u v k c (i + 1)):=fun q => t.congr (fun y x hy hx => by
  unfold elimF
  by_cases c1 : y < i ∧ y ≠ k ∧ (f y c).n ≠ 0
  ·rw [if_pos c1,if_pos ⟨by omega,c1.2⟩]
  ·rw [if_neg c1,if_neg (fun q' => by
    by_cases e : y = i
    ·subst e
     rcases q with q | q
     ·exact q'.2.1 q
     ·rw [hb] at q';exact q'.2.2 q
    ·exact c1 ⟨by omega,q'.2⟩)])
 by_cases cik : i = k
 ·refine hA.roundR Try.func48 r48_ok (zc ?_)
  refine br (0 ≤ N) (by rw [e_leq hA]) (fun _ => ?_) (fun q => by omega) <;> refine zc ?_
  refine zq ?_
  refine br (I ≠ K) (by rw [e_neq hA]) (fun q => by omega) (fun _ => ?_) <;> refine zc ?_
  refine zq ?_
  rw [add64 hA (by omega) (by omega)]
  exact ih (i + 1) (I + 1) h (by omega) (by omega) (by omega) (same (.inl cik)) st
 by_cases cb0 : bn = 0
 ·refine hA.roundR Try.func48 r48_ok (zc ?_)
  refine br (0 ≤ N) (by rw [e_leq hA]) (fun _ => ?_) (fun q => by omega) <;> refine zc ?_
  refine zq ?_
  refine br (I ≠ K) (by rw [e_neq hA]) (fun _ => ?_) (fun q => by omega) <;> refine zc ?_
  refine zq ?_
  refine br (bn ≠ 0) (by rw [e_neq hA]) (fun q => absurd cb0 q) (fun _ => ?_) <;> refine zc ?_
  refine zq ?_
  rw [add64 hA (by omega) (by omega)]
  exact ih (i + 1) (I + 1) h (by omega) (by omega) (by omega) (same (.inr cb0)) st
 have hbF:=hv i c (by omega) (by omega)
 rw [hb] at hbF
 refine sub_loop hA hlow (f:=elimF f u v k c i) (u:=u) (v:=v i) (b:=v i c) hk (i:=i) (by omega) m100 n100 (fun x hx => by rw [fk];exact hu x hx) (fun x hx => by rw [fi];exact hv i x (by omega) hx) hbF (fun x hx => h1 i x (by omega) hx) (fun x hx => h2 i x (by omega) hx) cik cb0 eN eK eI (fun h2' M2 st2 => ?_) (n + 1) 0 0 h (by omega) (by omega) rfl (t.congr (fun y x hy hx => by unfold rowG;rw [if_neg (by omega)])) st
 refine zc ?_
 rw [add64 hA (by omega) (by omega)]
 refine ih (i + 1) (I + 1) h2' (by omega) (by omega) (by omega) (M2.congr (fun y x hy hx => ?_)) st2
 unfold rowG
 by_cases e : y = i
 ·subst e
  rw [if_pos ⟨rfl,hx⟩]
  unfold elimF
  rw [if_pos ⟨by omega,cik,by rw [hb];exact cb0⟩]
 ·rw [if_neg (fun q => e q.1)]
  unfold elimF
  by_cases c1 : y < i ∧ y ≠ k ∧ (f y c).n ≠ 0
  ·rw [if_pos c1,if_pos ⟨by omega,c1.2⟩]
  ·rw [if_neg c1,if_neg (fun q' => c1 ⟨by omega,q'.2⟩)]
end Go.Proofs.Ytogliemiljhliaa
namespace Go.Proofs.Ytogliemiljhliaa
open Go.Sim
set_option linter.unusedVariables false
set_option maxRecDepth 100000
def frM (S : St) : Nat → Nat → Fc:=fun y x => fr (S.R y x) S.lead
theorem cast_ne0 {d : Int} (h : d ≠ 0) : (d : Rat) ≠ 0:=fun w => h (Rat.intCast_eq_zero_iff.1 w)
theorem rq_mul {a b c d : Int} (hb : b ≠ 0) (hd : d ≠ 0) : rq a b * rq c d = rq (a * c) (b * d):=by
 have h1:=cast_ne0 hb
 have h2:=cast_ne0 hd
 unfold rq
 rw [Rat.intCast_mul,Rat.intCast_mul]
 grind
theorem rq_over {a b c : Int} (hb : b ≠ 0) (hc : c ≠ 0) : rq a b / rq c b = rq a c:=by
 have h1:=cast_ne0 hb
 have h2:=cast_ne0 hc
 unfold rq
 grind
theorem rq_less {x y z b p : Int} (hb : b ≠ 0) (hp : p ≠ 0) : rq x b - rq y b * rq z p = rq (p * x - y * z) (b * p):=by
 have h1:=cast_ne0 hb
 have h2:=cast_ne0 hp
 unfold rq
 rw [Rat.intCast_sub,Rat.intCast_mul,Rat.intCast_mul,Rat.intCast_mul]
 grind
theorem rq_cancel {l a b : Int} (hl : l ≠ 0) (hb : b ≠ 0) : rq (l * a) (l * b) = rq a b:=by
 have h1:=cast_ne0 hl
 have h2:=cast_ne0 hb
 unfold rq
 rw [Rat.intCast_mul,Rat.intCast_mul]
 grind
theorem ofQ_rq (a b : Int) : ofQ (rq a b) = fr a b:=rfl
def vRow (R : Nat → Nat → Int) (lead p : Int) (k : Nat) : Nat → Nat → Rat:=fun i x => if i = k then rq (R k x) p else rq (R i x) lead
def divF (R : Nat → Nat → Int) (lead p : Int) (k : Nat) : Nat → Nat → Fc:=fun i x => if i = k then fr (R k x) p else fr (R i x) lead
theorem step_vals {R : Nat → Nat → Int} {lead p : Int} {m n k c : Nat} (hl : lead ≠ 0) (hp : p ≠ 0) (ep : p = R k c) (hk : k < m) (hc : c ≤ n) (lb : lead.natAbs ≤ 1000000000) (hR : ∀ i x,i < m → x ≤ n → (R i x).natAbs ≤ 1000000000) (hQ : ∀ i x,i < m → x ≤ n → (clrF R k c lead i x).natAbs ≤ 1000000000) (ex : ∀ i x,i < m → x ≤ n → i ≠ k → p * R i x - R i c * R k x = lead * clrF R k c lead i x) :
  (∀ i x,i < m → x ≤ n → isF (divF R lead p k i x).n (divF R lead p k i x).d (vRow R lead p k i x)) ∧ (∀ i x,i < m → x ≤ n → fits (vRow R lead p k i c * rq (R k x) p)) ∧ (∀ i x,i < m → x ≤ n → fits (vRow R lead p k i x - vRow R lead p k i c * rq (R k x) p)) ∧ ∀ i x,i < m → x ≤ n → elimF (divF R lead p k) (fun x => rq (R k x) p) (vRow R lead p k) k c m i x = fr (clrF R k c lead i x) p:=by
 have pb : p.natAbs ≤ 1000000000:=by rw [ep];exact hR k c hk hc
 have mul9 : ∀ a b : Int,a.natAbs ≤ 1000000000 → b.natAbs ≤ 1000000000 → (a * b).natAbs ≤ 1000000000000000000:=fun a b ha hb => by rw [Int.natAbs_mul];exact Nat.mul_le_mul ha hb
 have key : ∀ i x,i < m → x ≤ n → i ≠ k → vRow R lead p k i x - vRow R lead p k i c * rq (R k x) p = rq (clrF R k c lead i x) p:=fun i x hi hx hne => by
  unfold vRow
  rw [if_neg hne,if_neg hne,rq_less hl hp,ex i x hi hx hne,rq_cancel hl hp]
 refine ⟨fun i x hi hx => ?_,fun i x hi hx => ?_,fun i x hi hx => ?_,fun i x hi hx => ?_⟩
 ·unfold divF vRow
  by_cases e : i = k
  ·rw [if_pos e,if_pos e];exact fr_is (by have:=hR k x hk hx;omega) (by omega) hp
  ·rw [if_neg e,if_neg e];exact fr_is (by have:=hR i x hi hx;omega) (by omega) hl
 ·unfold vRow
  by_cases e : i = k
  ·rw [if_pos e,rq_mul hp hp]
   exact fits_rq (mul9 _ _ (hR k c hk hc) (hR k x hk hx)) (mul9 _ _ pb pb) (Int.mul_ne_zero hp hp)
  ·rw [if_neg e,rq_mul hl hp]
   exact fits_rq (mul9 _ _ (hR i c hi hc) (hR k x hk hx)) (mul9 _ _ lb pb) (Int.mul_ne_zero hl hp)
 ·by_cases e : i = k
  ·unfold vRow
   rw [if_pos e,if_pos e,rq_less hp hp,← ep,Int.sub_self]
   exact fits_rq (by decide) (mul9 _ _ pb pb) (Int.mul_ne_zero hp hp)
  ·rw [key i x hi hx e]
   exact fits_rq (by have:=hQ i x hi hx;omega) (by omega) hp
 ·unfold elimF
  by_cases c1 : i < m ∧ i ≠ k ∧ (divF R lead p k i c).n ≠ 0
  ·rw [if_pos c1,key i x hi hx c1.2.1,ofQ_rq]
  ·rw [if_neg c1]
   by_cases e : i = k
   ·unfold divF clrF
    rw [if_pos e,if_pos e,e]
   ·have z : R i c = 0:=by
     have : ¬ (divF R lead p k i c).n ≠ 0:=fun q => c1 ⟨hi,e,q⟩
     have : (divF R lead p k i c).n = 0:=Decidable.of_not_not this
     unfold divF at this
     rw [if_neg e] at this
     exact (fr_num hl).1 this
    have h:=ex i x hi hx e
    rw [z,Int.zero_mul,Int.sub_zero] at h
    have : divF R lead p k i x = fr (R i x) lead:=by unfold divF;rw [if_neg e]
    rw [this]
    unfold fr
    rw [← rq_cancel hl hp (a:=clrF R k c lead i x),← h,Int.mul_comm lead p,rq_cancel hp hl]
variable {F : Prims} {call head arith cmp scmp bnot bsame conv neg imax imin ofNat slen place inR nz geZ rd wr push next mkOK nat zeros sadd eqAgg cut slc sslc strAt part app cpy putAt fresh lowered bump wrote addN lt ne fpAll fpApp brk yn rng mget mput mnew bytes clr : _} (hA : AP F ⟨call,head,arith,cmp,scmp,bnot,bsame,conv,neg,imax,imin,ofNat,slen,place,inR,nz,geZ,rd,wr,push,next,mkOK,nat,zeros,sadd,eqAgg,cut,slc,sslc,strAt,part,app,cpy,putAt,fresh,lowered,bump,wrote,addN,lt,ne,fpAll,fpApp,brk,yn,rng,mget,mput,mnew,bytes,clr⟩)
include hA
end Go.Proofs.Ytogliemiljhliaa
