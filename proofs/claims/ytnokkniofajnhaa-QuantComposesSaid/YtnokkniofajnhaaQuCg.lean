import Derived.Test.YtnokkniofajnhaaQuPw
set_option linter.unusedSimpArgs false
set_option linter.unusedVariables false
namespace Go.Proofs.Ytnokkniofajnhaa
open Go.Sim
set_option maxRecDepth 100000
def goodLag (s n : Int) : Prop:=0 ≤ n ∧ n ≤ 256 ∧ -9 * n ≤ s ∧ s ≤ 9 * n ∧ (s - n) % 2 = 0
def CorIs (l : List Kr) (s k pn pd u v e : Int) : Prop:=
 (¬ GoodL l ∧ CheckIs l e ∧ u = 0 ∧ v = 0) ∨ (GoodL l ∧ ¬ goodLag s k ∧ u = 0 ∧ v = 0 ∧ e = 2) ∨ (GoodL l ∧ goodLag s k ∧ ¬ (okF pn pd ∧ 1 ≤ pn) ∧ u = 0 ∧ v = 0 ∧ e = 8) ∨
 (GoodL l ∧ goodLag s k ∧ (okF pn pd ∧ 1 ≤ pn) ∧ k = 0 ∧ u = 0 ∧ v = 0 ∧ e = 18) ∨
 (GoodL l ∧ goodLag s k ∧ (okF pn pd ∧ 1 ≤ pn) ∧ k ≠ 0 ∧ ∃ p,isF pn pd p ∧ ∃ u1 u2 e5,outF ((s : Rat) / (k : Rat) / p) u1 u2 e5 ∧ ((e5 ≠ 0 ∧ u = 0 ∧ v = 0 ∧ e = e5) ∨ (e5 = 0 ∧ ValIs l u1 u2 u v e)))
theorem CorIs.uniq {l : List Kr} {s k pn pd u v e u' v' e' : Int} (h : CorIs l s k pn pd u v e) (w : CorIs l s k pn pd u' v' e') : u = u' ∧ v = v' ∧ e = e':=by
 rcases h with ⟨a,b,c,d⟩ | ⟨a,b,c,d,f⟩ | ⟨a,b,c,d,f,g⟩ | ⟨a,b,c,d,f,g,i⟩ | ⟨a,b,c,d,p,hp,u1,u2,e5,ho,hh⟩ <;> rcases w with ⟨a',b',c',d'⟩ | ⟨a',b',c',d',f'⟩ | ⟨a',b',c',d',f',g'⟩ | ⟨a',b',c',d',f',g',i'⟩ | ⟨a',b',c',d',p',hp',u1',u2',e5',ho',hh'⟩
 ·exact ⟨by omega,by omega,b.uniq b'⟩
 ·exact absurd a' a
 ·exact absurd a' a
 ·exact absurd a' a
 ·exact absurd a' a
 ·exact absurd a a'
 ·exact ⟨by omega,by omega,by omega⟩
 ·exact absurd b' b
 ·exact absurd b' b
 ·exact absurd b' b
 ·exact absurd a a'
 ·exact absurd b b'
 ·exact ⟨by omega,by omega,by omega⟩
 ·exact absurd c' c
 ·exact absurd c' c
 ·exact absurd a a'
 ·exact absurd b b'
 ·exact absurd c c'
 ·exact ⟨by omega,by omega,by omega⟩
 ·exact absurd d d'
 ·exact absurd a a'
 ·exact absurd b b'
 ·exact absurd c c'
 ·exact absurd d' d
 ·obtain rfl:=hp.uniq hp'
  obtain ⟨rfl,rfl,rfl⟩:=ho.uniq ho'
  rcases hh with ⟨q,r1,r2,r3⟩ | ⟨q,r⟩ <;> rcases hh' with ⟨q',r1',r2',r3'⟩ | ⟨q',r'⟩
  ·exact ⟨by omega,by omega,by omega⟩
  ·exact absurd q' q
  ·exact absurd q q'
  ·exact r.uniq r'
theorem lag_fits {s k : Int} (g : goodLag s k) (k0 : k ≠ 0) : fits ((s : Rat) / (k : Rat)):=by
 obtain ⟨h1,h2,h3,h4,_⟩:=g
 have a : bnd (s : Rat) 2304 1:=⟨by rw [Rat.num_intCast];omega,by rw [Rat.den_intCast];omega⟩
 have b : bnd (k : Rat) 256 1:=⟨by rw [Rat.num_intCast];omega,by rw [Rat.den_intCast];omega⟩
 exact (a.div b (by omega)).fits (by omega) (by omega)
variable {F : Prims} {call a0 arith b0 c0 d0 e0 f0 g0 h0 i0 ofNat j0 place l0 nz m0 rd wr push next n0 o0 p0 q0 r0 t0 u0 v0 w0 x0 y0 z0 a1 b1 c1 bump d1 f1 lt ne g1 i1 j1 yn n1 o1 t1 v1 y1 a2 : _} (hA : AP F ⟨call,a0,arith,b0,c0,d0,e0,f0,g0,h0,i0,ofNat,j0,place,l0,nz,m0,rd,wr,push,next,n0,o0,p0,q0,r0,t0,u0,v0,w0,x0,y0,z0,a1,b1,c1,bump,d1,f1,lt,ne,g1,i1,j1,yn,n1,o1,t1,v1,y1,a2⟩)
include hA
theorem lag_gen {h : AHeap} (hlow : h.low ≤ h.next) {b c : Nat} {s n : Int} (is : i64 s) (i_n : i64 n) (ho : Own h b 2 [.int .i64 s,.int .i64 n]) {Q : Value → AHeap → Prop}
  (hQ : ∀ e : Int,(e = 0 ↔ goodLag s n) → Q (.int .i64 e) h) : call 42 [.slice (some ⟨b,0,none⟩) 1 c] h Q:=by
 have bad : ¬ goodLag s n → Q (.int .i64 8) h:=fun w => hQ 8 ⟨fun q => by omega,fun q => absurd q w⟩
 refine hA.bodyR Try.func42 r42_ok (hA.alike _ _ _ rfl) hlow (zc ?_)
 have e1 : ofNat 1 = 1:=e_ofNat hA 1
 have e2 : arith .rem .i64 1 2 = 1:=by rw [rem64 hA (by omega)];rfl
 rw [e1]
 refine br False (by rw [e_gtr hA];rfl) (fun q => q.elim) (fun _ => ?_) <;> refine zc ?_
 rw [e1]
 refine zq ?_
 rw [e2]
 refine br False (by rw [e_eql hA];rfl) (fun q => q.elim) (fun _ => ?_) <;> refine zc ?_
 rw [e1]
 refine hA.roundR Try.func42 r42_ok (zc ?_)
 refine br True (by rw [e_lss hA];rfl) (fun _ => ?_) (fun q => absurd trivial q) <;> refine zc ?_
 have r1 : rd h b (place 0 0 2) 2 [.int .i64 s,.int .i64 n]:=by rw [e_rd hA,e_place hA];exact ho.readG (o:=0) (n:=2) (by simp)
 refine zq ?_
 refine br (n < 0) (by rw [e_lss hA]) (fun q => bad (fun g => by have:=g.1;omega)) (fun _ => ?_) <;> refine zc ?_
 refine br (256 < n) (by rw [e_gtr hA]) (fun q => bad (fun g => by have:=g.2.1;omega)) (fun _ => ?_) <;> refine zc ?_
 have e3 : arith .mul .i64 (-9) n = -9 * n:=mul64 hA (by omega) (by omega)
 have e4 : arith .mul .i64 9 n = 9 * n:=mul64 hA (by omega) (by omega)
 rw [e3]
 refine br (s < -9 * n) (by rw [e_lss hA]) (fun q => bad (fun g => by have:=g.2.2.1;omega)) (fun _ => ?_) <;> refine zc ?_
 rw [e4]
 refine br (9 * n < s) (by rw [e_gtr hA]) (fun q => bad (fun g => by have:=g.2.2.2.1;omega)) (fun _ => ?_) <;> refine zc ?_
 obtain ⟨sn,hsn⟩ : ∃ z,z = s - n:=⟨_,rfl⟩
 have e5 : arith .sub .i64 s n = sn:=by rw [hsn];exact sub64 hA (by omega) (by omega)
 have e6 : arith .rem .i64 sn 2 = Int.tmod sn 2:=e_rem hA _ _ _
 have e7 : Int.tmod sn 2 = 0 ↔ sn % 2 = 0:=by
  constructor
  ·intro q;exact Int.emod_eq_zero_of_dvd (Int.dvd_of_tmod_eq_zero q)
  ·intro q;exact Int.tmod_eq_zero_of_dvd (Int.dvd_of_emod_eq_zero q)
 obtain ⟨tm,htm⟩ : ∃ z,z = Int.tmod sn 2:=⟨_,rfl⟩
 rw [← htm] at e6 e7
 rw [e5]
 refine zq ?_
 rw [e6]
 refine br (tm ≠ 0) (by rw [e_neq hA]) (fun q => bad (fun g => q (e7.2 (by rw [hsn];exact g.2.2.2.2)))) (fun q => ?_) <;> refine zc ?_
 rw [show arith .add .i64 0 1 = 1 by rw [add64 hA (by omega) (by omega)];rfl]
 refine hA.roundR Try.func42 r42_ok (zc ?_)
 refine br False (by rw [e_lss hA];rfl) (fun q => q.elim) (fun _ => ?_) <;> refine zc ?_
 exact hQ 0 ⟨fun _ => ⟨by omega,by omega,by omega,by omega,by rw [← hsn];exact e7.1 (by omega)⟩,fun _ => rfl⟩
theorem even_ok {h : AHeap} (hlow : h.low ≤ h.next) {n : Int} {Q : Value → AHeap → Prop} (hQ : ∀ r : Bool,(r = true ↔ n % 2 = 0) → Q (.bool r) h) : call 65 [.int .i64 n] h Q:=by
 have e7 : Int.tmod n 2 = 0 ↔ n % 2 = 0:=by
  constructor
  ·intro q;exact Int.emod_eq_zero_of_dvd (Int.dvd_of_tmod_eq_zero q)
  ·intro q;exact Int.tmod_eq_zero_of_dvd (Int.dvd_of_emod_eq_zero q)
 refine hA.bodyR Try.func65 r65_ok (hA.alike _ _ _ rfl) hlow (zc ?_)
 refine zq ?_
 refine hQ _ ?_
 rw [e_rem hA,e_eql hA,decide_eq_true_iff]
 exact e7
theorem rlag_gen {h : AHeap} (hlow : h.low ≤ h.next) {b c : Nat} {s n : Int} (is : i64 s) (i_n : i64 n) (ho : Own h b 2 [.int .i64 s,.int .i64 n]) (hb : b < h.next) {Q : Value → AHeap → Prop}
  (hQ : ∀ (e : Int) h',(e = 0 ↔ goodLag s n) → Ext h h' → Q (.int .i64 e) h') : call 44 [.slice (some ⟨b,0,none⟩) 1 c] h Q:=by
 have bad : ¬ goodLag s n → ∀ h',Ext h h' → Q (.int .i64 8) h':=fun w h' x => hQ 8 h' ⟨fun q => by omega,fun q => absurd q w⟩ x
 refine hA.bodyR Try.func44 r44_ok (hA.alike _ _ _ rfl) hlow (zc ?_)
 have e1 : ofNat 1 = 1:=e_ofNat hA 1
 rw [e1]
 refine br False (by rw [e_gtr hA];rfl) (fun q => q.elim) (fun _ => ?_) <;> refine zc ?_
 rw [e1]
 refine even_ok hA hlow (fun r hr => ⟨_,rfl,?_⟩)
 obtain rfl : r = false:=by
  cases r with
  | false => rfl
  | true => have:=hr.1 rfl;omega
 refine zc ?_
 refine hA.roundR Try.func44 r44_ok (zc ?_)
 rw [e1]
 refine br True (by rw [e_lss hA];rfl) (fun _ => ?_) (fun q => absurd trivial q) <;> refine zc ?_
 have r1 : rd h b (place 0 0 2) 2 [.int .i64 s,.int .i64 n]:=by rw [e_rd hA,e_place hA];exact ho.readG (o:=0) (n:=2) (by simp)
 refine zq ?_
 obtain ⟨h9,hh9⟩ : ∃ z,z = bump h 33:=⟨_,rfl⟩
 have x9 : Ext h h9:=by rw [hh9];exact ext_bump hA _ _
 have l9:=x9.lowOK hlow
 rw [← hh9]
 refine br (n < 0) (by rw [e_lss hA]) (fun q => ?_) (fun _ => ?_) <;> refine zc ?_
 ·refine zc ?_
  exact bad (fun g => by have:=g.1;omega) h9 x9
 refine br (256 < n) (by rw [e_gtr hA]) (fun q => ?_) (fun _ => ?_) <;> refine zc ?_
 ·refine zc ?_
  exact bad (fun g => by have:=g.2.1;omega) h9 x9
 have e3 : arith .mul .i64 (-9) n = -9 * n:=mul64 hA (by omega) (by omega)
 have e4 : arith .mul .i64 9 n = 9 * n:=mul64 hA (by omega) (by omega)
 rw [e3]
 refine br (s < -9 * n) (by rw [e_lss hA]) (fun q => ?_) (fun _ => ?_) <;> refine zc ?_
 ·refine zc ?_
  exact bad (fun g => by have:=g.2.2.1;omega) h9 x9
 rw [e4]
 refine br (9 * n < s) (by rw [e_gtr hA]) (fun q => ?_) (fun _ => ?_) <;> refine zc ?_
 ·refine zc ?_
  exact bad (fun g => by have:=g.2.2.2.1;omega) h9 x9
 refine even_ok hA (low_fresh hA h9) (fun r1 hr1 => ⟨_,rfl,?_⟩)
 refine zc ?_
 rw [low_same hA l9]
 refine even_ok hA (low_fresh hA h9) (fun r2 hr2 => ⟨_,rfl,?_⟩)
 refine zc ?_
 rw [low_same hA l9]
 refine br (r1 ≠ r2) (by rw [e_bnot hA,e_bsame hA];cases r1 <;> cases r2 <;> rfl) (fun q => ?_) (fun q => ?_) <;> refine zc ?_
 ·refine zc ?_
  exact bad (fun g => q (by
   have g5:=g.2.2.2.2
   have w : (s % 2 = 0) ↔ (n % 2 = 0):=by omega
   have : r1 = true ↔ r2 = true:=by rw [hr1,hr2];exact w
   cases r1 <;> cases r2 <;> simp at this ⊢)) h9 x9
 refine zc ?_
 rw [show arith .add .i64 0 1 = 1 by rw [add64 hA (by omega) (by omega)];rfl]
 refine hA.roundR Try.func44 r44_ok (zc ?_)
 rw [e1]
 refine br False (by rw [e_lss hA];rfl) (fun q => q.elim) (fun _ => ?_) <;> refine zc ?_
 have e : r1 = r2:=Classical.not_not.1 q
 exact hQ 0 h9 ⟨fun _ => ⟨by omega,by omega,by omega,by omega,by
  have : (s % 2 = 0) ↔ (n % 2 = 0):=by rw [← hr1,← hr2,e]
  omega⟩,fun _ => rfl⟩ x9
theorem correct_gen {h : AHeap} (hlow : h.low ≤ h.next) {a : Option Addr} {n c : Nat} {l : List Kr} (hl : Ks h a n l) (hi : allI64 l) {s k pn pd : Int} (is : i64 s) (ik : i64 k) (ipn : i64 pn) (ipd : i64 pd) {Q : Value → AHeap → Prop}
  (hQ : ∀ u v e h',CorIs l s k pn pd u v e → Ext h h' → Q (.tuple #[.agg #[.int .i64 u,.int .i64 v],.int .i64 e]) h') : call 21 [.slice a n c,.agg #[.int .i64 s,.int .i64 k],.agg #[.int .i64 pn,.int .i64 pd]] h Q:=by
 refine hA.bodyR Try.func21 r21_ok (hA.alike _ _ _ rfl) hlow (zc ?_)
 refine qcheck_ok hA hlow hl hi (fun e1 h1 k1 x1 => ⟨_,rfl,?_⟩)
 have l1:=x1.lowOK hlow
 refine zc ?_
 refine br (e1 ≠ 0) (by rw [e_neq hA]) (fun z1 => ?_) (fun z1 => ?_) <;> refine zc ?_
 ·refine zc ?_
  exact hQ 0 0 e1 h1 (.inl ⟨fun g => z1 (k1.good.2 g),k1,rfl,rfl⟩) x1
 obtain rfl : e1 = 0:=by omega
 have g:=k1.good.1 rfl
 refine zc ?_
 rw [e_next hA,e_push hA]
 have e2 : Ext h1 (h1.push 2 [Value.int .i64 s,Value.int .i64 k]):=.push _ _ _
 have o2 : Own (h1.push 2 [Value.int .i64 s,Value.int .i64 k]) h1.next 2 [Value.int .i64 s,Value.int .i64 k]:=Own.push _ _ _
 have lb : h1.next < (h1.push 2 [Value.int .i64 s,Value.int .i64 k]).next:=by simp [AHeap.push]
 generalize h1.push 2 [Value.int .i64 s,Value.int .i64 k] = h2 at *
 obtain ⟨bb,hbb⟩ : ∃ z,z = h1.next:=⟨_,rfl⟩
 rw [← hbb] at o2 lb ⊢
 have y2':=x1.trans e2
 have l2':=y2'.lowOK hlow
 refine lag_gen hA l2' is ik o2 (fun ee ke => ⟨_,rfl,?_⟩)
 have y2:=y2'
 have l2:=l2'
 refine zc ?_
 refine br (ee ≠ 0) (by rw [e_neq hA]) (fun z2 => ?_) (fun z2 => ?_) <;> refine zc ?_
 ·refine zc ?_
  exact hQ 0 0 2 h2 (.inr (.inl ⟨g,fun q => z2 (ke.2 q),rfl,rfl,rfl⟩)) y2
 have gl:=ke.1 (by omega)
 obtain ⟨k0,k1',s0,s1,hpar⟩:=id gl
 refine check_ok hA l2 ipn ipd (fun e3 h3 k3 x3 => ⟨_,rfl,?_⟩)
 have y3:=y2.trans x3
 have l3:=y3.lowOK hlow
 have bad8 : ¬ (okF pn pd ∧ 1 ≤ pn) → Q (.tuple #[.agg #[.int .i64 0,.int .i64 0],.int .i64 8]) h3:=fun w => hQ 0 0 8 h3 (.inr (.inr (.inl ⟨g,gl,w,rfl,rfl,rfl⟩))) y3
 refine zc ?_
 refine br (e3 ≠ 0) (by rw [e_neq hA]) (fun z3 => ?_) (fun z3 => ?_) <;> refine zc ?_
 ·refine zc ?_
  exact bad8 (fun w => by
   rcases k3 with ⟨q,_⟩ | ⟨_,q⟩
   ·exact z3 q
   ·exact q w.1)
 have okp : okF pn pd:=by
  rcases k3 with ⟨_,q⟩ | ⟨q,_⟩
  ·exact q
  ·omega
 refine br (pn ≤ 0) (by rw [e_leq hA]) (fun q => ?_) (fun z4 => ?_) <;> refine zc ?_
 ·refine zc ?_
  exact bad8 (fun w => by have:=w.2;omega)
 have okp1 : okF pn pd ∧ 1 ≤ pn:=⟨okp,by omega⟩
 obtain ⟨p,hp⟩:=okp
 refine br (k = 0) (by rw [e_eql hA]) (fun q => ?_) (fun z5 => ?_) <;> refine zc ?_
 ·refine zc ?_
  exact hQ 0 0 18 h3 (.inr (.inr (.inr (.inl ⟨g,gl,okp1,q,rfl,rfl,rfl⟩)))) y3
 refine make_ok hA l3 is ik (fun m1 m2 e4 k4 h4 x4 => ⟨_,_,_,rfl,?_⟩)
 have y4:=y3.trans x4
 have l4:=y4.lowOK hlow
 obtain ⟨hm1,rfl⟩ : isF m1 m2 ((s : Rat) / (k : Rat)) ∧ e4 = 0:=by
  rcases k4 with ⟨q,_⟩ | ⟨_,k4⟩
  ·omega
  ·rcases k4 with ⟨q,r1,r2,r3⟩ | ⟨q,_⟩
   ·exact ⟨⟨r1,r2,q⟩,r3⟩
   ·exact absurd (lag_fits gl z5) q
 refine zc ?_
 refine br False (by rw [e_neq hA];rfl) (fun q => q.elim) (fun _ => ?_) <;> refine zc ?_
 refine div_ok hA l4 hm1.i64n hm1.i64d hp.i64n hp.i64d (fun u1 u2 e5 k5 h5 x5 => ⟨_,_,_,rfl,?_⟩)
 have y5:=y4.trans x5
 have l5:=y5.lowOK hlow
 have ho : outF ((s : Rat) / (k : Rat) / p) u1 u2 e5:=by
  rcases k5 with ⟨w,_⟩ | ⟨_,_,w,_⟩ | ⟨p1,q1,w1,w2,_,w3⟩
  ·exact absurd ⟨⟨_,hm1⟩,⟨_,hp⟩⟩ w
  ·omega
  ·rwa [w1.uniq hm1,w2.uniq hp] at w3
 have fin : ∀ u v e h',((e5 ≠ 0 ∧ u = 0 ∧ v = 0 ∧ e = e5) ∨ (e5 = 0 ∧ ValIs l u1 u2 u v e)) → Ext h h' → Q (.tuple #[.agg #[.int .i64 u,.int .i64 v],.int .i64 e]) h':=fun u v e h' w x' => hQ u v e h' (.inr (.inr (.inr (.inr ⟨g,gl,okp1,z5,p,hp,u1,u2,e5,ho,w⟩)))) x'
 refine zc ?_
 refine br (e5 ≠ 0) (by rw [e_neq hA]) (fun q => ?_) (fun z6 => ?_) <;> refine zc ?_
 ·refine zc ?_
  exact fin 0 0 e5 h5 (.inl ⟨q,rfl,rfl,rfl⟩) y5
 obtain rfl : e5 = 0:=by omega
 have iu : i64 u1 ∧ i64 u2:=by
  rcases ho with ⟨w,r1,r2,_⟩ | ⟨_,r1,r2,_⟩
  ·have:=(show isF u1 u2 _ from ⟨r1,r2,w⟩);exact ⟨this.i64n,this.i64d⟩
  ·rw [r1,r2];unfold i64;omega
 refine value_ok hA l5 (hl.ext y5) hi iu.1 iu.2 (fun u v e6 h6 k6 x6 => ⟨_,_,_,rfl,?_⟩)
 refine zc ?_
 exact fin u v e6 h6 (.inr ⟨rfl,k6⟩) (y5.trans x6)
theorem rcorrect_gen {h : AHeap} (hlow : h.low ≤ h.next) {a : Option Addr} {n c : Nat} {l : List Kr} (hl : Ks h a n l) (hi : allI64 l) {s k pn pd : Int} (is : i64 s) (ik : i64 k) (ipn : i64 pn) (ipd : i64 pd) {Q : Value → AHeap → Prop}
  (hQ : ∀ u v e h',CorIs l s k pn pd u v e → Ext h h' → Q (.tuple #[.agg #[.int .i64 u,.int .i64 v],.int .i64 e]) h') : call 22 [.slice a n c,.agg #[.int .i64 s,.int .i64 k],.agg #[.int .i64 pn,.int .i64 pd]] h Q:=by
 refine hA.bodyR Try.func22 r22_ok (hA.alike _ _ _ rfl) hlow (zc ?_)
 refine rqcheck_ok hA hlow hl hi (fun e1 h1 k1 x1 => ⟨_,rfl,?_⟩)
 have l1:=x1.lowOK hlow
 refine zc ?_
 refine br (e1 ≠ 0) (by rw [e_neq hA]) (fun z1 => ?_) (fun z1 => ?_) <;> refine zc ?_
 ·refine rqcheck_ok hA l1 (hl.ext x1) hi (fun e2 h2 k2 x2 => ⟨_,rfl,?_⟩)
  obtain rfl:=k1.uniq k2
  refine zc ?_
  exact hQ 0 0 e1 h2 (.inl ⟨fun g => z1 (k1.good.2 g),k1,rfl,rfl⟩) (x1.trans x2)
 obtain rfl : e1 = 0:=by omega
 have g:=k1.good.1 rfl
 refine zc ?_
 rw [e_next hA,e_push hA]
 have e2 : Ext h1 (h1.push 2 [Value.int .i64 s,Value.int .i64 k]):=.push _ _ _
 have o2 : Own (h1.push 2 [Value.int .i64 s,Value.int .i64 k]) h1.next 2 [Value.int .i64 s,Value.int .i64 k]:=Own.push _ _ _
 have lb : h1.next < (h1.push 2 [Value.int .i64 s,Value.int .i64 k]).next:=by simp [AHeap.push]
 generalize h1.push 2 [Value.int .i64 s,Value.int .i64 k] = h2 at *
 obtain ⟨bb,hbb⟩ : ∃ z,z = h1.next:=⟨_,rfl⟩
 rw [← hbb] at o2 lb ⊢
 have y2':=x1.trans e2
 have l2':=y2'.lowOK hlow
 refine rlag_gen hA l2' is ik o2 lb (fun ee g2 ke xx => ⟨_,rfl,?_⟩)
 have y2:=y2'.trans xx
 have l2:=y2.lowOK hlow
 refine zc ?_
 refine br (ee ≠ 0) (by rw [e_neq hA]) (fun z2 => ?_) (fun z2 => ?_) <;> refine zc ?_
 ·refine zc ?_
  exact hQ 0 0 2 g2 (.inr (.inl ⟨g,fun q => z2 (ke.2 q),rfl,rfl,rfl⟩)) y2
 have gl:=ke.1 (by omega)
 obtain ⟨k0,k1',s0,s1,hpar⟩:=id gl
 refine rcheck_ok hA l2 ipn ipd (fun e3 h3 k3 x3 => ⟨_,rfl,?_⟩)
 have y3:=y2.trans x3
 have l3:=y3.lowOK hlow
 have bad8 : ¬ (okF pn pd ∧ 1 ≤ pn) → Q (.tuple #[.agg #[.int .i64 0,.int .i64 0],.int .i64 8]) h3:=fun w => hQ 0 0 8 h3 (.inr (.inr (.inl ⟨g,gl,w,rfl,rfl,rfl⟩))) y3
 refine zc ?_
 refine br (e3 ≠ 0) (by rw [e_neq hA]) (fun z3 => ?_) (fun z3 => ?_) <;> refine zc ?_
 ·refine zc ?_
  exact bad8 (fun w => by
   rcases k3 with ⟨q,_⟩ | ⟨_,q⟩
   ·exact z3 q
   ·exact q w.1)
 have okp : okF pn pd:=by
  rcases k3 with ⟨_,q⟩ | ⟨q,_⟩
  ·exact q
  ·omega
 refine br (pn < 1) (by rw [e_lss hA]) (fun q => ?_) (fun z4 => ?_) <;> refine zc ?_
 ·refine zc ?_
  exact bad8 (fun w => by have:=w.2;omega)
 have okp1 : okF pn pd ∧ 1 ≤ pn:=⟨okp,by omega⟩
 obtain ⟨p,hp⟩:=okp
 refine br (k = 0) (by rw [e_eql hA]) (fun q => ?_) (fun z5 => ?_) <;> refine zc ?_
 ·refine zc ?_
  exact hQ 0 0 18 h3 (.inr (.inr (.inr (.inl ⟨g,gl,okp1,q,rfl,rfl,rfl⟩)))) y3
 refine rmake_ok hA l3 is ik (fun m1 m2 e4 k4 h4 x4 => ⟨_,_,_,rfl,?_⟩)
 have y4:=y3.trans x4
 have l4:=y4.lowOK hlow
 obtain ⟨hm1,rfl⟩ : isF m1 m2 ((s : Rat) / (k : Rat)) ∧ e4 = 0:=by
  rcases k4 with ⟨q,_⟩ | ⟨_,k4⟩
  ·omega
  ·rcases k4 with ⟨q,r1,r2,r3⟩ | ⟨q,_⟩
   ·exact ⟨⟨r1,r2,q⟩,r3⟩
   ·exact absurd (lag_fits gl z5) q
 refine zc ?_
 refine br False (by rw [e_neq hA];rfl) (fun q => q.elim) (fun _ => ?_) <;> refine zc ?_
 refine rdiv_ok hA l4 hm1.i64n hm1.i64d hp.i64n hp.i64d (fun u1 u2 e5 k5 h5 x5 => ⟨_,_,_,rfl,?_⟩)
 have y5:=y4.trans x5
 have l5:=y5.lowOK hlow
 have ho : outF ((s : Rat) / (k : Rat) / p) u1 u2 e5:=by
  rcases k5 with ⟨w,_⟩ | ⟨_,_,w,_⟩ | ⟨p1,q1,w1,w2,_,w3⟩
  ·exact absurd ⟨⟨_,hm1⟩,⟨_,hp⟩⟩ w
  ·omega
  ·rwa [w1.uniq hm1,w2.uniq hp] at w3
 have fin : ∀ u v e h',((e5 ≠ 0 ∧ u = 0 ∧ v = 0 ∧ e = e5) ∨ (e5 = 0 ∧ ValIs l u1 u2 u v e)) → Ext h h' → Q (.tuple #[.agg #[.int .i64 u,.int .i64 v],.int .i64 e]) h':=fun u v e h' w x' => hQ u v e h' (.inr (.inr (.inr (.inr ⟨g,gl,okp1,z5,p,hp,u1,u2,e5,ho,w⟩)))) x'
 refine zc ?_
 refine br (e5 ≠ 0) (by rw [e_neq hA]) (fun q => ?_) (fun z6 => ?_) <;> refine zc ?_
 ·refine zc ?_
  exact fin 0 0 e5 h5 (.inl ⟨q,rfl,rfl,rfl⟩) y5
 obtain rfl : e5 = 0:=by omega
 have iu : i64 u1 ∧ i64 u2:=by
  rcases ho with ⟨w,r1,r2,_⟩ | ⟨_,r1,r2,_⟩
  ·have:=(show isF u1 u2 _ from ⟨r1,r2,w⟩);exact ⟨this.i64n,this.i64d⟩
  ·rw [r1,r2];unfold i64;omega
 refine rvalue_ok hA l5 (hl.ext y5) hi iu.1 iu.2 (fun u v e6 h6 k6 x6 => ⟨_,_,_,rfl,?_⟩)
 refine zc ?_
 exact fin u v e6 h6 (.inr ⟨rfl,k6⟩) (y5.trans x6)
