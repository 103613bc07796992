import Derived.Test.YtnokkniofajnhaaQuCr
import Derived.Test.YtnokkniofajnhaaQuCg
set_option linter.unusedSimpArgs false
set_option linter.unusedVariables false
namespace Go.Proofs.Ytnokkniofajnhaa
open Go.Sim
set_option maxRecDepth 100000
theorem ComposeIs.few {l m o : List Kr} {e : Int} (h : ComposeIs l m o e) : o.length ≤ 40:=by
 rcases h with ⟨_,_,rfl⟩ | ⟨_,_,_,rfl⟩ | ⟨_,_,_,_,rfl⟩ | ⟨_,_,_,W,_,⟨_,_,rfl⟩ | ⟨_,_,_,rfl⟩ | ⟨w,_,q,_⟩⟩
 ·simp
 ·simp
 ·simp
 ·simp
 ·simp
 ·omega
variable {F : Prims} {call a0 b0 cmp d0 e0 f0 g0 h0 i0 j0 k0 l0 m0 n0 nz o0 rd wr p0 next q0 r0 s0 t0 u0 v0 w0 x0 y0 z0 b1 d1 g1 j1 m1 q1 s1 t1 lt ne v1 w1 y1 yn z1 b2 d2 f2 g2 j2 : _} (hA : AP F ⟨call,a0,b0,cmp,d0,e0,f0,g0,h0,i0,j0,k0,l0,m0,n0,nz,o0,rd,wr,p0,next,q0,r0,s0,t0,u0,v0,w0,x0,y0,z0,b1,d1,g1,j1,m1,q1,s1,t1,lt,ne,v1,w1,y1,yn,z1,b2,d2,f2,g2,j2⟩)
include hA
theorem lcomposes_ok {h : AHeap} (hlow : h.low ≤ h.next) {a a2 : Option Addr} {n c n2 c2 : Nat} {l m : List Kr} (hl : Ks h a n l) (hi : allI64 l) (hm : Ks h a2 n2 m) (hi2 : allI64 m) {c0 c1 c2' c3 c4 s k pn pd : Int} (is : i64 s) (ik : i64 k) (ipn : i64 pn) (ipd : i64 pd) {Q : Value → AHeap → Prop}
  (hQ : ∀ h',Ext h h' → Q (.bool true) h') : call 4 [.slice a n c,.slice a2 n2 c2,.agg #[.int .i64 c0,.int .i64 c1,.int .i64 c2',.int .i64 c3,.int .i64 c4],.agg #[.int .i64 s,.int .i64 k],.agg #[.int .i64 pn,.int .i64 pd]] h Q:=by
 refine hA.bodyR Try.func4 r4_ok (hA.alike _ _ _ rfl) hlow (zc ?_)
 refine long_ok hA hlow (fun r hr => ⟨_,rfl,?_⟩)
 cases r with
 | true =>
  refine zc ?_
  exact hQ h (.refl h)
 | false =>
 refine zc ?_
 refine long_ok hA hlow (fun r hr => ⟨_,rfl,?_⟩)
 cases r with
 | true =>
  refine zc ?_
  exact hQ h (.refl h)
 | false =>
 refine zc ?_
 refine compose_ok hA hlow hl hi hm hi2 (fun h1 a1 n1 c1' o1 e1 r1 i1 k1 x1 => ⟨_,_,_,_,rfl,?_⟩)
 refine zc ?_
 refine rcompose_ok hA (x1.lowOK hlow) (hl.ext x1) hi (hm.ext x1) hi2 (fun h2 a2' n2' c2'' o2 e2 r2 i2 k2 x2 => ⟨_,_,_,_,rfl,?_⟩)
 have y2:=x1.trans x2
 obtain ⟨rfl,rfl⟩:=k1.uniq k2
 refine zc ?_
 refine power_gen hA (y2.lowOK hlow) (fun p1 p2 e3 h3 k3 x3 => ⟨_,_,_,rfl,?_⟩)
 have y3:=y2.trans x3
 refine zc ?_
 refine rpower_gen hA (y3.lowOK hlow) (fun p3 p4 e4 h4 k4 x4 => ⟨_,_,_,rfl,?_⟩)
 have y4:=y3.trans x4
 obtain ⟨rfl,rfl,rfl⟩:=k3.uniq k4
 refine zc ?_
 refine correct_gen hA (y4.lowOK hlow) (hl.ext y4) hi is ik ipn ipd (fun u1 u2 e5 h5 k5 x5 => ⟨_,_,_,rfl,?_⟩)
 have y5:=y4.trans x5
 refine zc ?_
 refine rcorrect_gen hA (y5.lowOK hlow) (hl.ext y5) hi is ik ipn ipd (fun u3 u4 e6 h6 k6 x6 => ⟨_,_,_,rfl,?_⟩)
 have y6:=y5.trans x6
 obtain ⟨rfl,rfl,rfl⟩:=k5.uniq k6
 refine zc ?_
 have f1:=k1.few
 have l1:=r1.len
 refine same_ok hA (y6.lowOK hlow) (r1.ext (((((x2.trans x3).trans x4).trans x5).trans x6))) i1 (r2.ext ((((x3.trans x4).trans x5).trans x6))) i2 (by omega) (fun r h7 k7 x7 => ⟨_,rfl,?_⟩)
 have y7:=y6.trans x7
 obtain rfl : r = true:=k7.2 rfl
 obtain ⟨rr,hr1,hr2⟩:=eqF p1 p2 p1 p2
 obtain rfl : rr = true:=hr2.2 ⟨rfl,rfl⟩
 obtain ⟨rr',hr3,hr4⟩:=eqF u1 u2 u1 u2
 obtain rfl : rr' = true:=hr4.2 ⟨rfl,rfl⟩
 refine zc ?_
 refine br True (by rw [e_eql hA];simp) (fun _ => ?_) (fun q => absurd trivial q) <;> refine zc ?_
 rw [e_eqAgg hA]
 refine ⟨guardF,true,hr1,?_⟩
 refine zc ?_
 refine br True (by rw [e_eql hA];simp) (fun _ => ?_) (fun q => absurd trivial q) <;> refine zc ?_
 rw [e_eqAgg hA]
 refine ⟨guardF,true,hr3,?_⟩
 refine zc ?_
 rw [show cmp .eql e5 e5 = true by rw [e_eql hA];simp]
 exact hQ h7 y7
