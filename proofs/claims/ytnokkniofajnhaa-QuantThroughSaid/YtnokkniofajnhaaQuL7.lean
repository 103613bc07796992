import Derived.Test.YtnokkniofajnhaaQuTh
import Derived.Test.YtnokkniofajnhaaQuFit
import Derived.Test.YtnokkniofajnhaaSeatL7
set_option linter.unusedSimpArgs false
set_option linter.unusedVariables false
namespace Go.Proofs.Ytnokkniofajnhaa
open Go.Sim
set_option linter.unusedVariables false
set_option maxRecDepth 100000
variable {F : Prims} {call head arith cmp scmp bnot bsame conv neg imax imin ofNat slen place inR nz geZ rd wr push next mkOK nat zeros sadd eqAgg cut slc sslc strAt part app cpy putAt fresh lowered bump wrote addN lt ne fpAll brk yn rng mget mput mnew bytes clr : _} (hA : AP F ⟨call,head,arith,cmp,scmp,bnot,bsame,conv,neg,imax,imin,ofNat,slen,place,inR,nz,geZ,rd,wr,push,next,mkOK,nat,zeros,sadd,eqAgg,cut,slc,sslc,strAt,part,app,cpy,putAt,fresh,lowered,bump,wrote,addN,lt,ne,fpAll,brk,yn,rng,mget,mput,mnew,bytes,clr⟩)
include hA
theorem through_ok (hF : ∀ h, F 25 [] h = some (.bool true, h)) {h : AHeap} (hlow : h.low ≤ h.next) {a b : Option Addr} {n c n2 c2 : Nat} {l m : List Kr} (hl : Ks h a n l) (hi : allI64 l) (hm : Ks h b n2 m) (hi2 : allI64 m) {xn xd : Int} (hxn : i64 xn) (hxd : i64 xd) {Q : Value → AHeap → Prop}
    (hQ : ∀ h', Ext h h' → Q (.bool true) h') : call 7 [.slice a n c, .slice b n2 c2, .agg #[.int .i64 xn, .int .i64 xd]] h Q := by
  have hlen := hl.len
  refine hA.bodyR Try.func7 r7_ok (hA.alike _ _ _ rfl) hlow (zc ?_)
  refine hA.prim (hF h) ⟨_, rfl, ?_⟩
  refine zc ?_
  have bt : bnot true = false := by rw [e_bnot hA]; rfl
  have bf : bnot false = true := by rw [e_bnot hA]; rfl
  refine fit_ok hA hlow hl hi (fun r h1 hr x1 => ⟨_, rfl, ?_⟩)
  refine zc ?_
  cases r with
  | false =>
    rw [bf]
    refine zc ?_
    exact hQ h1 x1
  | true =>
  have g1 : GoodL l := hr.1 rfl
  rw [bt]
  refine zc ?_
  refine fit_ok hA (x1.lowOK hlow) (hm.ext x1) hi2 (fun r2 h2 hr2 x2 => ⟨_, rfl, ?_⟩)
  have y2 := x1.trans x2
  refine zc ?_
  cases r2 with
  | false =>
    rw [bf]
    refine zc ?_
    exact hQ h2 y2
  | true =>
  have g2 : GoodL m := hr2.1 rfl
  rw [bt]
  refine zc ?_
  rw [bt]
  refine zc ?_
  refine value_ok hA (y2.lowOK hlow) (hl.ext y2) hi hxn hxd (fun u v e h3 k3 x3 => ⟨_, _, _, rfl, ?_⟩)
  have y3 := y2.trans x3
  have uv : i64 u ∧ i64 v := by
    rcases k3 with ⟨_, _, rfl, rfl⟩ | ⟨_, _, rfl, rfl, _⟩ | ⟨_, _, _, rfl, rfl, _⟩ | ⟨_, _, _, rfl, rfl, _⟩ | ⟨_, _, _, q, hq, _⟩
    · constructor <;> unfold i64 <;> omega
    · constructor <;> unfold i64 <;> omega
    · constructor <;> unfold i64 <;> omega
    · constructor <;> unfold i64 <;> omega
    · exact ⟨hq.i64n, hq.i64d⟩
  refine zc ?_
  refine value_ok hA (y3.lowOK hlow) (hm.ext y3) hi2 uv.1 uv.2 (fun w1 w2 f h4 k4 x4 => ⟨_, _, _, rfl, ?_⟩)
  have y4 := y3.trans x4
  refine zc ?_
  refine compose_ok hA (y4.lowOK hlow) (hl.ext y4) hi (hm.ext y4) hi2 (fun h5 a5 n5 c5 cc g ks5 i5 k5 x5 => ⟨_, _, _, _, rfl, ?_⟩)
  have y5 := y4.trans x5
  refine zc ?_
  refine br (g = 0) (by rw [e_eql hA]) (fun cg => ?_) (fun cg => ?_) <;> refine zc ?_
  rotate_left
  · have eT := y5
    refine inverse_ok hA (eT.lowOK hlow) (hl.ext eT) hi (fun a6 n6 c6 e6 h6 k6 s6 x6 => ⟨_, _, _, _, rfl, ?_⟩)
    obtain rfl : e6 = 0 := k6.good.2 g1
    replace s6 : Ks h6 a6 n6 (turnR l) := s6
    have y6 := eT.trans x6
    refine zc ?_
    refine compose_ok hA (y6.lowOK hlow) (hl.ext y6) hi s6 hi.turn (fun h7 a7 n7 c7 dd j ks7 i7 k7 x7 => ⟨_, _, _, _, rfl, ?_⟩)
    obtain rfl : j = 0 := self_ok g1 k7
    obtain ⟨W7, C7⟩ := k7.comp g1 g1.turn
    have y7 := y6.trans x7
    refine zc ?_
    refine br False (by rw [e_neq hA]; rfl) (fun q => q.elim) (fun _ => ?_) <;> refine zc ?_
    refine br False (by rw [e_neq hA]; rfl) (fun q => q.elim) (fun _ => ?_) <;> refine zc ?_
    refine br (e ≠ 0) (by rw [e_neq hA]) (fun ce => ?_) (fun ce => ?_) <;> refine zc ?_
    · refine br True (by rw [e_eql hA]; rfl) (fun _ => ?_) (fun q => absurd trivial q) <;> refine zc ?_
      rw [show cmp .eql 0 0 = true by rw [e_eql hA]; rfl]
      exact hQ h7 y7
    refine value_ok hA (y7.lowOK hlow) ks7 i7 hxn hxd (fun p1 p2 j2 h8 k8 x8 => ⟨_, _, _, rfl, ?_⟩)
    have y8 := y7.trans x8
    obtain ⟨rfl, rfl, rfl⟩ := C7.self (by have : e = 0 := by omega
                                          rw [this] at k3; exact k3) k8
    refine zc ?_
    refine br True (by rw [e_eql hA]; rfl) (fun _ => ?_) (fun q => absurd trivial q) <;> refine zc ?_
    obtain ⟨r, hr1, hr2⟩ := eqF p1 p2 p1 p2
    rw [e_eqAgg hA]
    refine ⟨guardF, r, hr1, ?_⟩
    obtain rfl : r = true := hr2.2 ⟨rfl, rfl⟩
    refine zc ?_
    exact hQ h8 y8
  refine br (e = 0) (by rw [e_eql hA]) (fun ce0 => ?_) (fun ce0 => ?_) <;> refine zc ?_
  rotate_left
  · have eT := y5
    refine inverse_ok hA (eT.lowOK hlow) (hl.ext eT) hi (fun a6 n6 c6 e6 h6 k6 s6 x6 => ⟨_, _, _, _, rfl, ?_⟩)
    obtain rfl : e6 = 0 := k6.good.2 g1
    replace s6 : Ks h6 a6 n6 (turnR l) := s6
    have y6 := eT.trans x6
    refine zc ?_
    refine compose_ok hA (y6.lowOK hlow) (hl.ext y6) hi s6 hi.turn (fun h7 a7 n7 c7 dd j ks7 i7 k7 x7 => ⟨_, _, _, _, rfl, ?_⟩)
    obtain rfl : j = 0 := self_ok g1 k7
    obtain ⟨W7, C7⟩ := k7.comp g1 g1.turn
    have y7 := y6.trans x7
    refine zc ?_
    refine br False (by rw [e_neq hA]; rfl) (fun q => q.elim) (fun _ => ?_) <;> refine zc ?_
    refine br False (by rw [e_neq hA]; rfl) (fun q => q.elim) (fun _ => ?_) <;> refine zc ?_
    refine br (e ≠ 0) (by rw [e_neq hA]) (fun ce => ?_) (fun ce => ?_) <;> refine zc ?_
    · refine br True (by rw [e_eql hA]; rfl) (fun _ => ?_) (fun q => absurd trivial q) <;> refine zc ?_
      rw [show cmp .eql 0 0 = true by rw [e_eql hA]; rfl]
      exact hQ h7 y7
    refine value_ok hA (y7.lowOK hlow) ks7 i7 hxn hxd (fun p1 p2 j2 h8 k8 x8 => ⟨_, _, _, rfl, ?_⟩)
    have y8 := y7.trans x8
    obtain ⟨rfl, rfl, rfl⟩ := C7.self (by have : e = 0 := by omega
                                          rw [this] at k3; exact k3) k8
    refine zc ?_
    refine br True (by rw [e_eql hA]; rfl) (fun _ => ?_) (fun q => absurd trivial q) <;> refine zc ?_
    obtain ⟨r, hr1, hr2⟩ := eqF p1 p2 p1 p2
    rw [e_eqAgg hA]
    refine ⟨guardF, r, hr1, ?_⟩
    obtain rfl : r = true := hr2.2 ⟨rfl, rfl⟩
    refine zc ?_
    exact hQ h8 y8
  refine br (f = 0) (by rw [e_eql hA]) (fun cf => ?_) (fun cf => ?_) <;> refine zc ?_
  rotate_left
  · have eT := y5
    refine inverse_ok hA (eT.lowOK hlow) (hl.ext eT) hi (fun a6 n6 c6 e6 h6 k6 s6 x6 => ⟨_, _, _, _, rfl, ?_⟩)
    obtain rfl : e6 = 0 := k6.good.2 g1
    replace s6 : Ks h6 a6 n6 (turnR l) := s6
    have y6 := eT.trans x6
    refine zc ?_
    refine compose_ok hA (y6.lowOK hlow) (hl.ext y6) hi s6 hi.turn (fun h7 a7 n7 c7 dd j ks7 i7 k7 x7 => ⟨_, _, _, _, rfl, ?_⟩)
    obtain rfl : j = 0 := self_ok g1 k7
    obtain ⟨W7, C7⟩ := k7.comp g1 g1.turn
    have y7 := y6.trans x7
    refine zc ?_
    refine br False (by rw [e_neq hA]; rfl) (fun q => q.elim) (fun _ => ?_) <;> refine zc ?_
    refine br False (by rw [e_neq hA]; rfl) (fun q => q.elim) (fun _ => ?_) <;> refine zc ?_
    refine br (e ≠ 0) (by rw [e_neq hA]) (fun ce => ?_) (fun ce => ?_) <;> refine zc ?_
    · refine br True (by rw [e_eql hA]; rfl) (fun _ => ?_) (fun q => absurd trivial q) <;> refine zc ?_
      rw [show cmp .eql 0 0 = true by rw [e_eql hA]; rfl]
      exact hQ h7 y7
    refine value_ok hA (y7.lowOK hlow) ks7 i7 hxn hxd (fun p1 p2 j2 h8 k8 x8 => ⟨_, _, _, rfl, ?_⟩)
    have y8 := y7.trans x8
    obtain ⟨rfl, rfl, rfl⟩ := C7.self (by have : e = 0 := by omega
                                          rw [this] at k3; exact k3) k8
    refine zc ?_
    refine br True (by rw [e_eql hA]; rfl) (fun _ => ?_) (fun q => absurd trivial q) <;> refine zc ?_
    obtain ⟨r, hr1, hr2⟩ := eqF p1 p2 p1 p2
    rw [e_eqAgg hA]
    refine ⟨guardF, r, hr1, ?_⟩
    obtain rfl : r = true := hr2.2 ⟨rfl, rfl⟩
    refine zc ?_
    exact hQ h8 y8
  subst cg
  obtain ⟨W, C⟩ := k5.comp g1 g2
  refine value_ok hA (y5.lowOK hlow) ks5 i5 hxn hxd (fun z1 z2 j2 h9 k9 x9 => ⟨_, _, _, rfl, ?_⟩)
  have y9 := y5.trans x9
  obtain ⟨rfl, rfl, rfl⟩ := C.through (by rw [ce0] at k3; exact k3) (by rw [cf] at k4; exact k4) k9
  refine zc ?_
  refine br False (by rw [e_neq hA]; rfl) (fun q => q.elim) (fun _ => ?_) <;> refine zc ?_
  obtain ⟨r, hr1, hr2⟩ := eqF z1 z2 z1 z2
  rw [e_eqAgg hA]
  refine ⟨guardF, r, hr1, ?_⟩
  obtain rfl : r = true := hr2.2 ⟨rfl, rfl⟩
  refine zc ?_
  rw [bt]
  refine zc ?_
  refine rqcheck_ok hA (y9.lowOK hlow) (ks5.ext x9) i5 (fun ec h10 k10 x10 => ⟨_, rfl, ?_⟩)
  obtain rfl : ec = 0 := k10.good.2 C.good
  have eT := y9.trans x10
  refine zc ?_
  refine br False (by rw [e_neq hA]; rfl) (fun q => q.elim) (fun _ => ?_) <;> refine zc ?_
  refine inverse_ok hA (eT.lowOK hlow) (hl.ext eT) hi (fun a6 n6 c6 e6 h6 k6 s6 x6 => ⟨_, _, _, _, rfl, ?_⟩)
  obtain rfl : e6 = 0 := k6.good.2 g1
  replace s6 : Ks h6 a6 n6 (turnR l) := s6
  have y6 := eT.trans x6
  refine zc ?_
  refine compose_ok hA (y6.lowOK hlow) (hl.ext y6) hi s6 hi.turn (fun h7 a7 n7 c7 dd j ks7 i7 k7 x7 => ⟨_, _, _, _, rfl, ?_⟩)
  obtain rfl : j = 0 := self_ok g1 k7
  obtain ⟨W7, C7⟩ := k7.comp g1 g1.turn
  have y7 := y6.trans x7
  refine zc ?_
  refine br False (by rw [e_neq hA]; rfl) (fun q => q.elim) (fun _ => ?_) <;> refine zc ?_
  refine br False (by rw [e_neq hA]; rfl) (fun q => q.elim) (fun _ => ?_) <;> refine zc ?_
  refine br (e ≠ 0) (by rw [e_neq hA]) (fun ce => ?_) (fun ce => ?_) <;> refine zc ?_
  · refine br True (by rw [e_eql hA]; rfl) (fun _ => ?_) (fun q => absurd trivial q) <;> refine zc ?_
    rw [show cmp .eql 0 0 = true by rw [e_eql hA]; rfl]
    exact hQ h7 y7
  refine value_ok hA (y7.lowOK hlow) ks7 i7 hxn hxd (fun p1 p2 j2 h8 k8 x8 => ⟨_, _, _, rfl, ?_⟩)
  have y8 := y7.trans x8
  obtain ⟨rfl, rfl, rfl⟩ := C7.self (by have : e = 0 := by omega
                                        rw [this] at k3; exact k3) k8
  refine zc ?_
  refine br True (by rw [e_eql hA]; rfl) (fun _ => ?_) (fun q => absurd trivial q) <;> refine zc ?_
  obtain ⟨r, hr1, hr2⟩ := eqF p1 p2 p1 p2
  rw [e_eqAgg hA]
  refine ⟨guardF, r, hr1, ?_⟩
  obtain rfl : r = true := hr2.2 ⟨rfl, rfl⟩
  refine zc ?_
  exact hQ h8 y8
end Go.Proofs.Ytnokkniofajnhaa
