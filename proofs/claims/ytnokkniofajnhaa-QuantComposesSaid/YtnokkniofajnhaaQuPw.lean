import Derived.Test.YtnokkniofajnhaaQuV
set_option linter.unusedSimpArgs false
set_option linter.unusedVariables false
namespace Go.Proofs.Ytnokkniofajnhaa
open Go.Sim
set_option maxRecDepth 100000
def badC (c0 c1 c2 c3 c4 : Int) : Prop:=c0 < 0 ∨ 256 < c0 ∨ c1 < 0 ∨ 256 < c1 ∨ c2 < 0 ∨ 256 < c2 ∨ c3 < 0 ∨ 256 < c3 ∨ c4 < 0 ∨ 256 < c4 ∨ 256 < c0 + c1 + c2 + c3 + c4
def PowIs (c0 c1 c2 c3 c4 a b e : Int) : Prop:=(badC c0 c1 c2 c3 c4 ∧ a = 0 ∧ b = 0 ∧ e = 2) ∨ (¬ badC c0 c1 c2 c3 c4 ∧ ((c1 + c2 + c3 + c4 = 0 ∧ a = 0 ∧ b = 0 ∧ e = 18) ∨ (c1 + c2 + c3 + c4 ≠ 0 ∧ outF (((9 * (c1 + c4) + c2 + c3 : Int) : Rat) / ((c1 + c2 + c3 + c4 : Int) : Rat)) a b e)))
theorem PowIs.uniq {c0 c1 c2 c3 c4 a b e a' b' e' : Int} (h : PowIs c0 c1 c2 c3 c4 a b e) (k : PowIs c0 c1 c2 c3 c4 a' b' e') : a = a' ∧ b = b' ∧ e = e':=by
 rcases h with ⟨w,h1,h2,h3⟩ | ⟨w,⟨z,h1,h2,h3⟩ | ⟨z,h⟩⟩ <;> rcases k with ⟨w',k1,k2,k3⟩ | ⟨w',⟨z',k1,k2,k3⟩ | ⟨z',k⟩⟩
 ·exact ⟨by omega,by omega,by omega⟩
 ·exact absurd w w'
 ·exact absurd w w'
 ·exact absurd w' w
 ·exact ⟨by omega,by omega,by omega⟩
 ·exact absurd z z'
 ·exact absurd w' w
 ·exact absurd z' z
 ·exact h.uniq k
variable {F : Prims} {call a0 arith b0 d0 e0 f0 g0 h0 i0 j0 k0 l0 place m0 nz n0 rd wr push next o0 p0 r0 t0 u0 v0 w0 x0 y0 part z0 a1 b1 d1 g1 i1 j1 m1 lt ne n1 p1 r1 yn u1 v1 w1 x1 y1 z1 : _} (hA : AP F ⟨call,a0,arith,b0,d0,e0,f0,g0,h0,i0,j0,k0,l0,place,m0,nz,n0,rd,wr,push,next,o0,p0,r0,t0,u0,v0,w0,x0,y0,part,z0,a1,b1,d1,g1,i1,j1,m1,lt,ne,n1,p1,r1,yn,u1,v1,w1,x1,y1,z1⟩)
include hA
theorem power_gen {h : AHeap} (hlow : h.low ≤ h.next) {c0 c1 c2 c3 c4 : Int} {Q : Value → AHeap → Prop}
  (hQ : ∀ a b e h',PowIs c0 c1 c2 c3 c4 a b e → Ext h h' → Q (.tuple #[.agg #[.int .i64 a,.int .i64 b],.int .i64 e]) h') :
  call 19 [.agg #[.int .i64 c0,.int .i64 c1,.int .i64 c2,.int .i64 c3,.int .i64 c4]] h Q:=by
 refine hA.bodyR Try.func19 r19_ok (hA.alike _ _ _ rfl) hlow (zc ?_)
 rw [e_next hA,e_push hA]
 have e1 : Ext h (h.push 5 [Value.int .i64 c0,Value.int .i64 c1,Value.int .i64 c2,Value.int .i64 c3,Value.int .i64 c4]):=.push _ _ _
 have o1 : Own (h.push 5 [Value.int .i64 c0,Value.int .i64 c1,Value.int .i64 c2,Value.int .i64 c3,Value.int .i64 c4]) h.next 5 ([c0,c1,c2,c3,c4].map (.int .i64)):=Own.push _ _ _
 generalize h.push 5 [Value.int .i64 c0,Value.int .i64 c1,Value.int .i64 c2,Value.int .i64 c3,Value.int .i64 c4] = h1 at *
 obtain ⟨b,hb⟩ : ∃ z,z = h.next:=⟨_,rfl⟩
 rw [← hb] at o1 ⊢
 have l1:=e1.lowOK hlow
 have rd5 : rd h1 b 0 5 [.int .i64 c0,.int .i64 c1,.int .i64 c2,.int .i64 c3,.int .i64 c4]:=rd_at hA (o1.readG (o:=0) (n:=5) (by simp))
 refine ⟨c0,c1,c2,c3,c4,rd5,?_⟩
 refine zc ?_
 have pt : ∀ (i : Nat) (v : Int),[c0,c1,c2,c3,c4][i]? = some v → part 3 #[.int .i64 c0,.int .i64 c1,.int .i64 c2,.int .i64 c3,.int .i64 c4] (place 0 i 1) (.int .i64 v):=fun i v hv => by
  rw [e_part hA,e_place hA]
  unfold partA
  rw [show isAggB Try.prog 3 = some false by kernel_rfl]
  show ([c0,c1,c2,c3,c4].map (Value.int .i64))[0 + (i : Int).toNat * 1]? = _
  rw [show 0 + (i : Int).toNat * 1 = i by omega,List.getElem?_map,hv]
  rfl
 refine hA.roundR Try.func19 r19_ok (zc ?_)
 refine br True (by rw [e_lss hA];rfl) (fun _ => ?_) (fun q => absurd trivial q) <;> refine zc ?_
 refine ⟨in_ok hA (by omega) (by omega),?_⟩
 refine zc ?_
 refine ⟨c0,pt 0 c0 rfl,?_⟩
 refine zc ?_
 refine br (c0 < 0) (by rw [e_lss hA]) (fun q => hQ 0 0 2 h1 (.inl ⟨by unfold badC;omega,rfl,rfl,rfl⟩) e1) (fun _ => ?_) <;> refine zc ?_
 refine br (256 < c0) (by rw [e_gtr hA]) (fun q => hQ 0 0 2 h1 (.inl ⟨by unfold badC;omega,rfl,rfl,rfl⟩) e1) (fun _ => ?_) <;> refine zc ?_
 obtain ⟨s0,hs0⟩ : ∃ z,z = 0 + c0:=⟨_,rfl⟩
 rw [show arith .add .i64 0 c0 = s0 by rw [hs0];exact add64 hA (by omega) (by omega),show arith .add .i64 0 1 = 1 by rw [add64 hA (by omega) (by omega)];rfl]
 refine hA.roundR Try.func19 r19_ok (zc ?_)
 refine br True (by rw [e_lss hA];rfl) (fun _ => ?_) (fun q => absurd trivial q) <;> refine zc ?_
 refine ⟨in_ok hA (by omega) (by omega),?_⟩
 refine zc ?_
 refine ⟨c1,pt 1 c1 rfl,?_⟩
 refine zc ?_
 refine br (c1 < 0) (by rw [e_lss hA]) (fun q => hQ 0 0 2 h1 (.inl ⟨by unfold badC;omega,rfl,rfl,rfl⟩) e1) (fun _ => ?_) <;> refine zc ?_
 refine br (256 < c1) (by rw [e_gtr hA]) (fun q => hQ 0 0 2 h1 (.inl ⟨by unfold badC;omega,rfl,rfl,rfl⟩) e1) (fun _ => ?_) <;> refine zc ?_
 obtain ⟨s1,hs1⟩ : ∃ z,z = s0 + c1:=⟨_,rfl⟩
 rw [show arith .add .i64 s0 c1 = s1 by rw [hs1];exact add64 hA (by omega) (by omega),show arith .add .i64 1 1 = 2 by rw [add64 hA (by omega) (by omega)];rfl]
 refine hA.roundR Try.func19 r19_ok (zc ?_)
 refine br True (by rw [e_lss hA];rfl) (fun _ => ?_) (fun q => absurd trivial q) <;> refine zc ?_
 refine ⟨in_ok hA (by omega) (by omega),?_⟩
 refine zc ?_
 refine ⟨c2,pt 2 c2 rfl,?_⟩
 refine zc ?_
 refine br (c2 < 0) (by rw [e_lss hA]) (fun q => hQ 0 0 2 h1 (.inl ⟨by unfold badC;omega,rfl,rfl,rfl⟩) e1) (fun _ => ?_) <;> refine zc ?_
 refine br (256 < c2) (by rw [e_gtr hA]) (fun q => hQ 0 0 2 h1 (.inl ⟨by unfold badC;omega,rfl,rfl,rfl⟩) e1) (fun _ => ?_) <;> refine zc ?_
 obtain ⟨s2,hs2⟩ : ∃ z,z = s1 + c2:=⟨_,rfl⟩
 rw [show arith .add .i64 s1 c2 = s2 by rw [hs2];exact add64 hA (by omega) (by omega),show arith .add .i64 2 1 = 3 by rw [add64 hA (by omega) (by omega)];rfl]
 refine hA.roundR Try.func19 r19_ok (zc ?_)
 refine br True (by rw [e_lss hA];rfl) (fun _ => ?_) (fun q => absurd trivial q) <;> refine zc ?_
 refine ⟨in_ok hA (by omega) (by omega),?_⟩
 refine zc ?_
 refine ⟨c3,pt 3 c3 rfl,?_⟩
 refine zc ?_
 refine br (c3 < 0) (by rw [e_lss hA]) (fun q => hQ 0 0 2 h1 (.inl ⟨by unfold badC;omega,rfl,rfl,rfl⟩) e1) (fun _ => ?_) <;> refine zc ?_
 refine br (256 < c3) (by rw [e_gtr hA]) (fun q => hQ 0 0 2 h1 (.inl ⟨by unfold badC;omega,rfl,rfl,rfl⟩) e1) (fun _ => ?_) <;> refine zc ?_
 obtain ⟨s3,hs3⟩ : ∃ z,z = s2 + c3:=⟨_,rfl⟩
 rw [show arith .add .i64 s2 c3 = s3 by rw [hs3];exact add64 hA (by omega) (by omega),show arith .add .i64 3 1 = 4 by rw [add64 hA (by omega) (by omega)];rfl]
 refine hA.roundR Try.func19 r19_ok (zc ?_)
 refine br True (by rw [e_lss hA];rfl) (fun _ => ?_) (fun q => absurd trivial q) <;> refine zc ?_
 refine ⟨in_ok hA (by omega) (by omega),?_⟩
 refine zc ?_
 refine ⟨c4,pt 4 c4 rfl,?_⟩
 refine zc ?_
 refine br (c4 < 0) (by rw [e_lss hA]) (fun q => hQ 0 0 2 h1 (.inl ⟨by unfold badC;omega,rfl,rfl,rfl⟩) e1) (fun _ => ?_) <;> refine zc ?_
 refine br (256 < c4) (by rw [e_gtr hA]) (fun q => hQ 0 0 2 h1 (.inl ⟨by unfold badC;omega,rfl,rfl,rfl⟩) e1) (fun _ => ?_) <;> refine zc ?_
 obtain ⟨s4,hs4⟩ : ∃ z,z = s3 + c4:=⟨_,rfl⟩
 rw [show arith .add .i64 s3 c4 = s4 by rw [hs4];exact add64 hA (by omega) (by omega),show arith .add .i64 4 1 = 5 by rw [add64 hA (by omega) (by omega)];rfl]
 refine hA.roundR Try.func19 r19_ok (zc ?_)
 refine br False (by rw [e_lss hA];rfl) (fun q => q.elim) (fun _ => ?_) <;> refine zc ?_
 refine br (256 < s4) (by rw [e_gtr hA]) (fun q => hQ 0 0 2 h1 (.inl ⟨by unfold badC;omega,rfl,rfl,rfl⟩) e1) (fun _ => ?_) <;> refine zc ?_
 have ok : ¬ badC c0 c1 c2 c3 c4:=by unfold badC;omega
 have hQ:=fun a b e h' (w : (c1 + c2 + c3 + c4 = 0 ∧ a = 0 ∧ b = 0 ∧ e = 18) ∨ (c1 + c2 + c3 + c4 ≠ 0 ∧ outF (((9 * (c1 + c4) + c2 + c3 : Int) : Rat) / ((c1 + c2 + c3 + c4 : Int) : Rat)) a b e)) => hQ a b e h' (.inr ⟨ok,w⟩)
 have rd1 : ∀ (i : Nat) (v : Int),[c0,c1,c2,c3,c4][i]? = some v → rd h1 b (place 0 i 1) 1 [.int .i64 v]:=fun i v hv => by
  rw [e_rd hA,e_place hA,show 0 + (i : Int).toNat * 1 = i by omega]
  have hi : i < 5:=by
   have:=(List.getElem?_eq_some_iff.1 hv).1
   simpa using this
  rw [o1.getInt (by simpa using hi),List.getD_eq_getElem?_getD,hv]
  rfl
 have q0:=rd1 0 c0 rfl
 have q1:=rd1 1 c1 rfl
 have q2:=rd1 2 c2 rfl
 have q3:=rd1 3 c3 rfl
 have q4:=rd1 4 c4 rfl
 refine zq ?_
 obtain ⟨th,hth⟩ : ∃ z,z = c1 + c2 + c3 + c4:=⟨_,rfl⟩
 obtain ⟨sq,hsq⟩ : ∃ z,z = 9 * (c1 + c4) + c2 + c3:=⟨_,rfl⟩
 rw [← hth,← hsq] at hQ
 rw [show arith .sub .i64 s4 c0 = th by rw [sub64 hA (by omega) (by omega)];omega]
 refine br (th = 0) (by rw [e_eql hA]) (fun q => ?_) (fun q => ?_) <;> refine zc ?_
 ·exact hQ _ _ _ _ (.inl ⟨q,rfl,rfl,rfl⟩) e1
 refine zq ?_
 have f1 : arith .add .i64 c1 c4 = c1 + c4:=add64 hA (by omega) (by omega)
 have f2 : arith .mul .i64 9 (c1 + c4) = 9 * (c1 + c4):=mul64 hA (by omega) (by omega)
 have f3 : arith .add .i64 (9 * (c1 + c4)) c2 = 9 * (c1 + c4) + c2:=add64 hA (by omega) (by omega)
 have f4 : arith .add .i64 (9 * (c1 + c4) + c2) c3 = sq:=by rw [hsq];exact add64 hA (by omega) (by omega)
 rw [f1,f2,f3,f4]
 refine make_ok hA l1 (by unfold i64;omega) (by unfold i64;omega) (fun a' b' e' k h2 x2 => ⟨_,_,_,rfl,?_⟩)
 refine zc ?_
 refine hQ _ _ _ _ (.inr ⟨q,?_⟩) (e1.trans x2)
 rcases k with ⟨w,_⟩ | ⟨_,k⟩
 ·exact absurd w q
 ·exact k
theorem rpower_gen {h : AHeap} (hlow : h.low ≤ h.next) {c0 c1 c2 c3 c4 : Int} {Q : Value → AHeap → Prop}
  (hQ : ∀ a b e h',PowIs c0 c1 c2 c3 c4 a b e → Ext h h' → Q (.tuple #[.agg #[.int .i64 a,.int .i64 b],.int .i64 e]) h') :
  call 20 [.agg #[.int .i64 c0,.int .i64 c1,.int .i64 c2,.int .i64 c3,.int .i64 c4]] h Q:=by
 refine hA.bodyR Try.func20 r20_ok (hA.alike _ _ _ rfl) hlow (zc ?_)
 rw [e_next hA,e_push hA]
 have e1 : Ext h (h.push 5 [Value.int .i64 c0,Value.int .i64 c1,Value.int .i64 c2,Value.int .i64 c3,Value.int .i64 c4]):=.push _ _ _
 have o1 : Own (h.push 5 [Value.int .i64 c0,Value.int .i64 c1,Value.int .i64 c2,Value.int .i64 c3,Value.int .i64 c4]) h.next 5 ([c0,c1,c2,c3,c4].map (.int .i64)):=Own.push _ _ _
 generalize h.push 5 [Value.int .i64 c0,Value.int .i64 c1,Value.int .i64 c2,Value.int .i64 c3,Value.int .i64 c4] = h1 at *
 obtain ⟨b,hb⟩ : ∃ z,z = h.next:=⟨_,rfl⟩
 rw [← hb] at o1 ⊢
 have l1:=e1.lowOK hlow
 have rd1 : ∀ (i : Nat) (v : Int),[c0,c1,c2,c3,c4][i]? = some v → rd h1 b (place 0 i 1) 1 [.int .i64 v]:=fun i v hv => by
  rw [e_rd hA,e_place hA,show 0 + (i : Int).toNat * 1 = i by omega]
  have hi : i < 5:=by
   have:=(List.getElem?_eq_some_iff.1 hv).1
   simpa using this
  rw [o1.getInt (by simpa using hi),List.getD_eq_getElem?_getD,hv]
  rfl
 have q0 : rd h1 b (place 0 0 1) 1 [.int .i64 c0]:=rd1 0 c0 rfl
 have q1 : rd h1 b (place 0 1 1) 1 [.int .i64 c1]:=rd1 1 c1 rfl
 have q2 : rd h1 b (place 0 2 1) 1 [.int .i64 c2]:=rd1 2 c2 rfl
 have q3 : rd h1 b (place 0 3 1) 1 [.int .i64 c3]:=rd1 3 c3 rfl
 have q4 : rd h1 b (place 0 4 1) 1 [.int .i64 c4]:=rd1 4 c4 rfl
 have bad : badC c0 c1 c2 c3 c4 → Q (.tuple #[.agg #[.int .i64 0,.int .i64 0],.int .i64 2]) h1:=fun w => hQ 0 0 2 h1 (.inl ⟨w,rfl,rfl,rfl⟩) e1
 refine hA.roundR Try.func20 r20_ok (zc ?_)
 refine br True (by rw [e_lss hA];rfl) (fun _ => ?_) (fun q => absurd trivial q) <;> refine zc ?_
 refine zq ?_
 refine br (c0 < 0) (by rw [e_lss hA]) (fun q => bad (by unfold badC;omega)) (fun _ => ?_) <;> refine zc ?_
 refine zq ?_
 refine br (256 < c0) (by rw [e_gtr hA]) (fun q => bad (by unfold badC;omega)) (fun _ => ?_) <;> refine zc ?_
 refine zq ?_
 obtain ⟨s0,hs0⟩ : ∃ z,z = 0 + c0:=⟨_,rfl⟩
 rw [show arith .add .i64 0 c0 = s0 by rw [hs0];exact add64 hA (by omega) (by omega)]
 refine br False (by rw [e_gtr hA];rfl) (fun q => q.elim) (fun _ => ?_) <;> refine zc ?_
 rw [show arith .add .i64 0 1 = 1 by rw [add64 hA (by omega) (by omega)];rfl]
 refine hA.roundR Try.func20 r20_ok (zc ?_)
 refine br True (by rw [e_lss hA];rfl) (fun _ => ?_) (fun q => absurd trivial q) <;> refine zc ?_
 refine zq ?_
 refine br (c1 < 0) (by rw [e_lss hA]) (fun q => bad (by unfold badC;omega)) (fun _ => ?_) <;> refine zc ?_
 refine zq ?_
 refine br (256 < c1) (by rw [e_gtr hA]) (fun q => bad (by unfold badC;omega)) (fun _ => ?_) <;> refine zc ?_
 refine zq ?_
 obtain ⟨s1,hs1⟩ : ∃ z,z = s0 + c1:=⟨_,rfl⟩
 rw [show arith .add .i64 s0 c1 = s1 by rw [hs1];exact add64 hA (by omega) (by omega)]
 refine br True (by rw [e_gtr hA];rfl) (fun _ => ?_) (fun q => absurd trivial q) <;> refine zc ?_
 refine zq ?_
 obtain ⟨t1,ht1⟩ : ∃ z,z = 0 + c1:=⟨_,rfl⟩
 rw [show arith .add .i64 0 c1 = t1 by rw [ht1];exact add64 hA (by omega) (by omega)]
 rw [show arith .add .i64 1 1 = 2 by rw [add64 hA (by omega) (by omega)];rfl]
 refine hA.roundR Try.func20 r20_ok (zc ?_)
 refine br True (by rw [e_lss hA];rfl) (fun _ => ?_) (fun q => absurd trivial q) <;> refine zc ?_
 refine zq ?_
 refine br (c2 < 0) (by rw [e_lss hA]) (fun q => bad (by unfold badC;omega)) (fun _ => ?_) <;> refine zc ?_
 refine zq ?_
 refine br (256 < c2) (by rw [e_gtr hA]) (fun q => bad (by unfold badC;omega)) (fun _ => ?_) <;> refine zc ?_
 refine zq ?_
 obtain ⟨s2,hs2⟩ : ∃ z,z = s1 + c2:=⟨_,rfl⟩
 rw [show arith .add .i64 s1 c2 = s2 by rw [hs2];exact add64 hA (by omega) (by omega)]
 refine br True (by rw [e_gtr hA];rfl) (fun _ => ?_) (fun q => absurd trivial q) <;> refine zc ?_
 refine zq ?_
 obtain ⟨t2,ht2⟩ : ∃ z,z = t1 + c2:=⟨_,rfl⟩
 rw [show arith .add .i64 t1 c2 = t2 by rw [ht2];exact add64 hA (by omega) (by omega)]
 rw [show arith .add .i64 2 1 = 3 by rw [add64 hA (by omega) (by omega)];rfl]
 refine hA.roundR Try.func20 r20_ok (zc ?_)
 refine br True (by rw [e_lss hA];rfl) (fun _ => ?_) (fun q => absurd trivial q) <;> refine zc ?_
 refine zq ?_
 refine br (c3 < 0) (by rw [e_lss hA]) (fun q => bad (by unfold badC;omega)) (fun _ => ?_) <;> refine zc ?_
 refine zq ?_
 refine br (256 < c3) (by rw [e_gtr hA]) (fun q => bad (by unfold badC;omega)) (fun _ => ?_) <;> refine zc ?_
 refine zq ?_
 obtain ⟨s3,hs3⟩ : ∃ z,z = s2 + c3:=⟨_,rfl⟩
 rw [show arith .add .i64 s2 c3 = s3 by rw [hs3];exact add64 hA (by omega) (by omega)]
 refine br True (by rw [e_gtr hA];rfl) (fun _ => ?_) (fun q => absurd trivial q) <;> refine zc ?_
 refine zq ?_
 obtain ⟨t3,ht3⟩ : ∃ z,z = t2 + c3:=⟨_,rfl⟩
 rw [show arith .add .i64 t2 c3 = t3 by rw [ht3];exact add64 hA (by omega) (by omega)]
 rw [show arith .add .i64 3 1 = 4 by rw [add64 hA (by omega) (by omega)];rfl]
 refine hA.roundR Try.func20 r20_ok (zc ?_)
 refine br True (by rw [e_lss hA];rfl) (fun _ => ?_) (fun q => absurd trivial q) <;> refine zc ?_
 refine zq ?_
 refine br (c4 < 0) (by rw [e_lss hA]) (fun q => bad (by unfold badC;omega)) (fun _ => ?_) <;> refine zc ?_
 refine zq ?_
 refine br (256 < c4) (by rw [e_gtr hA]) (fun q => bad (by unfold badC;omega)) (fun _ => ?_) <;> refine zc ?_
 refine zq ?_
 obtain ⟨s4,hs4⟩ : ∃ z,z = s3 + c4:=⟨_,rfl⟩
 rw [show arith .add .i64 s3 c4 = s4 by rw [hs4];exact add64 hA (by omega) (by omega)]
 refine br True (by rw [e_gtr hA];rfl) (fun _ => ?_) (fun q => absurd trivial q) <;> refine zc ?_
 refine zq ?_
 obtain ⟨t4,ht4⟩ : ∃ z,z = t3 + c4:=⟨_,rfl⟩
 rw [show arith .add .i64 t3 c4 = t4 by rw [ht4];exact add64 hA (by omega) (by omega)]
 rw [show arith .add .i64 4 1 = 5 by rw [add64 hA (by omega) (by omega)];rfl]
 refine hA.roundR Try.func20 r20_ok (zc ?_)
 refine br False (by rw [e_lss hA];rfl) (fun q => q.elim) (fun _ => ?_) <;> refine zc ?_
 refine zq ?_
 obtain ⟨sq,hsq⟩ : ∃ z,z = 9 * (c1 + c4) + c2 + c3:=⟨_,rfl⟩
 have f1 : arith .mul .i64 9 c1 = 9 * c1:=mul64 hA (by omega) (by omega)
 have f2 : arith .add .i64 (9 * c1) c2 = 9 * c1 + c2:=add64 hA (by omega) (by omega)
 have f3 : arith .add .i64 (9 * c1 + c2) c3 = 9 * c1 + c2 + c3:=add64 hA (by omega) (by omega)
 have f4 : arith .mul .i64 9 c4 = 9 * c4:=mul64 hA (by omega) (by omega)
 have f5 : arith .add .i64 (9 * c1 + c2 + c3) (9 * c4) = sq:=by rw [add64 hA (by omega) (by omega)];omega
 rw [f1,f2,f3,f4,f5]
 refine br (256 < s4) (by rw [e_gtr hA]) (fun q => bad (by unfold badC;omega)) (fun _ => ?_) <;> refine zc ?_
 have ok : ¬ badC c0 c1 c2 c3 c4:=by unfold badC;omega
 have eT : c1 + c2 + c3 + c4 = t4:=by omega
 refine br (t4 = 0) (by rw [e_eql hA]) (fun q => ?_) (fun q => ?_) <;> refine zc ?_
 ·exact hQ 0 0 18 h1 (.inr ⟨ok,.inl ⟨by omega,rfl,rfl,rfl⟩⟩) e1
 refine rmake_ok hA l1 (by unfold i64;omega) (by unfold i64;omega) (fun a' b' e' k h2 x2 => ⟨_,_,_,rfl,?_⟩)
 refine zc ?_
 refine hQ a' b' e' h2 (.inr ⟨ok,.inr ⟨by omega,?_⟩⟩) (e1.trans x2)
 rw [eT,← hsq]
 rcases k with ⟨w,_⟩ | ⟨_,k⟩
 ·exact absurd w q
 ·exact k
