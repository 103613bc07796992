import Derived.Test.YtkbgkjlgnmlghaaCaT
set_option linter.unusedSimpArgs false
set_option linter.unusedVariables false
namespace Go.Proofs.Ytkbgkjlgnmlghaa
open Go.Sim
set_option linter.unusedVariables false
set_option maxRecDepth 100000
noncomputable def plusV (s : Ck) (z : Cq) : Option Ck:=(mkCk z).bind fun p => mkCk (s.val.add p.val)
theorem plusV_ok {s k : Ck} {z : Cq} (h : plusV s z = some k) : k.ok ∧ k.val = s.val.add z:=by
 unfold plusV at h
 cases e : mkCk z with
 | none => rw [e] at h;cases h
 | some p =>
  rw [e] at h
  have h1:=mkCk_some.1 e
  have h2:=mkCk_some.1 (show mkCk (s.val.add p.val) = some k from h)
  exact ⟨⟨_,h2⟩,by rw [h2.val,h1.val]⟩
noncomputable def term (p : Ck × Ck) : Cq:=p.1.val.mul p.2.val.conj
noncomputable def dotS (L : List (Ck × Ck)) (s : Ck) : Option Ck:=L.foldlM (fun s p => plusV s (term p)) s
theorem dotS_append (a b : List (Ck × Ck)) (s : Ck) : dotS (a ++ b) s = (dotS a s).bind (dotS b):=by unfold dotS;rw [List.foldlM_append];rfl
theorem dotS_one (p : Ck × Ck) (s : Ck) : dotS [p] s = plusV s (term p):=by unfold dotS;rw [List.foldlM_cons];cases plusV s (term p) <;> rfl
noncomputable def sumC {α : Type} (f : α → Cq) : List α → Cq
 | [] => Cq.zero
 | a :: l => (f a).add (sumC f l)
theorem Cq.add_zero' (z : Cq) : z.add Cq.zero = z:=Cq.ext (by simp only [Cq.add,Cq.zero];grind) (by simp only [Cq.add,Cq.zero];grind)
theorem Cq.zero_add' (z : Cq) : Cq.zero.add z = z:=Cq.ext (by simp only [Cq.add,Cq.zero];grind) (by simp only [Cq.add,Cq.zero];grind)
theorem Cq.add_assoc' (a b c : Cq) : (a.add b).add c = a.add (b.add c):=Cq.ext (by simp only [Cq.add];grind) (by simp only [Cq.add];grind)
theorem dotS_val : ∀ (L : List (Ck × Ck)) {s k : Ck},dotS L s = some k → k.val = s.val.add (sumC term L) ∧ (s.ok → k.ok)
 | [],s,k,h => by cases h;exact ⟨(Cq.add_zero' _).symm,id⟩
 | p :: L,s,k,h => by
  have e : dotS (p :: L) s = (plusV s (term p)).bind (dotS L):=by
   have:=dotS_append [p] L s
   rw [dotS_one] at this
   exact this
  rw [e] at h
  obtain ⟨q,a1,a2⟩:=Option.bind_eq_some_iff.1 h
  obtain ⟨h1,h2⟩:=dotS_val L a2
  obtain ⟨w1,w2⟩:=plusV_ok a1
  refine ⟨?_,fun _ => h2 w1⟩
  rw [h1,w2,Cq.add_assoc']
  rfl
theorem zip_take {v w : List Ck} {i : Int} (i0 : 0 ≤ i) (i1 : i < v.length) (i2 : i < w.length) : (v.zip w).take (i + 1).toNat = (v.zip w).take i.toNat ++ [(gt v i,gt w i)]:=by
 have e : (i + 1).toNat = i.toNat + 1:=by omega
 rw [e,List.take_add_one,List.getElem?_eq_getElem (by rw [List.length_zip];omega),List.getElem_zip]
 unfold gt
 rw [List.getD_eq_getElem?_getD,List.getD_eq_getElem?_getD,List.getElem?_eq_getElem (by omega),List.getElem?_eq_getElem (by omega)]
 rfl
theorem isC_conj {a b d : Int} {z : Cq} (h : isC a b d z) : isC a (-b) d z.conj:=by
 refine ⟨h.d1,h.d2,h.a1,h.a2,by have:=h.b2;omega,by have:=h.b1;omega,?_,h.re,?_⟩
 ·have : Int.gcd a (-b) = Int.gcd a b:=Int.gcd_neg
  rw [this];exact h.g
 ·show ((-b : Int) : Rat) = -z.im * (d : Rat)
  rw [Rat.intCast_neg,h.im];grind
variable {F : Prims} {call head arith cmp scmp bnot bsame conv neg imax imin ofNat slen place inR nz geZ rd wr push next mkOK nat zeros sadd eqAgg cut slc sslc strAt part app cpy putAt fresh lowered bump wrote addN lt ne fpAll brk yn rng mget mput mnew bytes clr : _} (hA : AP F ⟨call,head,arith,cmp,scmp,bnot,bsame,conv,neg,imax,imin,ofNat,slen,place,inR,nz,geZ,rd,wr,push,next,mkOK,nat,zeros,sadd,eqAgg,cut,slc,sslc,strAt,part,app,cpy,putAt,fresh,lowered,bump,wrote,addN,lt,ne,fpAll,brk,yn,rng,mget,mput,mnew,bytes,clr⟩)
include hA
theorem kaddC_ok {h : AHeap} (hlow : h.low ≤ h.next) {s : Ck} (hs : s.ok) {a b d a' b' d' : Int} {z w : Cq} (hz : isC a b d z) (hw : isC a' b' d' w) {Q : Value → AHeap → Prop}
  (hQ : ∀ r t u e h',OutK (plusV s (z.mul w)) r t u e → Ext h h' → Q (.tuple #[.agg #[.int .i64 r,.int .i64 t,.int .i64 u],.int .i64 e]) h') :
  call 41 [.agg #[.int .i64 s.a,.int .i64 s.b,.int .i64 s.d],.agg #[.int .i64 a,.int .i64 b,.int .i64 d],.agg #[.int .i64 a',.int .i64 b',.int .i64 d']] h Q:=by
 refine hA.bodyR Try.func41 r41_ok (hA.alike _ _ _ rfl) hlow (zc ?_)
 refine cmul_ok hA hlow (fun r t u e h1 k1 x1 => ⟨_,_,_,_,rfl,?_⟩)
 have k1:=outK_of (k1.is hz hw)
 refine zc ?_
 refine br (e ≠ 0) (by rw [e_neq hA]) (fun c => ?_) (fun c => ?_) <;> refine zc ?_
 ·rcases k1 with ⟨_,_,_,_,_,q⟩ | ⟨q,_,_,_,q2⟩
  ·exact absurd q c
  ·rw [q2]
   exact hQ _ _ _ _ h1 (.inr ⟨by unfold plusV;rw [q];rfl,rfl,rfl,rfl,rfl⟩) x1
 rcases k1 with ⟨p,q,rfl,rfl,rfl,_⟩ | ⟨_,_,_,_,q⟩
 rotate_left
 ·omega
 have pk:=mkCk_some.1 q
 refine cadd_ok hA (x1.lowOK hlow) (fun r t u e h2 k2 x2 => ⟨_,_,_,_,rfl,?_⟩)
 have k2:=outK_of (k2.is hs.is pk)
 refine zc ?_
 refine hQ r t u e h2 ?_ (x1.trans x2)
 unfold plusV
 rw [q]
 show OutK (mkCk (s.val.add p.val)) r t u e
 rw [pk.val]
 exact k2
set_option maxHeartbeats 1000000 in
theorem dot_loop {h0 : AHeap} (hlow : h0.low ≤ h0.next) {va wa : Option Addr} {N vc wc : Nat} {v w : List Ck} (hv : Cs h0 va N v) (hw : Cs h0 wa N w) (okv : ValidL v) (okw : ValidL w) (hN : N ≤ 64) {NN : Int} (hNN : NN = N) {Q : Exit → SS → Prop}
  (hbad : ∀ h' e K,dotS (v.zip w) zeroK = none → Ext h0 h' → Q .ret ⟨(5,.int .i64 16) :: (65,.int .i64 16) :: (64,.agg #[.int .i64 0,.int .i64 0,.int .i64 0]) :: (4,.pointer (some ⟨0,0,some 0⟩)) :: e,4,(0,[.int .i64 0,.int .i64 0,.int .i64 0]) :: K,h'⟩)
  (hok : ∀ h' s,dotS (v.zip w) zeroK = some s → s.ok → Ext h0 h' → Q (.exit 0) ⟨[(4,.pointer (some ⟨0,0,some 0⟩)),(6,.pointer (some ⟨1,0,some 0⟩))],2,[(0,[.int .i64 0,.int .i64 0,.int .i64 0]),(1,[.int .i64 s.a,.int .i64 s.b,.int .i64 s.d])],h'⟩) :
  ∀ (m : Nat) (i : Int) (h : AHeap) (s : Ck),(N - i).toNat ≤ m → 0 ≤ i → i ≤ N → dotS ((v.zip w).take i.toNat) zeroK = some s → s.ok → Ext h0 h →
   head 31 9 2 ⟨[(1,.slice wa N wc),(4,.pointer (some ⟨0,0,some 0⟩)),(6,.pointer (some ⟨1,0,some 0⟩)),(36,.slice va N vc),(37,.int .i64 NN),(38,.int .i64 i)],2,[(0,[.int .i64 0,.int .i64 0,.int .i64 0]),(1,[.int .i64 s.a,.int .i64 s.b,.int .i64 s.d])],h⟩ Q:=by
 have lv:=hv.len
 have lw:=hw.len
 intro m
 induction m with
 | zero =>
  intro i h s hm i0 i1 hr hs' he
  refine hA.roundR Try.func31 r31_ok (zc ?_)
  refine br (i < NN) (by rw [e_lss hA]) (fun q => by omega) (fun _ => ?_) <;> refine zc ?_
  rw [List.take_of_length_le (by rw [List.length_zip];omega)] at hr
  exact hok h s hr hs' he
 | succ m ih =>
 intro i h s hm i0 i1 hr hs' he
 by_cases ci : i < N
 rotate_left
 ·refine hA.roundR Try.func31 r31_ok (zc ?_)
  refine br (i < NN) (by rw [e_lss hA]) (fun q => by omega) (fun _ => ?_) <;> refine zc ?_
  rw [List.take_of_length_le (by rw [List.length_zip];omega)] at hr
  exact hok h s hr hs' he
 obtain ⟨bv,ov,v1,v2,v3,ea,lv',hgv,rv1⟩:=cs_at (hv.ext he) (i:=i) i0 ci
 cases ea
 have rv1:=rd_ok hA rv1
 obtain ⟨bw,ow,w1,w2,w3,eb,lw',hgw,rw1⟩:=cs_at (hw.ext he) (i:=i) i0 ci
 cases eb
 have rw1:=rd_ok hA rw1
 have kv0:=(okv i i0 (by omega)).is
 have kw0:=(okw i i0 (by omega)).is
 have kv : isC v1 v2 v3 (gt v i).val:=by rw [hgv] at kv0 ⊢;exact kv0
 have kw : isC w1 w2 w3 (gt w i).val:=by rw [hgw] at kw0 ⊢;exact kw0
 refine hA.roundR Try.func31 r31_ok (zc ?_)
 refine br (i < NN) (by rw [e_lss hA]) (fun _ => ?_) (fun q => by omega) <;> refine zc ?_
 refine zq ?_
 refine cconj_ok hA (he.lowOK hlow) (fun r t u e h1 k1 x1 => ⟨_,_,_,_,rfl,?_⟩)
 have y1:=he.trans x1
 have kk : isC r t u (gt w i).val.conj ∧ e = 0:=by
  rcases k1 with ⟨q,_⟩ | ⟨_,rfl,rfl,rfl,rfl⟩
  ·exact absurd ⟨_,kw⟩ q
  ·exact ⟨isC_conj kw,rfl⟩
 obtain ⟨kc,rfl⟩:=kk
 refine zc ?_
 refine br False (by rw [e_neq hA];rfl) (fun q => q.elim) (fun _ => ?_) <;> refine zc ?_
 refine kaddC_ok hA (y1.lowOK hlow) hs' kv kc (fun r' t' u' e h2 k2 x2 => ⟨_,_,_,_,rfl,?_⟩)
 have y2:=y1.trans x2
 refine zc ?_
 have tk:=zip_take (v:=v) (w:=w) i0 (by omega) (by omega)
 have stepE : dotS [(gt v i,gt w i)] s = plusV s ((gt v i).val.mul (gt w i).val.conj):=dotS_one _ _
 have eqk : ∃ rest,v.zip w = (v.zip w).take i.toNat ++ (gt v i,gt w i) :: rest:=⟨(v.zip w).drop (i + 1).toNat,by
  rw [List.append_cons,← tk,List.take_append_drop]⟩
 rcases k2 with ⟨q,hq,rfl,rfl,rfl,rfl⟩ | ⟨hq,rfl,rfl,rfl,rfl⟩
 rotate_left
 ·refine br True (by rw [e_neq hA];rfl) (fun _ => ?_) (fun q => absurd trivial q) <;> refine zc ?_
  refine hbad h2 _ _ ?_ y2
  obtain ⟨rest,hrest⟩:=eqk
  rw [hrest,List.append_cons,dotS_append,dotS_append,hr]
  show ((dotS [_] s).bind _) = none
  rw [stepE,hq]
  rfl
 refine br False (by rw [e_neq hA];rfl) (fun q => q.elim) (fun _ => ?_) <;> refine zc ?_
 rw [add64 hA (by omega) (by omega)]
 refine ih (i + 1) h2 q (by omega) (by omega) (by omega) ?_ (plusV_ok hq).1 y2
 rw [tk,dotS_append,hr]
 show dotS [_] s = _
 rw [stepE,hq]
theorem dot_ok {h : AHeap} (hlow : h.low ≤ h.next) {va wa : Option Addr} {N vc wc : Nat} {v w : List Ck} (hv : Cs h va N v) (hw : Cs h wa N w) (okv : ValidL v) (okw : ValidL w) (hN : N ≤ 64) {Q : Value → AHeap → Prop}
  (hQ : ∀ r t u e h',OutK (dotS (v.zip w) zeroK) r t u e → Ext h h' → Q (.tuple #[.agg #[.int .i64 r,.int .i64 t,.int .i64 u],.int .i64 e]) h') :
  call 31 [.slice va N vc,.slice wa N wc] h Q:=by
 refine hA.bodyR Try.func31 r31_ok (hA.alike _ _ _ rfl) hlow (zc ?_)
 refine br (64 < (N : Int)) (by rw [e_gtr hA,e_ofNat hA]) (fun q => by omega) (fun _ => ?_) <;> refine zc ?_
 refine br (64 < (N : Int)) (by rw [e_gtr hA,e_ofNat hA]) (fun q => by omega) (fun _ => ?_) <;> refine zc ?_
 refine br ((N : Int) ≠ N) (by rw [e_neq hA,e_ofNat hA]) (fun q => absurd rfl q) (fun _ => ?_) <;> refine zc ?_
 refine kvalid_ok hA hlow hv (by omega) (fun r h1 k1 x1 => ⟨_,rfl,?_⟩)
 obtain rfl : r = true:=k1.2 okv
 refine zc ?_
 rw [show bnot true = false by rw [e_bnot hA];rfl]
 refine zc ?_
 refine kvalid_ok hA (x1.lowOK hlow) (hw.ext x1) (by omega) (fun r h2 k2 x2 => ⟨_,rfl,?_⟩)
 obtain rfl : r = true:=k2.2 okw
 have y2:=x1.trans x2
 refine zc ?_
 rw [show bnot true = false by rw [e_bnot hA];rfl]
 refine zc ?_
 rw [e_ofNat hA]
 refine dot_loop hA (y2.lowOK hlow) (hv.ext y2) (hw.ext y2) okv okw hN rfl (fun h' e K hd x' => ?_) (fun h' s hd oks x' => ?_) N 0 h2 zeroK (by omega) (by omega) (by omega) rfl zeroK_ok (.refl h2)
 ·refine zc ?_
  exact hQ _ _ _ _ h' (.inr ⟨hd,rfl,rfl,rfl,rfl⟩) (y2.trans x')
 ·refine zc ?_
  exact hQ _ _ _ _ h' (.inl ⟨s,hd,rfl,rfl,rfl,rfl⟩) (y2.trans x')
end Go.Proofs.Ytkbgkjlgnmlghaa
