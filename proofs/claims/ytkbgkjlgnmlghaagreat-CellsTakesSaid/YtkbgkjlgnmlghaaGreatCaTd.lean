import Derived.Test.YtkbgkjlgnmlghaaGreatCaTb
set_option linter.unusedSimpArgs false
set_option linter.unusedVariables false
namespace Go.Proofs.YtkbgkjlgnmlghaaGreat
open Go.Sim
set_option linter.unusedVariables false
set_option maxRecDepth 100000
variable {F : Prims} {call head arith cmp scmp bnot bsame conv neg imax imin ofNat slen place inR nz geZ rd wr push next mkOK nat zeros sadd eqAgg cut slc sslc strAt part app cpy putAt fresh lowered bump wrote addN lt ne fpAll fpApp brk yn rng mget mput mnew bytes clr : _} (hA : AP F ⟨call,head,arith,cmp,scmp,bnot,bsame,conv,neg,imax,imin,ofNat,slen,place,inR,nz,geZ,rd,wr,push,next,mkOK,nat,zeros,sadd,eqAgg,cut,slc,sslc,strAt,part,app,cpy,putAt,fresh,lowered,bump,wrote,addN,lt,ne,fpAll,fpApp,brk,yn,rng,mget,mput,mnew,bytes,clr⟩)
include hA
set_option maxHeartbeats 1000000 in
theorem rdot_loop {h0 : AHeap} (hlow : h0.low ≤ h0.next) {va wa : Option Addr} {N vc wc : Nat} {v w : List Ck} (hv : Cs h0 va N v) (hw : Cs h0 wa N w) (okv : ValidL v) (okw : ValidL w) (hN : N ≤ 64) {Q : Exit → SS → Prop}
  (hbad : ∀ h' e K,dotS (v.zip w) zeroK = none → Ext h0 h' → Q .ret ⟨(5,.int .i64 16) :: (63,.int .i64 16) :: (62,.agg #[.int .i64 0,.int .i64 0,.int .i64 0]) :: (4,.pointer (some ⟨0,0,some 0⟩)) :: e,15,(0,[.int .i64 0,.int .i64 0,.int .i64 0]) :: K,h'⟩)
  (hbad2 : ∀ h' e K,dotS (v.zip w) zeroK = none → Ext h0 h' → Q .ret ⟨(5,.int .i64 16) :: (73,.int .i64 16) :: (72,.agg #[.int .i64 0,.int .i64 0,.int .i64 0]) :: (4,.pointer (some ⟨0,0,some 0⟩)) :: e,15,(0,[.int .i64 0,.int .i64 0,.int .i64 0]) :: K,h'⟩)
  (hok : ∀ h' s,dotS (v.zip w) zeroK = some s → s.ok → Ext h0 h' → Q (.exit 0) ⟨[(4,.pointer (some ⟨0,0,some 0⟩)),(6,.pointer (some ⟨1,0,some 0⟩))],2,[(0,[.int .i64 0,.int .i64 0,.int .i64 0]),(1,[.int .i64 s.a,.int .i64 s.b,.int .i64 s.d])],h'⟩) :
  ∀ (m : Nat) (i : Int) (h : AHeap) (s : Ck),(N - i).toNat ≤ m → 0 ≤ i → i ≤ N → dotS ((v.zip w).take i.toNat) zeroK = some s → s.ok → Ext h0 h →
   head 9 9 2 ⟨[(0,.slice va N vc),(1,.slice wa N wc),(4,.pointer (some ⟨0,0,some 0⟩)),(6,.pointer (some ⟨1,0,some 0⟩)),(7,.int .i64 i)],2,[(0,[.int .i64 0,.int .i64 0,.int .i64 0]),(1,[.int .i64 s.a,.int .i64 s.b,.int .i64 s.d])],h⟩ Q:=by
 have lv:=hv.len
 have lw:=hw.len
 intro m
 induction m with
 | zero =>
  intro i h s hm i0 i1 hr hs' he
  refine hA.roundR Tryz.func9 r9_ok (zc ?_)
  refine br (i < N) (by rw [e_lss hA,e_ofNat hA]) (fun q => by omega) (fun _ => ?_) <;> refine zc ?_
  rw [List.take_of_length_le (by rw [List.length_zip];omega)] at hr
  exact hok h s hr hs' he
 | succ m ih =>
 intro i h s hm i0 i1 hr hs' he
 by_cases ci : i < N
 rotate_left
 ·refine hA.roundR Tryz.func9 r9_ok (zc ?_)
  refine br (i < N) (by rw [e_lss hA,e_ofNat hA]) (fun q => by omega) (fun _ => ?_) <;> refine zc ?_
  rw [List.take_of_length_le (by rw [List.length_zip];omega)] at hr
  exact hok h s hr hs' he
 obtain ⟨bv,ov,v1,v2,v3,ea,lv',hgv,rv1⟩:=cs_at (hv.ext he) (i:=i) i0 ci
 cases ea
 have rv1:=rd_ok hA rv1
 obtain ⟨bw,ow,w1,w2,w3,eb,lw',hgw,rw1⟩:=cs_at (hw.ext he) (i:=i) i0 ci
 cases eb
 have rw1:=rd_ok hA rw1
 have kv0:=(okv i i0 (by omega)).is
 have kw0:=(okw i i0 (by omega)).is
 have kv : isC v1 v2 v3 (gt v i).val:=by rw [hgv] at kv0 ⊢;exact kv0
 have kw : isC w1 w2 w3 (gt w i).val:=by rw [hgw] at kw0 ⊢;exact kw0
 refine hA.roundR Tryz.func9 r9_ok (zc ?_)
 refine br (i < N) (by rw [e_lss hA,e_ofNat hA]) (fun _ => ?_) (fun q => by omega) <;> refine zc ?_
 refine zq ?_
 refine rcconj_ok hA (he.lowOK hlow) (fun r t u e h1 k1 x1 => ⟨_,_,_,_,rfl,?_⟩)
 have y1:=he.trans x1
 have kk : isC r t u (gt w i).val.conj ∧ e = 0:=by
  rcases k1 with ⟨q,_⟩ | ⟨_,rfl,rfl,rfl,rfl⟩
  ·exact absurd ⟨_,kw⟩ q
  ·exact ⟨isC_conj kw,rfl⟩
 obtain ⟨kc,rfl⟩:=kk
 obtain ⟨bv,ov,v1',v2',v3',ea,lv',hgv',rv2⟩:=cs_at (hv.ext y1) (i:=i) i0 ci
 cases ea
 rw [hgv] at hgv'
 cases hgv'
 obtain ⟨h9,hh9⟩ : ∃ z,z = bump h1 12:=⟨_,rfl⟩
 have x9 : Ext h1 h9:=by rw [hh9];exact ext_bump hA _ _
 have e9:=y1.trans x9
 have l9:=e9.lowOK hlow
 obtain ⟨bv,ov,v1',v2',v3',ea,lv9,hgv',rv3⟩:=cs_at (hv.ext e9) (i:=i) i0 ci
 cases ea
 rw [hgv] at hgv'
 cases hgv'
 have rv2:=rd_ok hA rv2
 have rv3:=rd_ok hA rv3
 refine zq ?_
 rw [← hh9]
 refine zq ?_
 refine rcmul_ok hA (low_fresh hA h9) (fun r' t' u' e hz k2 ez => ⟨_,_,_,_,rfl,?_⟩)
 have k2:=outK_of (k2.is kv kc)
 obtain ⟨hX,hhX⟩ : ∃ z,z = lowered h9 hz:=⟨_,rfl⟩
 have eX : Ext h9 hX:=by rw [hhX];exact ext_low hA l9 (.refl h9) ez
 have yX:=e9.trans eX
 refine zc ?_
 rw [← hhX]
 refine ⟨ne_ok hA (by omega),wrote_no hA ez,?_⟩
 refine zc ?_
 have tk:=zip_take (v:=v) (w:=w) i0 (by omega) (by omega)
 have stepE : dotS [(gt v i,gt w i)] s = plusV s ((gt v i).val.mul (gt w i).val.conj):=dotS_one _ _
 have eqk : ∃ rest,v.zip w = (v.zip w).take i.toNat ++ (gt v i,gt w i) :: rest:=⟨(v.zip w).drop (i + 1).toNat,by
  rw [List.append_cons,← tk,List.take_append_drop]⟩
 have fail : plusV s ((gt v i).val.mul (gt w i).val.conj) = none → dotS (v.zip w) zeroK = none:=fun q => by
  obtain ⟨rest,hrest⟩:=eqk
  rw [hrest,List.append_cons,dotS_append,dotS_append,hr]
  show ((dotS [_] s).bind _) = none
  rw [stepE,q]
  rfl
 rcases k2 with ⟨p,hp,rfl,rfl,rfl,rfl⟩ | ⟨hp,rfl,rfl,rfl,rfl⟩
 rotate_left
 ·refine br True (by rw [e_neq hA];rfl) (fun _ => ?_) (fun q => absurd trivial q) <;> refine zc ?_
  exact hbad hX _ _ (fail (by unfold plusV;rw [hp];rfl)) yX
 refine br False (by rw [e_neq hA];rfl) (fun q => q.elim) (fun _ => ?_) <;> refine zc ?_
 have pk:=mkCk_some.1 hp
 refine rcadd_ok hA (yX.lowOK hlow) (fun r' t' u' e h2 k2 x2 => ⟨_,_,_,_,rfl,?_⟩)
 have k2:=outK_of (k2.is hs'.is pk)
 have y2:=yX.trans x2
 have eP : plusV s ((gt v i).val.mul (gt w i).val.conj) = mkCk (s.val.add ((gt v i).val.mul (gt w i).val.conj)):=by
  unfold plusV;rw [hp];show mkCk (s.val.add p.val) = _;rw [pk.val]
 refine zc ?_
 rcases k2 with ⟨q,hq,rfl,rfl,rfl,rfl⟩ | ⟨hq,rfl,rfl,rfl,rfl⟩
 rotate_left
 ·refine br True (by rw [e_neq hA];rfl) (fun _ => ?_) (fun q => absurd trivial q) <;> refine zc ?_
  exact hbad2 h2 _ _ (fail (eP.trans hq)) y2
 refine br False (by rw [e_neq hA];rfl) (fun q => q.elim) (fun _ => ?_) <;> refine zc ?_
 have hq:=eP.trans hq
 rw [add64 hA (by omega) (by omega)]
 refine ih (i + 1) h2 q (by omega) (by omega) (by omega) ?_ (plusV_ok hq).1 y2
 rw [tk,dotS_append,hr]
 show dotS [_] s = _
 rw [stepE,hq]
theorem rdot_gen {h : AHeap} (hlow : h.low ≤ h.next) {va wa : Option Addr} {N M vc wc : Nat} {v w : List Ck} (hv : Cs h va N v) (hw : Cs h wa M w) (hN : N ≤ 80) (hM : M ≤ 80) {Q : Value → AHeap → Prop}
  (hQ : ∀ r t u e h',DotIs v w r t u e → Ext h h' → Q (.tuple #[.agg #[.int .i64 r,.int .i64 t,.int .i64 u],.int .i64 e]) h') :
  call 9 [.slice va N vc,.slice wa M wc] h Q:=by
 have lv:=hv.len
 have lw:=hw.len
 refine hA.bodyR Tryz.func9 r9_ok (hA.alike _ _ _ rfl) hlow (zc ?_)
 refine br (64 < (N : Int)) (by rw [e_gtr hA,e_ofNat hA]) (fun q => ?_) (fun q => ?_) <;> refine zc ?_
 ·exact hQ 0 0 0 4 h (.inl ⟨.inl (by omega),rfl,rfl,rfl,rfl⟩) (.refl h)
 refine br (64 < (M : Int)) (by rw [e_gtr hA,e_ofNat hA]) (fun q' => ?_) (fun q' => ?_) <;> refine zc ?_
 ·exact hQ 0 0 0 4 h (.inl ⟨.inr (by omega),rfl,rfl,rfl,rfl⟩) (.refl h)
 have few : v.length ≤ 64 ∧ w.length ≤ 64:=by omega
 refine br ((N : Int) ≠ M) (by rw [e_neq hA,e_ofNat hA,e_ofNat hA]) (fun q => ?_) (fun q => ?_) <;> refine zc ?_
 ·exact hQ 0 0 0 2 h (.inr (.inl ⟨few,by omega,rfl,rfl,rfl,rfl⟩)) (.refl h)
 obtain rfl : N = M:=by omega
 have same : v.length = w.length:=by omega
 refine rvalid_ok hA hlow hv (by omega) (fun r h1 k1 x1 => ⟨_,rfl,?_⟩)
 cases r with
 | false =>
  refine zc ?_
  rw [show bnot false = true by rw [e_bnot hA];rfl]
  refine zc ?_
  exact hQ 0 0 0 8 h1 (.inr (.inr (.inl ⟨few,same,(fun z => by have:=k1.2 z.1;cases this),rfl,rfl,rfl,rfl⟩))) x1
 | true =>
 have okv:=k1.1 rfl
 refine zc ?_
 rw [show bnot true = false by rw [e_bnot hA];rfl]
 refine zc ?_
 refine rvalid_ok hA (x1.lowOK hlow) (hw.ext x1) (by omega) (fun r h2 k2 x2 => ⟨_,rfl,?_⟩)
 have y2:=x1.trans x2
 cases r with
 | false =>
  refine zc ?_
  rw [show bnot false = true by rw [e_bnot hA];rfl]
  refine zc ?_
  exact hQ 0 0 0 8 h2 (.inr (.inr (.inl ⟨few,same,(fun z => by have:=k2.2 z.2;cases this),rfl,rfl,rfl,rfl⟩))) y2
 | true =>
 have okw:=k2.1 rfl
 refine zc ?_
 rw [show bnot true = false by rw [e_bnot hA];rfl]
 refine zc ?_
 refine rdot_loop hA (y2.lowOK hlow) (hv.ext y2) (hw.ext y2) okv okw (by omega) (fun h' e K hd x' => ?_) (fun h' e K hd x' => ?_) (fun h' s hd oks x' => ?_) N 0 h2 zeroK (by omega) (by omega) (by omega) rfl zeroK_ok (.refl h2)
 ·refine zc ?_
  exact hQ _ _ _ _ h' (.inr (.inr (.inr ⟨few,same,⟨okv,okw⟩,.inr ⟨hd,rfl,rfl,rfl,rfl⟩⟩))) (y2.trans x')
 ·refine zc ?_
  exact hQ _ _ _ _ h' (.inr (.inr (.inr ⟨few,same,⟨okv,okw⟩,.inr ⟨hd,rfl,rfl,rfl,rfl⟩⟩))) (y2.trans x')
 ·refine zc ?_
  exact hQ _ _ _ _ h' (.inr (.inr (.inr ⟨few,same,⟨okv,okw⟩,.inl ⟨s,hd,rfl,rfl,rfl,rfl⟩⟩))) (y2.trans x')
end Go.Proofs.YtkbgkjlgnmlghaaGreat
