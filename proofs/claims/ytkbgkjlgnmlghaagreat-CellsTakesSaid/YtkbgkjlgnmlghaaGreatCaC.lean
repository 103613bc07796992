import Derived.Test.YtkbgkjlgnmlghaaGreatCaB
set_option linter.unusedSimpArgs false
set_option linter.unusedVariables false
namespace Go.Proofs.YtkbgkjlgnmlghaaGreat
open Go.Sim
set_option linter.unusedVariables false
set_option maxRecDepth 100000
def mkP (x y : Int) (w : Rat) : Pk:=⟨x,y,w.num,w.den⟩
def cand (n : Int) (s : Sk) (i j : Int) : List Pk:=if wQ s.un s.ud i * wQ s.vn s.vd j = 0 then [] else [mkP ((s.un / s.ud + i) % n) ((s.vn / s.vd + j) % n) (wQ s.un s.ud i * wQ s.vn s.vd j)]
def cands (n : Int) (s : Sk) : List Pk:=cand n s 0 0 ++ cand n s 1 0 ++ cand n s 0 1 ++ cand n s 1 1
theorem rq_pos {n d : Int} (hn : 0 < n) (hd : 0 < d) : 0 < rq n d:=by
 unfold rq
 rw [Rat.div_def]
 exact Rat.mul_pos (Rat.intCast_pos.2 hn) (Rat.inv_pos.2 (Rat.intCast_pos.2 hd))
theorem cands_ne {n un ud vn vd : Int} (cu : Coord n un ud) (cv : Coord n vn vd) : cands n ⟨un,ud,vn,vd⟩ ≠ []:=by
 have r1:=cu.rem;have k1:=cu.k1;have r2:=cv.rem;have k2:=cv.k1
 unfold cands cand wQ
 simp only [if_true]
 have h1 : 0 < rq (ud - un % ud) ud:=rq_pos (by omega) (by omega)
 have h2 : 0 < rq (vd - vn % vd) vd:=rq_pos (by omega) (by omega)
 have h3:=Rat.mul_pos h1 h2
 rw [if_neg (by grind)]
 simp
variable {F : Prims} {call head arith cmp scmp bnot bsame conv neg imax imin ofNat slen place inR nz geZ rd wr push next mkOK nat zeros sadd eqAgg cut slc sslc strAt part app cpy putAt fresh lowered bump wrote addN lt ne fpAll fpApp brk yn rng mget mput mnew bytes clr : _} (hA : AP F ⟨call,head,arith,cmp,scmp,bnot,bsame,conv,neg,imax,imin,ofNat,slen,place,inR,nz,geZ,rd,wr,push,next,mkOK,nat,zeros,sadd,eqAgg,cut,slc,sslc,strAt,part,app,cpy,putAt,fresh,lowered,bump,wrote,addN,lt,ne,fpAll,fpApp,brk,yn,rng,mget,mput,mnew,bytes,clr⟩)
include hA
theorem parts_step {h8 : AHeap} (hlow : h8.low ≤ h8.next) {n i j x y : Int} {s : Sk} (cu : Coord n s.un s.ud) (cv : Coord n s.vn s.vd) (hx : x = s.un / s.ud) (hy : y = s.vn / s.vd) (hi : 0 ≤ i ∧ i < 2) (hj : 0 ≤ j ∧ j < 2) {pb qb : Nat} {p1 p2 q1 q2 : Int}
  (hp : isF p1 p2 (wQ s.un s.ud i) ∧ ∀ h',Ext h8 h' → rd h' pb (place 0 i 2) 2 [.int .i64 p1,.int .i64 p2]) (hq : isF q1 q2 (wQ s.vn s.vd j) ∧ ∀ h',Ext h8 h' → rd h' qb (place 0 j 2) 2 [.int .i64 q1,.int .i64 q2])
  (hb : (0 ≤ p1 ∧ p1 ≤ 6 ∧ p2 ≤ 6) ∧ 0 ≤ q1 ∧ q1 ≤ 6 ∧ q2 ≤ 6) {L : List Pk} (hL : L.length ≤ 100) {a : Option Addr} {N c : Nat} {h : AHeap} (ha : Apd h 4 a N c (L.flatMap Pk.cells)) (hf : From h8.next a) (he : Ext h8 h) {k0 : List Value} {Q : Exit → SS → Prop}
  (hQ : ∀ h' a' c' N',Apd h' 4 a' N' c' ((L ++ cand n s i j).flatMap Pk.cells) → From h8.next a' → Ext h8 h' →
   head 15 15 1 ⟨[(0,.int .i64 n),(7,.int .i64 x),(8,.pointer (some ⟨pb,0,none⟩)),(10,.int .i64 y),(11,.pointer (some ⟨qb,0,none⟩)),(12,.slice a' N' c'),(13,.int .i64 j),(44,.int .i64 j),(47,.int .i64 (i + 1))],1,[(0,k0)],h'⟩ Q) :
  head 15 15 1 ⟨[(0,.int .i64 n),(7,.int .i64 x),(8,.pointer (some ⟨pb,0,none⟩)),(10,.int .i64 y),(11,.pointer (some ⟨qb,0,none⟩)),(12,.slice a N c),(13,.int .i64 j),(44,.int .i64 j),(47,.int .i64 i)],1,[(0,k0)],h⟩ Q:=by
 obtain ⟨h9,hh9⟩ : ∃ z,z = bump h 13:=⟨_,rfl⟩
 have x9 : Ext h h9:=by rw [hh9];exact ext_bump hA _ _
 have e9:=he.trans x9
 have l9:=e9.lowOK hlow
 have r1:=hp.2 h9 e9
 have r2:=hq.2 h9 e9
 refine hA.roundR Tryz.func15 r15_ok (zc ?_)
 refine br (i < 2) (by rw [e_lss hA]) (fun _ => ?_) (fun q => by omega) <;> refine zc ?_
 rw [← hh9]
 refine zq ?_
 have hw : fits (wQ s.un s.ud i * wQ s.vn s.vd j):=by
  have b1 : bnd (wQ s.un s.ud i) 6 6:=⟨by have:=hp.1.1;omega,by have:=hp.1.2.1;omega⟩
  have b2 : bnd (wQ s.vn s.vd j) 6 6:=⟨by have:=hq.1.1;omega,by have:=hq.1.2.1;omega⟩
  exact (b1.mul b2).fits (by omega) (by omega)
 refine mul_ok hA (low_fresh hA h9) hp.1.i64n hp.1.i64d hq.1.i64n hq.1.i64d (fun w1 w2 e k2 hz ez => ⟨_,_,_,rfl,?_⟩)
 obtain ⟨kk,rfl⟩:=opIs_of hp.1 hq.1 hw k2
 obtain ⟨hX,hhX⟩ : ∃ z,z = lowered h9 hz:=⟨_,rfl⟩
 have eX : Ext h9 hX:=by rw [hhX];exact ext_low hA l9 (.refl h9) ez
 have yX:=e9.trans eX
 have lX:=yX.lowOK hlow
 refine zc ?_
 rw [← hhX]
 refine zq ?_
 refine br False (by rw [e_neq hA];rfl) (fun q => q.elim) (fun _ => ?_) <;> refine zc ?_
 have aX:=ha.ext (x9.trans eX)
 have hN:=Apd.cells ha |>.length
 rw [flatE_len pk_len] at hN
 have nz0 : w1 = 0 ↔ wQ s.un s.ud i * wQ s.vn s.vd j = 0:=by rw [kk.1];exact Rat.num_eq_zero
 have n0:=cu.n0
 have n1:=cu.n1
 have X:=cu.x
 have Y:=cv.x
 rw [← hx] at X
 rw [← hy] at Y
 refine br (w1 ≠ 0) (by rw [e_neq hA]) (fun c1 => ?_) (fun c1 => ?_) <;> refine zc ?_
 rotate_left
 ·rw [add64 hA (by omega) (by omega)]
  refine hQ hX a c N ?_ hf yX
  unfold cand
  rw [if_pos (nz0.1 (by omega)),List.append_nil]
  exact aX
 obtain ⟨h10,hh10⟩ : ∃ z,z = bump hX 16:=⟨_,rfl⟩
 have m1 : arith .add .i64 x i = x + i:=add64 hA (by omega) (by omega)
 have m2 : arith .rem .i64 (x + i) n = (x + i) % n:=rem64 hA (by omega)
 have m3 : arith .add .i64 y j = y + j:=add64 hA (by omega) (by omega)
 have m4 : arith .rem .i64 (y + j) n = (y + j) % n:=rem64 hA (by omega)
 rw [← hh10]
 (refine zq ?_;repeat ((first | rw [m1] | rw [m2] | rw [m3] | rw [m4]);refine zq ?_))
 refine appD_ok hA TP pk_len (by omega) pk_ok hlow yX (by omega) hh10 (v:=⟨(x + i) % n,(y + j) % n,w1,w2⟩) aX hf (by omega) (fun a' c' h' hp' hf' x' => ?_)
 refine zc ?_
 rw [add64 hA (by omega) (by omega)]
 refine hQ _ a' c' (N + 1) ?_ hf' x'
 unfold cand
 rw [if_neg (fun w => c1 (nz0.2 w)),← hx,← hy]
 unfold mkP
 rw [← kk.1,← kk.2.1]
 exact hp'
def InP (h8 : AHeap) (rd : AHeap → Nat → Nat → Nat → List Value → Prop) (place : Nat → Int → Nat → Nat) (pb : Nat) (m k i : Int) : Prop:=
 ∃ p1 p2,(isF p1 p2 (wQ m k i) ∧ ∀ h',Ext h8 h' → rd h' pb (place 0 i 2) 2 [.int .i64 p1,.int .i64 p2]) ∧ 0 ≤ p1 ∧ p1 ≤ 6 ∧ p2 ≤ 6
omit hA in
theorem cand_len (n : Int) (s : Sk) (i j : Int) : (cand n s i j).length ≤ 1:=by unfold cand;split <;> simp
theorem parts_row {h8 : AHeap} (hlow : h8.low ≤ h8.next) {n j x y : Int} {s : Sk} (cu : Coord n s.un s.ud) (cv : Coord n s.vn s.vd) (hx : x = s.un / s.ud) (hy : y = s.vn / s.vd) (hj : 0 ≤ j ∧ j < 2) {pb qb : Nat}
  (hp0 : InP h8 rd place pb s.un s.ud 0) (hp1 : InP h8 rd place pb s.un s.ud 1) (hq : InP h8 rd place qb s.vn s.vd j) {L : List Pk} (hL : L.length ≤ 90) {a : Option Addr} {N c : Nat} {h : AHeap} (ha : Apd h 4 a N c (L.flatMap Pk.cells)) (hf : From h8.next a) (he : Ext h8 h) {k0 : List Value} {Q : Exit → SS → Prop}
  (hQ : ∀ h' a' c' N',Apd h' 4 a' N' c' ((L ++ cand n s 0 j ++ cand n s 1 j).flatMap Pk.cells) → From h8.next a' → Ext h8 h' →
   head 15 12 1 ⟨[(0,.int .i64 n),(7,.int .i64 x),(8,.pointer (some ⟨pb,0,none⟩)),(10,.int .i64 y),(11,.pointer (some ⟨qb,0,none⟩)),(12,.slice a' N' c'),(44,.int .i64 (j + 1))],1,[(0,k0)],h'⟩ Q) :
  head 15 12 1 ⟨[(0,.int .i64 n),(7,.int .i64 x),(8,.pointer (some ⟨pb,0,none⟩)),(10,.int .i64 y),(11,.pointer (some ⟨qb,0,none⟩)),(12,.slice a N c),(44,.int .i64 j)],1,[(0,k0)],h⟩ Q:=by
 obtain ⟨p1,p2,hp0,b0⟩:=hp0
 obtain ⟨p3,p4,hp1,b1⟩:=hp1
 obtain ⟨q1,q2,hq,b2⟩:=hq
 have c0:=cand_len n s 0 j
 refine hA.roundR Tryz.func15 r15_ok (zc ?_)
 refine br (j < 2) (by rw [e_lss hA]) (fun _ => ?_) (fun q => by omega) <;> refine zc ?_
 refine parts_step hA hlow cu cv hx hy (by omega) hj hp0 hq ⟨b0,b2⟩ (by omega) ha hf he (fun h1 a1 c1 N1 ha1 hf1 he1 => ?_)
 refine parts_step hA hlow cu cv hx hy (by omega) hj hp1 hq ⟨b1,b2⟩ (by rw [List.length_append];omega) ha1 hf1 he1 (fun h2 a2 c2 N2 ha2 hf2 he2 => ?_)
 refine hA.roundR Tryz.func15 r15_ok (zc ?_)
 refine br False (by rw [e_lss hA];rfl) (fun q => q.elim) (fun _ => ?_) <;> refine zc ?_
 rw [add64 hA (by omega) (by omega)]
 exact hQ h2 a2 c2 N2 ha2 hf2 he2
theorem parts_ok {h : AHeap} (hlow : h.low ≤ h.next) {n un ud vn vd : Int} (iu : i64 un ∧ i64 ud) (iv : i64 vn ∧ i64 vd) {Q : Value → AHeap → Prop}
  (hbad : ∀ e h',CheckS n [⟨un,ud,vn,vd⟩] e → e ≠ 0 → Ext h h' → Q (.tuple #[.slice none 0 0,.int .i64 e]) h')
  (hok : ∀ b c N L h',CheckS n [⟨un,ud,vn,vd⟩] 0 → Dat h h' b N L → PermOn 0 N (cands n ⟨un,ud,vn,vd⟩) L → SortedOn leP L 0 N → Q (.tuple #[.slice (some ⟨b,0,none⟩) N c,.int .i64 0]) h') :
  call 15 [.int .i64 n,.agg #[.int .i64 un,.int .i64 ud,.int .i64 vn,.int .i64 vd]] h Q:=by
 refine hA.bodyR Tryz.func15 r15_ok (hA.alike _ _ _ rfl) hlow (zc ?_)
 rw [e_next hA,e_push hA]
 have e1:=Ext.push h 4 ([⟨un,ud,vn,vd⟩].flatMap Sk.cells)
 have o1:=Own.push h 4 ([⟨un,ud,vn,vd⟩].flatMap Sk.cells)
 have hs : Sps (h.push 4 ([⟨un,ud,vn,vd⟩].flatMap Sk.cells)) (some ⟨h.next,0,none⟩) 1 [⟨un,ud,vn,vd⟩]:=Own.rows o1 sk_len (by omega) (by simp [AHeap.push])
 have n1 : (h.push 4 ([⟨un,ud,vn,vd⟩].flatMap Sk.cells)).next = h.next + 1:=rfl
 have hall : allS [⟨un,ud,vn,vd⟩]:=fun i i0 i1 => by
  obtain rfl : i = 0:=by simp at i1;omega
  exact ⟨iu.1,iu.2,iv.1,iv.2⟩
 change call 14 [_,.slice (some ⟨h.next,0,none⟩) 1 1] (h.push 4 ([⟨un,ud,vn,vd⟩].flatMap Sk.cells)) _
 generalize h.push 4 ([⟨un,ud,vn,vd⟩].flatMap Sk.cells) = h1 at *
 have l1:=e1.lowOK hlow
 refine kcheck_ok hA l1 hs hall (fun e h2 k2 x2 => ⟨_,rfl,?_⟩)
 have y2:=e1.trans x2
 have l2:=y2.lowOK hlow
 refine zc ?_
 refine br (e ≠ 0) (by rw [e_neq hA]) (fun c => ?_) (fun c => ?_) <;> refine zc ?_
 ·exact hbad e h2 k2 c y2
 obtain rfl : e = 0:=by omega
 obtain ⟨⟨n2,n8⟩,_,hz⟩:=k2.zero
 obtain ⟨cu,cv⟩:=hz 0 (by omega) (by simp)
 have cu : Coord n un ud:=⟨cu,n2,n8⟩
 have cv : Coord n vn vd:=⟨cv,n2,n8⟩
 refine shares_ok hA l2 cu (fun h3 x3 => ⟨_,_,_,_,_,_,rfl,?_⟩)
 have y3:=y2.trans x3
 obtain ⟨x,hx⟩ : ∃ z,z = un / ud:=⟨_,rfl⟩
 obtain ⟨r,hr⟩ : ∃ z,z = un % ud:=⟨_,rfl⟩
 obtain ⟨r',hr'⟩ : ∃ z,z = ud - un % ud:=⟨_,rfl⟩
 rw [← hr',← hx,← hr]
 refine zc ?_
 rw [e_next hA,e_push hA]
 obtain ⟨pb,hpb⟩ : ∃ z,z = h3.next:=⟨_,rfl⟩
 have p4 : Ext h3 (h3.push 4 [.int .i64 0,.int .i64 0,.int .i64 0,.int .i64 0]):=.push _ _ _
 have o4 : Own (h3.push 4 [.int .i64 0,.int .i64 0,.int .i64 0,.int .i64 0]) h3.next 4 [.int .i64 0,.int .i64 0,.int .i64 0,.int .i64 0]:=Own.push _ _ _
 have n4 : (h3.push 4 [.int .i64 0,.int .i64 0,.int .i64 0,.int .i64 0]).next = h3.next + 1:=rfl
 generalize h3.push 4 [.int .i64 0,.int .i64 0,.int .i64 0,.int .i64 0] = h4 at *
 rw [← hpb] at o4 n4 ⊢
 obtain ⟨h5,w5,ow5,wo5⟩:=o4.write (o:=0) (vs:=[.int .i64 r',.int .i64 ud,.int .i64 r,.int .i64 ud]) (by simp)
 replace ow5 : Own h5 pb 4 [.int .i64 r',.int .i64 ud,.int .i64 r,.int .i64 ud]:=ow5
 have q5:=wr_at hA w5
 have y5:=wo5.ext (y3.trans p4) (by have:=y3.next;omega)
 have n5 : h5.next = pb + 1:=by rw [wo5.next];exact n4
 refine zq ?_
 refine br False (by rw [e_neq hA];rfl) (fun q => q.elim) (fun _ => ?_) <;> refine zc ?_
 refine shares_ok hA (y5.lowOK hlow) cv (fun h6 x6 => ⟨_,_,_,_,_,_,rfl,?_⟩)
 have y6:=y5.trans x6
 obtain ⟨y,hy⟩ : ∃ z,z = vn / vd:=⟨_,rfl⟩
 obtain ⟨s,hs'⟩ : ∃ z,z = vn % vd:=⟨_,rfl⟩
 obtain ⟨s',hs''⟩ : ∃ z,z = vd - vn % vd:=⟨_,rfl⟩
 rw [← hs'',← hy,← hs']
 refine zc ?_
 rw [e_next hA,e_push hA]
 obtain ⟨qb,hqb⟩ : ∃ z,z = h6.next:=⟨_,rfl⟩
 have p7 : Ext h6 (h6.push 4 [.int .i64 0,.int .i64 0,.int .i64 0,.int .i64 0]):=.push _ _ _
 have o7 : Own (h6.push 4 [.int .i64 0,.int .i64 0,.int .i64 0,.int .i64 0]) h6.next 4 [.int .i64 0,.int .i64 0,.int .i64 0,.int .i64 0]:=Own.push _ _ _
 have n7 : (h6.push 4 [.int .i64 0,.int .i64 0,.int .i64 0,.int .i64 0]).next = h6.next + 1:=rfl
 generalize h6.push 4 [.int .i64 0,.int .i64 0,.int .i64 0,.int .i64 0] = h7 at *
 rw [← hqb] at o7 n7 ⊢
 obtain ⟨h8,w8,ow8,wo8⟩:=o7.write (o:=0) (vs:=[.int .i64 s',.int .i64 vd,.int .i64 s,.int .i64 vd]) (by simp)
 replace ow8 : Own h8 qb 4 [.int .i64 s',.int .i64 vd,.int .i64 s,.int .i64 vd]:=ow8
 have q8:=wr_at hA w8
 have y8:=wo8.ext (y6.trans p7) (by have:=y6.next;omega)
 refine zq ?_
 refine br False (by rw [e_neq hA];rfl) (fun q => q.elim) (fun _ => ?_) <;> refine zc ?_
 have ow5' : Own h8 pb 4 [.int .i64 r',.int .i64 ud,.int .i64 r,.int .i64 ud]:=(ow5.ext (x6.trans p7) (by omega)).of_get (wo8.get pb (by have:=x6.next;omega))
 have l8:=y8.lowOK hlow
 have lb : pb < h8.next:=by rw [wo8.next,n7];have:=x6.next;omega
 have lq : qb < h8.next:=by rw [wo8.next,n7];omega
 have P0 : InP h8 rd place pb un ud 0:=by
  have f:=cu.f0;have rm:=cu.rem;have k6:=cu.c.2.2.1;have k1:=cu.k1
  rw [← hr'] at f
  refine ⟨r',ud,⟨by unfold wQ;rw [if_pos rfl,← hr'];exact f,fun h' x' => ?_⟩,by omega,by omega,k6⟩
  rw [e_rd hA,e_place hA]
  exact (ow5'.ext x' lb).readG (o:=0) (n:=2) (by simp)
 have P1 : InP h8 rd place pb un ud 1:=by
  have f:=cu.f1;have rm:=cu.rem;have k6:=cu.c.2.2.1;have k1:=cu.k1
  rw [← hr] at f
  refine ⟨r,ud,⟨by unfold wQ;rw [if_neg (by omega),← hr];exact f,fun h' x' => ?_⟩,by omega,by omega,k6⟩
  rw [e_rd hA,e_place hA]
  exact (ow5'.ext x' lb).readG (o:=2) (n:=2) (by simp)
 have Q0 : InP h8 rd place qb vn vd 0:=by
  have f:=cv.f0;have rm:=cv.rem;have k6:=cv.c.2.2.1;have k1:=cv.k1
  rw [← hs''] at f
  refine ⟨s',vd,⟨by unfold wQ;rw [if_pos rfl,← hs''];exact f,fun h' x' => ?_⟩,by omega,by omega,k6⟩
  rw [e_rd hA,e_place hA]
  exact (ow8.ext x' lq).readG (o:=0) (n:=2) (by simp)
 have Q1 : InP h8 rd place qb vn vd 1:=by
  have f:=cv.f1;have rm:=cv.rem;have k6:=cv.c.2.2.1;have k1:=cv.k1
  rw [← hs'] at f
  refine ⟨s,vd,⟨by unfold wQ;rw [if_neg (by omega),← hs'];exact f,fun h' x' => ?_⟩,by omega,by omega,k6⟩
  rw [e_rd hA,e_place hA]
  exact (ow8.ext x' lq).readG (o:=2) (n:=2) (by simp)
 have c00:=cand_len n ⟨un,ud,vn,vd⟩ 0 0
 have c10:=cand_len n ⟨un,ud,vn,vd⟩ 1 0
 refine parts_row hA l8 (s:=⟨un,ud,vn,vd⟩) cu cv hx hy (by omega) P0 P1 Q0 (L:=[]) (by simp) (Apd.nil h8 4) (.none _) (.refl h8) (fun h9 a1 n9 N1 ha1 hf1 he1 => ?_)
 refine parts_row hA l8 (s:=⟨un,ud,vn,vd⟩) cu cv hx hy (by omega) P0 P1 Q1 (by simp only [List.length_append,List.length_nil];omega) ha1 hf1 he1 (fun h10 a2 n10 N2 ha2 hf2 he2 => ?_)
 have ha2 : Apd h10 4 a2 N2 n10 ((cands n ⟨un,ud,vn,vd⟩).flatMap Pk.cells):=by
  unfold cands
  simpa [List.append_assoc] using ha2
 have ne : cands n ⟨un,ud,vn,vd⟩ ≠ []:=cands_ne cu cv
 have c01:=cand_len n ⟨un,ud,vn,vd⟩ 0 1
 have c11:=cand_len n ⟨un,ud,vn,vd⟩ 1 1
 have len4 : (cands n ⟨un,ud,vn,vd⟩).length ≤ 4:=by unfold cands;simp only [List.length_append];omega
 generalize cands n ⟨un,ud,vn,vd⟩ = CL at *
 refine hA.roundR Tryz.func15 r15_ok (zc ?_)
 refine br False (by rw [e_lss hA];rfl) (fun q => q.elim) (fun _ => ?_) <;> refine zc ?_
 have lenN:=ha2.cells.length
 rw [flatE_len pk_len] at lenN
 have dat : ∃ b,a2 = some ⟨b,0,none⟩ ∧ Dat h h10 b N2 CL:=by
  rcases ha2 with ⟨_,_,_,w⟩ | ⟨b,rfl,_,w1,w2,w3⟩
  ·exfalso
   have w':=congrArg List.length w
   rw [flatE_len pk_len] at w'
   have:=List.length_pos_iff.2 ne
   simp only [List.length_nil] at w'
   omega
  ·exact ⟨b,rfl,⟨y8.trans he2,w3,by have:=hf2 _ rfl;have:=y8.next;simp only at *;omega,w1,by omega,by omega⟩⟩
 obtain ⟨b,rfl,D⟩:=dat
 refine sort_few hA hlow (by omega) D (fun h11 L' D' hp' hs' => ?_)
 refine zc ?_
 exact hok b _ N2 L' h11 k2 D' hp' hs'
end Go.Proofs.YtkbgkjlgnmlghaaGreat
