import Derived.Test.YtkbgkjlgnmlghaaCaT
set_option linter.unusedSimpArgs false
set_option linter.unusedVariables false
namespace Go.Proofs.Ytkbgkjlgnmlghaa
open Go.Sim
set_option linter.unusedVariables false
set_option maxRecDepth 100000
variable {F : Prims} {call head arith cmp scmp bnot bsame conv neg imax imin ofNat slen place inR nz geZ rd wr push next mkOK nat zeros sadd eqAgg cut slc sslc strAt part app cpy putAt fresh lowered bump wrote addN lt ne fpAll brk yn rng mget mput mnew bytes clr : _} (hA : AP F ⟨call,head,arith,cmp,scmp,bnot,bsame,conv,neg,imax,imin,ofNat,slen,place,inR,nz,geZ,rd,wr,push,next,mkOK,nat,zeros,sadd,eqAgg,cut,slc,sslc,strAt,part,app,cpy,putAt,fresh,lowered,bump,wrote,addN,lt,ne,fpAll,brk,yn,rng,mget,mput,mnew,bytes,clr⟩)
include hA
theorem cell_rd {w h : AHeap} {oa n cp : Nat} {bs : List Nat} {g : Gd} (hcp : cp = someCap 3 n) (sq : SqG n g) (t : Grid2 Ck.cells 3 w h oa bs g) {y x : Int} (y0 : 0 ≤ y) (y1 : y < n) (x0 : 0 ≤ x) (x1 : x < n) :
  ∃ rb a b d,rb < h.next ∧ rd h oa (place 0 y 1) 1 [.slice (some ⟨rb,0,none⟩) n cp] ∧ rd h rb (place 0 x 3) 3 [.int .i64 a,.int .i64 b,.int .i64 d] ∧ isC a b d (cv g y x):=by
 have gl:=sq.len
 have ry:=sq.row y y0 y1
 have d1:=t.head y0 (by omega)
 unfold hdr at d1
 rw [ry,← hcp] at d1
 have re:=t.el (by omega) y0 (by omega) x0 (by omega)
 exact ⟨_,_,_,_,t.ltr _ (bs_mem (by have:=t.len;omega)),rd_ok hA d1,rd_ok hA re,(sq.ok y x y0 y1 x0 x1).is⟩
set_option maxHeartbeats 1000000 in
theorem lcell_inner {h0 z1 z2 z3 : AHeap} (hlow : h0.low ≤ h0.next) {n : Int} {nn : Nat} (hn : n = nn) (n8 : nn ≤ 8) {o1 o2 o3 c1 c2 c3 : Nat} {b1 b2 b3 : List Nat} {g1 g2 g3 : Gd} (q1 : SqG nn g1) (q2 : SqG nn g2) (q3 : SqG nn g3) (t1 : Grid2 Ck.cells 3 z1 h0 o1 b1 g1) (t2 : Grid2 Ck.cells 3 z2 h0 o2 b2 g2) (t3 : Grid2 Ck.cells 3 z3 h0 o3 b3 g3) {c : Cq} (lin : Lin nn c g1 g2 g3) {ca cb cd : Int} (hc : isC ca cb cd c) {y : Int} (y0 : 0 ≤ y) (y1 : y < nn) {Q : Exit → SS → Prop}
  (hok : ∀ h',Ext h0 h' → Q (.exit 4) ⟨[(0,.int .i64 n),(9,.pointer (some ⟨0,0,some 0⟩)),(11,.bool true),(18,.slice (some ⟨o1,0,none⟩) nn c1),(20,.slice (some ⟨o2,0,none⟩) nn c2),(22,.slice (some ⟨o3,0,none⟩) nn c3),(24,.int .i64 y)],1,[(0,[.int .i64 ca,.int .i64 cb,.int .i64 cd])],h'⟩) :
  ∀ (m : Nat) (x : Int) (h : AHeap),(n - x).toNat ≤ m → 0 ≤ x → x ≤ n → Ext h0 h →
   head 4 26 1 ⟨[(0,.int .i64 n),(9,.pointer (some ⟨0,0,some 0⟩)),(11,.bool true),(18,.slice (some ⟨o1,0,none⟩) nn c1),(20,.slice (some ⟨o2,0,none⟩) nn c2),(22,.slice (some ⟨o3,0,none⟩) nn c3),(24,.int .i64 y),(25,.int .i64 x)],1,[(0,[.int .i64 ca,.int .i64 cb,.int .i64 cd])],h⟩ Q:=by
 obtain ⟨cp,hcp⟩ : ∃ z,z = someCap 3 nn:=⟨_,rfl⟩
 intro m
 induction m with
 | zero =>
  intro x h hm x0 x1 he
  refine hA.roundR Try.func4 r4_ok (zc ?_)
  refine br (x < n) (by rw [e_lss hA]) (fun q => by omega) (fun _ => ?_) <;> refine zc ?_
  exact hok h he
 | succ m ih =>
 intro x h hm x0 x1 he
 by_cases ck : x < n
 rotate_left
 ·refine hA.roundR Try.func4 r4_ok (zc ?_)
  refine br (x < n) (by rw [e_lss hA]) (fun q => by omega) (fun _ => ?_) <;> refine zc ?_
  exact hok h he
 obtain ⟨h9,hh9⟩ : ∃ z,z = bump h 15:=⟨_,rfl⟩
 have x9 : Ext h h9:=by rw [hh9];exact ext_bump hA _ _
 have e9:=he.trans x9
 have l9:=e9.lowOK hlow
 obtain ⟨r2,a2,b2',d2,lr2,rd2,rd2',is2⟩:=cell_rd hA hcp q2 (t2.more e9) y0 y1 x0 (by omega)
 refine hA.roundR Try.func4 r4_ok (zc ?_)
 refine br (x < n) (by rw [e_lss hA]) (fun _ => ?_) (fun q => by omega) <;> refine zc ?_
 rw [← hh9]
 refine zq ?_
 refine cmul_ok hA (low_fresh hA h9) (fun r s t' e hz1 k1 ez => ⟨_,_,_,_,rfl,?_⟩)
 obtain ⟨hX,hhX⟩ : ∃ z,z = lowered h9 hz1:=⟨_,rfl⟩
 have eX : Ext h9 hX:=by rw [hhX];exact ext_low hA l9 (.refl h9) ez
 refine zc ?_
 rw [← hhX]
 refine ⟨ne_ok hA (by decide),wrote_no hA ez,?_⟩
 refine zc ?_
 have yX:=e9.trans eX
 obtain ⟨hB,hhB⟩ : ∃ z,z = bump hX 15:=⟨_,rfl⟩
 have xB : Ext hX hB:=by rw [hhB];exact ext_bump hA _ _
 have eB:=yX.trans xB
 have lB:=eB.lowOK hlow
 obtain ⟨r1,a1,b1',d1,lr1,rd1,rd1',is1⟩:=cell_rd hA hcp q1 (t1.more eB) y0 y1 x0 (by omega)
 rw [← hhB]
 refine zq ?_
 refine cadd_ok hA (low_fresh hA hB) (fun r' s' t'' e' hz2 k2 ez2 => ⟨_,_,_,_,rfl,?_⟩)
 obtain ⟨hY,hhY⟩ : ∃ z,z = lowered hB hz2:=⟨_,rfl⟩
 have eY : Ext hB hY:=by rw [hhY];exact ext_low hA lB (.refl hB) ez2
 refine zc ?_
 rw [← hhY]
 refine ⟨ne_ok hA (by decide),wrote_no hA ez2,?_⟩
 refine zc ?_
 have yY:=eB.trans eY
 obtain ⟨hD,hhD⟩ : ∃ z,z = bump hY 17:=⟨_,rfl⟩
 have xD : Ext hY hD:=by rw [hhD];exact ext_bump hA _ _
 have eD:=yY.trans xD
 rw [← hhD]
 have fin : (∀ h',Ext h0 h' → head 4 26 1 ⟨[(0,.int .i64 n),(9,.pointer (some ⟨0,0,some 0⟩)),(11,.bool true),(18,.slice (some ⟨o1,0,none⟩) nn c1),(20,.slice (some ⟨o2,0,none⟩) nn c2),(22,.slice (some ⟨o3,0,none⟩) nn c3),(24,.int .i64 y),(25,.int .i64 (x + 1))],1,[(0,[.int .i64 ca,.int .i64 cb,.int .i64 cd])],h'⟩ Q):=fun h' e' => ih (x + 1) h' (by omega) (by omega) (by omega) e'
 refine br (e = 0) (by rw [e_eql hA]) (fun c1 => ?_) (fun _ => ?_) <;> refine zc ?_
 rotate_left
 ·rw [add64 hA (by omega) (by omega)]
  exact fin _ eD
 refine br (e' = 0) (by rw [e_eql hA]) (fun c2 => ?_) (fun _ => ?_) <;> refine zc ?_
 rotate_left
 ·rw [add64 hA (by omega) (by omega)]
  exact fin _ eD
 obtain ⟨r3,a3,b3',d3,lr3,rd3,rd3',is3⟩:=cell_rd hA hcp q3 (t3.more eD) y0 y1 x0 (by omega)
 have p1 : isC r s t' (c.mul (cv g2 y x)):=by
  rcases out_cases hc is2 k1 with ⟨_,q⟩ | q
  ·exact q
  ·omega
 have p2 : isC r' s' t'' (cv g3 y x):=by
  rcases out_cases is1 p1 k2 with ⟨_,q⟩ | q
  ·rw [lin y x y0 y1 x0 (by omega)];exact q
  ·omega
 obtain ⟨u1,u2,u3⟩:=p2.trip is3
 subst u1 u2 u3
 obtain ⟨rr,hr1,hr2⟩:=eqC r' s' t'' r' s' t''
 obtain rfl : rr = true:=hr2.2 ⟨rfl,rfl,rfl⟩
 refine zq ?_
 rw [e_eqAgg hA]
 refine ⟨guardC,true,hr1,?_⟩
 refine zc ?_
 rw [show bnot true = false by rw [e_bnot hA];rfl]
 refine zc ?_
 rw [add64 hA (by omega) (by omega)]
 exact fin _ eD
theorem lcell_outer {h0 z1 z2 z3 : AHeap} (hlow : h0.low ≤ h0.next) {n : Int} {nn : Nat} (hn : n = nn) (n8 : nn ≤ 8) {o1 o2 o3 c1 c2 c3 : Nat} {b1 b2 b3 : List Nat} {g1 g2 g3 : Gd} (q1 : SqG nn g1) (q2 : SqG nn g2) (q3 : SqG nn g3) (t1 : Grid2 Ck.cells 3 z1 h0 o1 b1 g1) (t2 : Grid2 Ck.cells 3 z2 h0 o2 b2 g2) (t3 : Grid2 Ck.cells 3 z3 h0 o3 b3 g3) {c : Cq} (lin : Lin nn c g1 g2 g3) {ca cb cd : Int} (hc : isC ca cb cd c) {Q : Exit → SS → Prop}
  (hok : ∀ h' kn K,Ext h0 h' → Q (.exit 2) ⟨[(11,.bool true)],kn,K,h'⟩) :
  ∀ (m : Nat) (y : Int) (h : AHeap),(n - y).toNat ≤ m → 0 ≤ y → y ≤ n → Ext h0 h →
   head 4 23 1 ⟨[(0,.int .i64 n),(9,.pointer (some ⟨0,0,some 0⟩)),(11,.bool true),(18,.slice (some ⟨o1,0,none⟩) nn c1),(20,.slice (some ⟨o2,0,none⟩) nn c2),(22,.slice (some ⟨o3,0,none⟩) nn c3),(24,.int .i64 y)],1,[(0,[.int .i64 ca,.int .i64 cb,.int .i64 cd])],h⟩ Q:=by
 intro m
 induction m with
 | zero =>
  intro y h hm y0 y1 he
  refine hA.roundR Try.func4 r4_ok (zc ?_)
  refine br (y < n) (by rw [e_lss hA]) (fun q => by omega) (fun _ => ?_) <;> refine zc ?_
  exact hok h _ _ he
 | succ m ih =>
 intro y h hm y0 y1 he
 by_cases ck : y < n
 rotate_left
 ·refine hA.roundR Try.func4 r4_ok (zc ?_)
  refine br (y < n) (by rw [e_lss hA]) (fun q => by omega) (fun _ => ?_) <;> refine zc ?_
  exact hok h _ _ he
 refine hA.roundR Try.func4 r4_ok (zc ?_)
 refine br (y < n) (by rw [e_lss hA]) (fun _ => ?_) (fun q => by omega) <;> refine zc ?_
 refine lcell_inner hA hlow hn n8 q1 q2 q3 t1 t2 t3 lin hc y0 (by omega) (fun h' e' => ?_) nn 0 h (by omega) (by omega) (by omega) he
 refine zc ?_
 rw [add64 hA (by omega) (by omega)]
 exact ih (y + 1) h' (by omega) (by omega) (by omega) e'
end Go.Proofs.Ytkbgkjlgnmlghaa
namespace Go.Proofs.Ytkbgkjlgnmlghaa
open Go.Sim
set_option linter.unusedVariables false
set_option maxRecDepth 100000
theorem GridIs.run {n : Int} {l : List Sk} {v : List Ck} {g : Gd} (h : GridIs n l v g 0) : Go.Proofs.Ytkbgkjlgnmlghaa.run (contrib n l v l.length) (zeroG n.toNat) = some g:=by
 rcases h with ⟨a,b,c⟩ | ⟨a,b,c,d⟩ | ⟨a,b,b',c,d⟩ | ⟨a,b,b',c⟩
 ·exact absurd rfl b
 ·omega
 ·omega
 ·rcases c with ⟨_,_,d⟩ | ⟨c,_⟩
  ·omega
  ·exact c
theorem GridIs.err {n : Int} {l : List Sk} {v : List Ck} {g : Gd} {e : Int} (h : GridIs n l v g e) (h0 : CheckS n l 0) (hl : v.length = l.length) (hv : ValidL v) : e = 0 ∨ e = 16:=by
 rcases h with ⟨a,b,c⟩ | ⟨a,b,c,d⟩ | ⟨a,b,b',c,d⟩ | ⟨a,b,b',c⟩
 ·exact absurd (a.uniq h0) b
 ·exact absurd hl b
 ·exact absurd hv b'
 ·rcases c with ⟨_,_,d⟩ | ⟨_,d⟩
  ·exact .inr d
  ·exact .inl d
theorem places_in {n : Int} {l : List Sk} (h0 : CheckS n l 0) {nn : Nat} (hn : n = nn) {p : Pk × Int} (hp : p ∈ places n l l.length) : (0 ≤ p.1.x ∧ p.1.x < nn) ∧ (0 ≤ p.1.y ∧ p.1.y < nn) ∧ 0 ≤ p.2 ∧ p.2 < l.length:=by
 unfold places at hp
 simp only [List.mem_flatMap,mem_upTo,List.mem_map] at hp
 obtain ⟨j,⟨j0,j1⟩,e,he,rfl⟩:=hp
 obtain ⟨⟨n2,n8⟩,_,hz⟩:=h0.zero
 obtain ⟨cu,cv⟩:=hz j j0 j1
 have P:=partF (s:=gt l j) ⟨cu,n2,n8⟩ ⟨cv,n2,n8⟩ he
 subst hn
 exact ⟨⟨P.x0,P.x1⟩,⟨P.y0,P.y1⟩,j0,j1⟩
theorem lin_grids {n : Int} {l : List Sk} {v1 v2 v3 : List Ck} {g1 g2 g3 : Gd} (h0 : CheckS n l 0) {nn : Nat} (hn : n = nn) {c : Cq} (hs : SumL c v1 v2 v3 l.length) (r1 : GridIs n l v1 g1 0) (r2 : GridIs n l v2 g2 0) (r3 : GridIs n l v3 g3 0) : Lin nn c g1 g2 g3:=by
 have e : n.toNat = nn:=by omega
 have k1:=r1.run
 have k2:=r2.run
 have k3:=r3.run
 rw [contrib_places,e] at k1 k2 k3
 exact lin_run (N:=l.length) (fun j j0 j1 => (hs.2 j j0 j1).1) (places n l l.length) (fun p hp => places_in h0 hn hp) _ _ _ _ _ _ (zeroG_sq nn) (zeroG_sq nn) (zeroG_sq nn) (lin_zero nn c) k1 k2 k3
variable {F : Prims} {call head arith cmp scmp bnot bsame conv neg imax imin ofNat slen place inR nz geZ rd wr push next mkOK nat zeros sadd eqAgg cut slc sslc strAt part app cpy putAt fresh lowered bump wrote addN lt ne fpAll brk yn rng mget mput mnew bytes clr : _} (hA : AP F ⟨call,head,arith,cmp,scmp,bnot,bsame,conv,neg,imax,imin,ofNat,slen,place,inR,nz,geZ,rd,wr,push,next,mkOK,nat,zeros,sadd,eqAgg,cut,slc,sslc,strAt,part,app,cpy,putAt,fresh,lowered,bump,wrote,addN,lt,ne,fpAll,brk,yn,rng,mget,mput,mnew,bytes,clr⟩)
include hA
set_option maxHeartbeats 1000000 in
theorem llinear_ok (hF : ∀ h,F 18 [] h = some (.bool true,h)) {h : AHeap} (hlow : h.low ≤ h.next) {n ca cb cd : Int} {a a' a'' : Option Addr} {N M M' c c' c'' : Nat} {l : List Sk} {v w : List Ck} (hl : Sps h a N l) (hi : allS l) (hv : Cs h a' M v) (hw : Cs h a'' M' w) {Q : Value → AHeap → Prop}
  (hQ : ∀ h',Ext h h' → Q (.bool true) h') : call 4 [.int .i64 n,.slice a N c,.slice a' M c',.slice a'' M' c'',.agg #[.int .i64 ca,.int .i64 cb,.int .i64 cd]] h Q:=by
 refine hA.bodyR Try.func4 r4_ok (hA.alike _ _ _ rfl) hlow (zc ?_)
 refine hA.prim (hF h) ⟨_,rfl,?_⟩
 refine zc ?_
 refine lvalid_ok hA hlow hl hi hv (fun r h1 k1 x1 => ⟨_,rfl,?_⟩)
 cases r with
 | false =>
  refine zc ?_
  rw [show bnot false = true by rw [e_bnot hA];rfl]
  refine zc ?_
  exact hQ h1 x1
 | true =>
 obtain ⟨chk,rfl,okv,hN,hM⟩:=k1 rfl
 refine zc ?_
 rw [show bnot true = false by rw [e_bnot hA];rfl]
 refine zc ?_
 refine lvalid_ok hA (x1.lowOK hlow) (hl.ext x1) hi (hw.ext x1) (fun r h2 k2 x2 => ⟨_,rfl,?_⟩)
 have y2:=x1.trans x2
 cases r with
 | false =>
  refine zc ?_
  rw [show bnot false = true by rw [e_bnot hA];rfl]
  refine zc ?_
  exact hQ h2 y2
 | true =>
 obtain ⟨_,rfl,okw,_,_⟩:=k2 rfl
 refine zc ?_
 rw [show bnot true = false by rw [e_bnot hA];rfl]
 refine zc ?_
 refine rccheck_ok hA (y2.lowOK hlow) (fun e h3 k3 x3 => ⟨_,rfl,?_⟩)
 have y3:=y2.trans x3
 refine zc ?_
 refine br (e ≠ 0) (by rw [e_neq hA]) (fun _ => ?_) (fun c0 => ?_) <;> refine zc ?_
 ·exact hQ h3 y3
 rw [show bnot true = false by rw [e_bnot hA];rfl]
 refine zc ?_
 have okc : okC ca cb cd:=by
  rcases k3 with ⟨_,q⟩ | ⟨q,_⟩
  ·exact q
  ·omega
 obtain ⟨z,hz⟩:=okc
 have lv:=hv.len
 have lw:=hw.len
 have ll:=hl.len
 have sum0 : SumL z v w [] ((0 : Nat) : Int):=⟨rfl,fun j j0 j1 => by omega⟩
 refine lin_loop hA (y3.lowOK hlow) (hv.ext y3) (hw.ext y3) okv okw (by omega) hz (fun h' e kn K x => ?_) (fun h4 s4 cc Z rZ hZ x4 => ?_) N 0 h3 none 0 [] (by omega) (by omega) (.nil _ _) sum0 (fun ad q => by cases q) (.refl h3)
 ·refine zc ?_
  exact hQ h' (y3.trans x)
 have y4:=y3.trans x4
 refine zc ?_
 have okZ : ValidL Z:=fun j j0 j1 => (hZ.2 j j0 (by have:=hZ.1;omega)).2
 have lZ:=hZ.1
 refine kgrid_is2 hA (y4.lowOK hlow) (hl.ext y4) hi (hv.ext y4) (by omega) (by omega) (fun p5 m5 q5 g5 e5 h5 k5 t5 n5 x5 => ⟨_,_,_,_,rfl,?_⟩)
 refine zc ?_
 have y5:=y4.trans x5
 refine kgrid_is2 hA (y5.lowOK hlow) (hl.ext y5) hi (hw.ext y5) (by omega) (by omega) (fun p6 m6 q6 g6 e6 h6 k6 t6 n6 x6 => ⟨_,_,_,_,rfl,?_⟩)
 refine zc ?_
 have y6:=y5.trans x6
 refine kgrid_is2 hA (y6.lowOK hlow) (hl.ext y6) hi (rZ.ext (x5.trans x6)) (by omega) (by omega) (fun p7 m7 q7 g7 e7 h7 k7 t7 n7 x7 => ⟨_,_,_,_,rfl,?_⟩)
 refine zc ?_
 have y7:=y6.trans x7
 rcases k5.err chk (by omega) okv with rfl | rfl
 rotate_left
 ·refine br True (by rw [e_neq hA];rfl) (fun _ => ?_) (fun q => absurd trivial q) <;> refine zc ?_
  refine br True (by rw [e_eql hA];rfl) (fun _ => ?_) (fun q => absurd trivial q) <;> refine zc ?_
  exact hQ h7 y7
 refine br False (by rw [e_neq hA];rfl) (fun q => q.elim) (fun _ => ?_) <;> refine zc ?_
 rcases k6.err chk (by omega) okw with rfl | rfl
 rotate_left
 ·refine br True (by rw [e_neq hA];rfl) (fun _ => ?_) (fun q => absurd trivial q) <;> refine zc ?_
  refine br False (by rw [e_eql hA];rfl) (fun q => q.elim) (fun _ => ?_) <;> refine zc ?_
  refine br True (by rw [e_eql hA];rfl) (fun _ => ?_) (fun q => absurd trivial q) <;> refine zc ?_
  exact hQ h7 y7
 refine br False (by rw [e_neq hA];rfl) (fun q => q.elim) (fun _ => ?_) <;> refine zc ?_
 rcases k7.err chk (by omega) okZ with rfl | rfl
 rotate_left
 ·refine br True (by rw [e_neq hA];rfl) (fun _ => ?_) (fun q => absurd trivial q) <;> refine zc ?_
  refine br False (by rw [e_eql hA];rfl) (fun q => q.elim) (fun _ => ?_) <;> refine zc ?_
  refine br False (by rw [e_eql hA];rfl) (fun q => q.elim) (fun _ => ?_) <;> refine zc ?_
  rw [show cmp .eql 16 16 = true by rw [e_eql hA];rfl]
  exact hQ h7 y7
 refine br False (by rw [e_neq hA];rfl) (fun q => q.elim) (fun _ => ?_) <;> refine zc ?_
 obtain ⟨⟨n2,n8⟩,_,_⟩:=chk.zero
 have f5:=n5 rfl
 have f6:=n6 rfl
 have f7:=n7 rfl
 obtain rfl : m5 = m6:=by omega
 obtain rfl : m5 = m7:=by omega
 have v5:=t5.more (x6.trans x7)
 have v6:=t6.more x7
 refine square_ok hA (y7.lowOK hlow) (by omega) v5 (fun h8 x8 => ⟨_,rfl,?_⟩)
 refine zc ?_
 refine br False (by rw [e_neq hA];rfl) (fun q => q.elim) (fun _ => ?_) <;> refine zc ?_
 refine square_ok hA ((y7.trans x8).lowOK hlow) (by omega) (v6.more x8) (fun h9 x9 => ⟨_,rfl,?_⟩)
 refine zc ?_
 refine br False (by rw [e_neq hA];rfl) (fun q => q.elim) (fun _ => ?_) <;> refine zc ?_
 refine square_ok hA (((y7.trans x8).trans x9).lowOK hlow) (by omega) (t7.more (x8.trans x9)) (fun h10 x10 => ⟨_,rfl,?_⟩)
 refine zc ?_
 refine br False (by rw [e_neq hA];rfl) (fun q => q.elim) (fun _ => ?_) <;> refine zc ?_
 refine br ((m5 : Int) ≠ n) (by rw [e_neq hA,e_ofNat hA]) (fun q => absurd f5 q) (fun _ => ?_) <;> refine zc ?_
 refine br ((m5 : Int) ≠ n) (by rw [e_neq hA,e_ofNat hA]) (fun q => absurd f5 q) (fun _ => ?_) <;> refine zc ?_
 refine br ((m5 : Int) ≠ n) (by rw [e_neq hA,e_ofNat hA]) (fun q => absurd f5 q) (fun _ => ?_) <;> refine zc ?_
 have y10:=((y7.trans x8).trans x9).trans x10
 rcases v5.more ((x8.trans x9).trans x10) with ⟨_,q,_⟩ | ⟨o1,b1,rfl,j2,j8,s1,d1⟩
 ·omega
 rcases v6.more ((x8.trans x9).trans x10) with ⟨_,q,_⟩ | ⟨o2,b2,rfl,_,_,s2,d2⟩
 ·omega
 rcases t7.more ((x8.trans x9).trans x10) with ⟨_,q,_⟩ | ⟨o3,b3,rfl,_,_,s3,d3⟩
 ·omega
 have lin : Lin m5 z g5 g6 g7:=lin_grids chk f5.symm (by rw [ll];exact hZ) k5 k6 k7
 refine lcell_outer hA (y10.lowOK hlow) f5.symm j8 s1 s2 s3 d1 d2 d3 lin hz (fun h' kn K x => ?_) m5 0 h10 (by omega) (by omega) (by omega) (.refl h10)
 refine zc ?_
 exact hQ h' (y10.trans x)
end Go.Proofs.Ytkbgkjlgnmlghaa
