import Derived.Test.YtkbgkjlgnmlghaaCaT
set_option linter.unusedSimpArgs false
set_option linter.unusedVariables false
namespace Go.Proofs.Ytkbgkjlgnmlghaa
open Go.Sim
set_option linter.unusedVariables false
set_option maxRecDepth 100000
variable {F : Prims} {call head arith cmp scmp bnot bsame conv neg imax imin ofNat slen place inR nz geZ rd wr push next mkOK nat zeros sadd eqAgg cut slc sslc strAt part app cpy putAt fresh lowered bump wrote addN lt ne fpAll brk yn rng mget mput mnew bytes clr : _} (hA : AP F ⟨call,head,arith,cmp,scmp,bnot,bsame,conv,neg,imax,imin,ofNat,slen,place,inR,nz,geZ,rd,wr,push,next,mkOK,nat,zeros,sadd,eqAgg,cut,slc,sslc,strAt,part,app,cpy,putAt,fresh,lowered,bump,wrote,addN,lt,ne,fpAll,brk,yn,rng,mget,mput,mnew,bytes,clr⟩)
include hA
theorem cell_rd {w h : AHeap} {oa n cp : Nat} {bs : List Nat} {g : Gd} (hcp : cp = someCap 3 n) (sq : SqG n g) (t : Grid2 Ck.cells 3 w h oa bs g) {y x : Int} (y0 : 0 ≤ y) (y1 : y < n) (x0 : 0 ≤ x) (x1 : x < n) :
  ∃ rb a b d,rb < h.next ∧ rd h oa (place 0 y 1) 1 [.slice (some ⟨rb,0,none⟩) n cp] ∧ rd h rb (place 0 x 3) 3 [.int .i64 a,.int .i64 b,.int .i64 d] ∧ isC a b d (cv g y x):=by
 have gl:=sq.len
 have ry:=sq.row y y0 y1
 have d1:=t.head y0 (by omega)
 unfold hdr at d1
 rw [ry,← hcp] at d1
 have re:=t.el (by omega) y0 (by omega) x0 (by omega)
 exact ⟨_,_,_,_,t.ltr _ (bs_mem (by have:=t.len;omega)),rd_ok hA d1,rd_ok hA re,(sq.ok y x y0 y1 x0 x1).is⟩
set_option maxHeartbeats 1000000 in
theorem lcell_inner {h0 z1 z2 z3 : AHeap} (hlow : h0.low ≤ h0.next) {n : Int} {nn : Nat} (hn : n = nn) (n8 : nn ≤ 8) {o1 o2 o3 c1 c2 c3 : Nat} {b1 b2 b3 : List Nat} {g1 g2 g3 : Gd} (q1 : SqG nn g1) (q2 : SqG nn g2) (q3 : SqG nn g3) (t1 : Grid2 Ck.cells 3 z1 h0 o1 b1 g1) (t2 : Grid2 Ck.cells 3 z2 h0 o2 b2 g2) (t3 : Grid2 Ck.cells 3 z3 h0 o3 b3 g3) {c : Cq} (lin : Lin nn c g1 g2 g3) {ca cb cd : Int} (hc : isC ca cb cd c) {y : Int} (y0 : 0 ≤ y) (y1 : y < nn) {Q : Exit → SS → Prop}
  (hok : ∀ h',Ext h0 h' → Q (.exit 4) ⟨[(0,.int .i64 n),(9,.pointer (some ⟨0,0,some 0⟩)),(11,.bool true),(18,.slice (some ⟨o1,0,none⟩) nn c1),(20,.slice (some ⟨o2,0,none⟩) nn c2),(22,.slice (some ⟨o3,0,none⟩) nn c3),(24,.int .i64 y)],1,[(0,[.int .i64 ca,.int .i64 cb,.int .i64 cd])],h'⟩) :
  ∀ (m : Nat) (x : Int) (h : AHeap),(n - x).toNat ≤ m → 0 ≤ x → x ≤ n → Ext h0 h →
   head 4 26 1 ⟨[(0,.int .i64 n),(9,.pointer (some ⟨0,0,some 0⟩)),(11,.bool true),(18,.slice (some ⟨o1,0,none⟩) nn c1),(20,.slice (some ⟨o2,0,none⟩) nn c2),(22,.slice (some ⟨o3,0,none⟩) nn c3),(24,.int .i64 y),(25,.int .i64 x)],1,[(0,[.int .i64 ca,.int .i64 cb,.int .i64 cd])],h⟩ Q:=by
 obtain ⟨cp,hcp⟩ : ∃ z,z = someCap 3 nn:=⟨_,rfl⟩
 intro m
 induction m with
 | zero =>
  intro x h hm x0 x1 he
  refine hA.roundR Try.func4 r4_ok (zc ?_)
  refine br (x < n) (by rw [e_lss hA]) (fun q => by omega) (fun _ => ?_) <;> refine zc ?_
  exact hok h he
 | succ m ih =>
 intro x h hm x0 x1 he
 by_cases ck : x < n
 rotate_left
 ·refine hA.roundR Try.func4 r4_ok (zc ?_)
  refine br (x < n) (by rw [e_lss hA]) (fun q => by omega) (fun _ => ?_) <;> refine zc ?_
  exact hok h he
 obtain ⟨h9,hh9⟩ : ∃ z,z = bump h 15:=⟨_,rfl⟩
 have x9 : Ext h h9:=by rw [hh9];exact ext_bump hA _ _
 have e9:=he.trans x9
 have l9:=e9.lowOK hlow
 obtain ⟨r2,a2,b2',d2,lr2,rd2,rd2',is2⟩:=cell_rd hA hcp q2 (t2.more e9) y0 y1 x0 (by omega)
 refine hA.roundR Try.func4 r4_ok (zc ?_)
 refine br (x < n) (by rw [e_lss hA]) (fun _ => ?_) (fun q => by omega) <;> refine zc ?_
 rw [← hh9]
 refine zq ?_
 refine cmul_ok hA (low_fresh hA h9) (fun r s t' e hz1 k1 ez => ⟨_,_,_,_,rfl,?_⟩)
 obtain ⟨hX,hhX⟩ : ∃ z,z = lowered h9 hz1:=⟨_,rfl⟩
 have eX : Ext h9 hX:=by rw [hhX];exact ext_low hA l9 (.refl h9) ez
 refine zc ?_
 rw [← hhX]
 refine ⟨ne_ok hA (by decide),wrote_no hA ez,?_⟩
 refine zc ?_
 have yX:=e9.trans eX
 obtain ⟨hB,hhB⟩ : ∃ z,z = bump hX 15:=⟨_,rfl⟩
 have xB : Ext hX hB:=by rw [hhB];exact ext_bump hA _ _
 have eB:=yX.trans xB
 have lB:=eB.lowOK hlow
 obtain ⟨r1,a1,b1',d1,lr1,rd1,rd1',is1⟩:=cell_rd hA hcp q1 (t1.more eB) y0 y1 x0 (by omega)
 rw [← hhB]
 refine zq ?_
 refine cadd_ok hA (low_fresh hA hB) (fun r' s' t'' e' hz2 k2 ez2 => ⟨_,_,_,_,rfl,?_⟩)
 obtain ⟨hY,hhY⟩ : ∃ z,z = lowered hB hz2:=⟨_,rfl⟩
 have eY : Ext hB hY:=by rw [hhY];exact ext_low hA lB (.refl hB) ez2
 refine zc ?_
 rw [← hhY]
 refine ⟨ne_ok hA (by decide),wrote_no hA ez2,?_⟩
 refine zc ?_
 have yY:=eB.trans eY
 obtain ⟨hD,hhD⟩ : ∃ z,z = bump hY 17:=⟨_,rfl⟩
 have xD : Ext hY hD:=by rw [hhD];exact ext_bump hA _ _
 have eD:=yY.trans xD
 rw [← hhD]
 have fin : (∀ h',Ext h0 h' → head 4 26 1 ⟨[(0,.int .i64 n),(9,.pointer (some ⟨0,0,some 0⟩)),(11,.bool true),(18,.slice (some ⟨o1,0,none⟩) nn c1),(20,.slice (some ⟨o2,0,none⟩) nn c2),(22,.slice (some ⟨o3,0,none⟩) nn c3),(24,.int .i64 y),(25,.int .i64 (x + 1))],1,[(0,[.int .i64 ca,.int .i64 cb,.int .i64 cd])],h'⟩ Q):=fun h' e' => ih (x + 1) h' (by omega) (by omega) (by omega) e'
 refine br (e = 0) (by rw [e_eql hA]) (fun c1 => ?_) (fun _ => ?_) <;> refine zc ?_
 rotate_left
 ·rw [add64 hA (by omega) (by omega)]
  exact fin _ eD
 refine br (e' = 0) (by rw [e_eql hA]) (fun c2 => ?_) (fun _ => ?_) <;> refine zc ?_
 rotate_left
 ·rw [add64 hA (by omega) (by omega)]
  exact fin _ eD
 obtain ⟨r3,a3,b3',d3,lr3,rd3,rd3',is3⟩:=cell_rd hA hcp q3 (t3.more eD) y0 y1 x0 (by omega)
 have p1 : isC r s t' (c.mul (cv g2 y x)):=by
  rcases out_cases hc is2 k1 with ⟨_,q⟩ | q
  ·exact q
  ·omega
 have p2 : isC r' s' t'' (cv g3 y x):=by
  rcases out_cases is1 p1 k2 with ⟨_,q⟩ | q
  ·rw [lin y x y0 y1 x0 (by omega)];exact q
  ·omega
 obtain ⟨u1,u2,u3⟩:=p2.trip is3
 subst u1 u2 u3
 obtain ⟨rr,hr1,hr2⟩:=eqC r' s' t'' r' s' t''
 obtain rfl : rr = true:=hr2.2 ⟨rfl,rfl,rfl⟩
 refine zq ?_
 rw [e_eqAgg hA]
 refine ⟨guardC,true,hr1,?_⟩
 refine zc ?_
 rw [show bnot true = false by rw [e_bnot hA];rfl]
 refine zc ?_
 rw [add64 hA (by omega) (by omega)]
 exact fin _ eD
theorem lcell_outer {h0 z1 z2 z3 : AHeap} (hlow : h0.low ≤ h0.next) {n : Int} {nn : Nat} (hn : n = nn) (n8 : nn ≤ 8) {o1 o2 o3 c1 c2 c3 : Nat} {b1 b2 b3 : List Nat} {g1 g2 g3 : Gd} (q1 : SqG nn g1) (q2 : SqG nn g2) (q3 : SqG nn g3) (t1 : Grid2 Ck.cells 3 z1 h0 o1 b1 g1) (t2 : Grid2 Ck.cells 3 z2 h0 o2 b2 g2) (t3 : Grid2 Ck.cells 3 z3 h0 o3 b3 g3) {c : Cq} (lin : Lin nn c g1 g2 g3) {ca cb cd : Int} (hc : isC ca cb cd c) {Q : Exit → SS → Prop}
  (hok : ∀ h' kn K,Ext h0 h' → Q (.exit 2) ⟨[(11,.bool true)],kn,K,h'⟩) :
  ∀ (m : Nat) (y : Int) (h : AHeap),(n - y).toNat ≤ m → 0 ≤ y → y ≤ n → Ext h0 h →
   head 4 23 1 ⟨[(0,.int .i64 n),(9,.pointer (some ⟨0,0,some 0⟩)),(11,.bool true),(18,.slice (some ⟨o1,0,none⟩) nn c1),(20,.slice (some ⟨o2,0,none⟩) nn c2),(22,.slice (some ⟨o3,0,none⟩) nn c3),(24,.int .i64 y)],1,[(0,[.int .i64 ca,.int .i64 cb,.int .i64 cd])],h⟩ Q:=by
 intro m
 induction m with
 | zero =>
  intro y h hm y0 y1 he
  refine hA.roundR Try.func4 r4_ok (zc ?_)
  refine br (y < n) (by rw [e_lss hA]) (fun q => by omega) (fun _ => ?_) <;> refine zc ?_
  exact hok h _ _ he
 | succ m ih =>
 intro y h hm y0 y1 he
 by_cases ck : y < n
 rotate_left
 ·refine hA.roundR Try.func4 r4_ok (zc ?_)
  refine br (y < n) (by rw [e_lss hA]) (fun q => by omega) (fun _ => ?_) <;> refine zc ?_
  exact hok h _ _ he
 refine hA.roundR Try.func4 r4_ok (zc ?_)
 refine br (y < n) (by rw [e_lss hA]) (fun _ => ?_) (fun q => by omega) <;> refine zc ?_
 refine lcell_inner hA hlow hn n8 q1 q2 q3 t1 t2 t3 lin hc y0 (by omega) (fun h' e' => ?_) nn 0 h (by omega) (by omega) (by omega) he
 refine zc ?_
 rw [add64 hA (by omega) (by omega)]
 exact ih (y + 1) h' (by omega) (by omega) (by omega) e'
end Go.Proofs.Ytkbgkjlgnmlghaa
