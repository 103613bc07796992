import Derived.Test.YtkbgkjlgnmlghaaGreatCaTc
import Derived.Test.YtkbgkjlgnmlghaaGreatCaTd
set_option linter.unusedSimpArgs false
set_option linter.unusedVariables false
namespace Go.Proofs.YtkbgkjlgnmlghaaGreat
open Go.Sim
set_option linter.unusedVariables false
set_option maxRecDepth 100000
variable {F : Prims} {call head arith cmp scmp bnot bsame conv neg imax imin ofNat slen place inR nz geZ rd wr push next mkOK nat zeros sadd eqAgg cut slc sslc strAt part app cpy putAt fresh lowered bump wrote addN lt ne fpAll fpApp brk yn rng mget mput mnew bytes clr : _} (hA : AP F ⟨call,head,arith,cmp,scmp,bnot,bsame,conv,neg,imax,imin,ofNat,slen,place,inR,nz,geZ,rd,wr,push,next,mkOK,nat,zeros,sadd,eqAgg,cut,slc,sslc,strAt,part,app,cpy,putAt,fresh,lowered,bump,wrote,addN,lt,ne,fpAll,fpApp,brk,yn,rng,mget,mput,mnew,bytes,clr⟩)
include hA
theorem cell_later {h h' : AHeap} (e : Ext h h') {b o N : Nat} {hs : List Hd} {g : Gd} (t : GridRd h (some ⟨b,o,none⟩) N hs g) (sq : SqG N g) (n2 : 2 ≤ N) {ra : Option Addr} {rn rc : Nat} {a b' d : Int} (e1 : (gt hs 0).a = ra) (e2 : (gt hs 0).n = rn) (e3 : (gt hs 0).c = rc) (e4 : gt (gt g 0) 0 = ⟨a,b',d⟩) :
  ∃ rb ro,ra = some ⟨rb,ro,none⟩ ∧ 0 < rn ∧ rd h' b (place o 0 1) 1 [.slice (some ⟨rb,ro,none⟩) rn rc] ∧ rd h' rb (place ro 0 3) 3 [.int .i64 a,.int .i64 b',.int .i64 d]:=by
 have t:=t.ext e
 have hr:=head_rd hA t (y:=0) (by omega) (by omega)
 have r:=t.row sq 0 (by omega) (by omega)
 have ry:=sq.row 0 (by omega) (by omega)
 have rl:=r.len
 rw [ry] at rl
 obtain ⟨rb,ro,a1,b1,d1,ea,_,hg,rv⟩:=cs_at r (i:=0) (by omega) (by omega)
 rw [e4] at hg
 cases hg
 rw [ea,e2,e3] at hr
 exact ⟨rb,ro,by rw [← e1];exact ea,by omega,hr,rd_ok hA rv⟩
set_option maxHeartbeats 1000000 in
theorem ltakes_ok {h : AHeap} (hlow : h.low ≤ h.next) {ga sa va wa : Option Addr} {G N M L gc sc vc wc : Nat} {l : List Sk} {v w : List Ck} {hs : List Hd} {g : Gd} (hG : G ≤ 9223372036854775807) (hg : GridRd h ga G hs g) (hl : Sps h sa N l) (hi : allS l) (hv : Cs h va M v) (hw : Cs h wa L w) {Q : Value → AHeap → Prop}
  (hQ : ∀ h',Ext h h' → Q (.bool true) h') : call 3 [.slice ga G gc,.slice sa N sc,.slice va M vc,.slice wa L wc] h Q:=by
 refine hA.bodyR Tryz.func3 r3_ok (hA.alike _ _ _ rfl) hlow (zc ?_)
 refine greatGrid_ok hA hlow hG hg (fun r h1 k1 x1 => ⟨_,rfl,?_⟩)
 cases r with
 | true =>
  refine zc ?_
  exact hQ h1 x1
 | false =>
 refine zc ?_
 refine great_ok hA (x1.lowOK hlow) (fun r k2 => ⟨_,rfl,?_⟩)
 cases r with
 | true =>
  refine zc ?_
  exact hQ h1 x1
 | false =>
 obtain ⟨n40,m80⟩:=k2 rfl
 refine zc ?_
 refine br (80 < (L : Int)) (by rw [e_gtr hA,e_ofNat hA]) (fun q => ?_) (fun q => ?_) <;> refine zc ?_
 ·exact hQ h1 x1
 have l80 : L ≤ 80:=by omega
 refine kdeg_gen hA (x1.lowOK hlow) (hg.ext x1) (hl.ext x1) hi (by omega) (fun h2 a2 M2 c2 Z2 e2 k2 r2 s2 x2 => ⟨_,_,_,_,rfl,?_⟩)
 have y2:=x1.trans x2
 refine zc ?_
 refine rdeg_gen hA (y2.lowOK hlow) (hg.ext y2) (hl.ext y2) hi (by omega) (fun h3 a3 M3 c3 Z3 e3 k3 r3 s3 x3 => ⟨_,_,_,_,rfl,?_⟩)
 have y3:=y2.trans x3
 refine zc ?_
 refine kdot_gen hA (y3.lowOK hlow) (hv.ext y3) (hw.ext y3) (fun p4 q4 u4 e4 h4 k4 x4 => ⟨_,_,_,_,rfl,?_⟩)
 have y4:=y3.trans x4
 refine zc ?_
 refine rdot_gen hA (y4.lowOK hlow) (hv.ext y4) (hw.ext y4) m80 l80 (fun p5 q5 u5 e5 h5 k5 x5 => ⟨_,_,_,_,rfl,?_⟩)
 have y5:=y4.trans x5
 refine zc ?_
 obtain ⟨rfl,rfl⟩:=k2.uniq k3
 obtain ⟨⟨rfl,rfl,rfl⟩,rfl⟩:=k4.uniq k5
 refine kflat_gen hA (y5.lowOK hlow) (hg.ext y5) (fun h6 e6 k6 x6 => ⟨_,_,_,_,rfl,?_⟩) (fun h6 b6 M6 c6 n2 n8 sq k6 eM own6 b0 b1 x6 => ⟨_,_,_,_,rfl,?_⟩)
 ·have y6:=y5.trans x6
  refine zc ?_
  refine rflat_gen hA (y6.lowOK hlow) (hg.ext y6) (fun h7 a7 M7 c7 o7 e7 k7 r7 s7 x7 => ⟨_,_,_,_,rfl,?_⟩)
  have y7:=y6.trans x7
  obtain ⟨rfl,rfl⟩:=k6.uniq k7
  refine zc ?_
  refine csame_ok hA (y7.lowOK hlow) (r2.ext (((((x3.trans x4).trans x5).trans x6).trans x7))) (r3.ext ((((x4.trans x5).trans x6).trans x7))) (by omega) (fun r h8 k8 x8 => ⟨_,rfl,?_⟩)
  obtain rfl : r = true:=k8.2 rfl
  have y8:=y7.trans x8
  obtain ⟨rr,hr1,hr2⟩:=eqC p4 q4 u4 p4 q4 u4
  obtain rfl : rr = true:=hr2.2 ⟨rfl,rfl,rfl⟩
  refine zc ?_
  rw [show bnot true = false by rw [e_bnot hA];rfl]
  refine zc ?_
  refine br False (by rw [e_neq hA];simp) (fun q => q.elim) (fun _ => ?_) <;> refine zc ?_
  rw [e_eqAgg hA]
  refine ⟨guardC,true,hr1,?_⟩
  refine zc ?_
  rw [show bnot true = false by rw [e_bnot hA];rfl]
  refine zc ?_
  refine br False (by rw [e_neq hA];simp) (fun q => q.elim) (fun _ => ?_) <;> refine zc ?_
  refine csame_ok hA (y8.lowOK hlow) (cs_none _) (r7.ext x8) (by omega) (fun r h9 k9 x9 => ⟨_,rfl,?_⟩)
  obtain rfl : r = true:=k9.2 rfl
  have y9:=y8.trans x9
  refine zc ?_
  rw [show bnot true = false by rw [e_bnot hA];rfl]
  refine zc ?_
  refine br False (by rw [e_neq hA];simp) (fun q => q.elim) (fun _ => ?_) <;> refine zc ?_
  refine br False (by rw [e_gtr hA,e_ofNat hA];rfl) (fun q => q.elim) (fun _ => ?_) <;> refine zc ?_
  exact hQ h9 y9
 ·have y6:=y5.trans x6
  have NN4 : 2 * 2 ≤ G * G:=Nat.mul_le_mul n2 n2
  have NN6 : G * G ≤ 8 * 8:=Nat.mul_le_mul n8 n8
  have r6:=Own.rows own6 ck_len (by omega) b1
  have l6 : g.flatten.length = M6:=by rw [sq.flen];exact eM.symm
  refine zc ?_
  refine rflat_gen hA (y6.lowOK hlow) (hg.ext y6) (fun h7 a7 M7 c7 o7 e7 k7 r7 s7 x7 => ⟨_,_,_,_,rfl,?_⟩)
  have y7:=y6.trans x7
  obtain ⟨eo,rfl⟩:=k6.uniq k7
  refine zc ?_
  refine csame_ok hA (y7.lowOK hlow) (r2.ext (((((x3.trans x4).trans x5).trans x6).trans x7))) (r3.ext ((((x4.trans x5).trans x6).trans x7))) (by omega) (fun r h8 k8 x8 => ⟨_,rfl,?_⟩)
  obtain rfl : r = true:=k8.2 rfl
  have y8:=y7.trans x8
  obtain ⟨rr,hr1,hr2⟩:=eqC p4 q4 u4 p4 q4 u4
  obtain rfl : rr = true:=hr2.2 ⟨rfl,rfl,rfl⟩
  refine zc ?_
  rw [show bnot true = false by rw [e_bnot hA];rfl]
  refine zc ?_
  refine br False (by rw [e_neq hA];simp) (fun q => q.elim) (fun _ => ?_) <;> refine zc ?_
  rw [e_eqAgg hA]
  refine ⟨guardC,true,hr1,?_⟩
  refine zc ?_
  rw [show bnot true = false by rw [e_bnot hA];rfl]
  refine zc ?_
  refine br False (by rw [e_neq hA];simp) (fun q => q.elim) (fun _ => ?_) <;> refine zc ?_
  have r68:=r6.ext (x7.trans x8)
  rw [l6] at r68
  refine csame_ok hA (y8.lowOK hlow) r68 (r7.ext x8) (by omega) (fun r h9 k9 x9 => ⟨_,rfl,?_⟩)
  obtain rfl : r = true:=k9.2 eo
  have y9:=y8.trans x9
  have own9:=own6.ext ((x7.trans x8).trans x9) b1
  have lt9 : b6 < h9.next:=Nat.lt_of_lt_of_le b1 ((x7.trans x8).trans x9).next
  refine zc ?_
  rw [show bnot true = false by rw [e_bnot hA];rfl]
  refine zc ?_
  refine br False (by rw [e_neq hA];simp) (fun q => q.elim) (fun _ => ?_) <;> refine zc ?_
  refine br (0 < (M6 : Int)) (by rw [e_gtr hA,e_ofNat hA]) (fun _ => ?_) (fun q => by omega) <;> refine zc ?_
  obtain ⟨gb,go,rfl,_⟩:=grid_some hg (by omega)
  obtain ⟨a0,b0',d0,e0⟩ : ∃ a b d,gt (gt g 0) 0 = ⟨a,b,d⟩:=⟨_,_,_,rfl⟩
  obtain ⟨ra,e1⟩ : ∃ z,(gt hs 0).a = z:=⟨_,rfl⟩
  obtain ⟨rn,e2⟩ : ∃ z,(gt hs 0).n = z:=⟨_,rfl⟩
  obtain ⟨rc,e3⟩ : ∃ z,(gt hs 0).c = z:=⟨_,rfl⟩
  obtain ⟨rb,ro,rfl,rn0,d1,d2⟩:=cell_later hA y9 hg sq n2 e1 e2 e3 e0
  obtain ⟨kk,rest,hkr⟩ : ∃ kk rest,g.flatten = kk :: rest:=by
   cases hf : g.flatten with
   | nil => rw [hf] at l6;simp at l6;omega
   | cons kk rest => exact ⟨kk,rest,rfl⟩
  have own9' : Own h9 b6 3 ([.int .i64 kk.a,.int .i64 kk.b,.int .i64 kk.d] ++ rest.flatMap Ck.cells):=by rw [hkr] at own9;exact own9
  have rk : rd h9 b6 (addN (place 0 0 3) 0) 1 [.int .i64 kk.a]:=by
   refine rd_fld hA (i:=0) ?_
   rw [own9'.readG (by simp)]
   rfl
  obtain ⟨n',hn'⟩ : ∃ z,z = arith .add .i64 kk.a 1:=⟨_,rfl⟩
  obtain ⟨hW,w1,w2,w3⟩:=own9'.write (o:=0) (vs:=[.int .i64 n']) (by simp)
  have wk : wr h9 b6 (addN (place 0 0 3) 0) [.int .i64 n'] hW:=wr_fld hA (i:=0) w1
  have yW:=w3.ext y9 (by have:=y5.next;omega)
  obtain ⟨hB,hhB⟩ : ∃ z,z = bump hW 8:=⟨_,rfl⟩
  have yB : Ext h hB:=yW.trans (by rw [hhB];exact ext_bump hA _ _)
  obtain ⟨rb',ro',q',_,d1',d2'⟩:=cell_later hA yB hg sq n2 e1 e2 e3 e0
  cases q'
  obtain ⟨r9,hr3,hr4⟩:=eqC a0 b0' d0 a0 b0' d0
  obtain rfl : r9 = true:=hr4.2 ⟨rfl,rfl,rfl⟩
  refine zq ?_
  rw [← hn']
  refine zq ?_
  rw [← hhB]
  refine zq ?_
  rw [e_eqAgg hA]
  refine ⟨guardC,true,hr3,?_⟩
  refine zc ?_
  exact hQ hB yB
end Go.Proofs.YtkbgkjlgnmlghaaGreat
