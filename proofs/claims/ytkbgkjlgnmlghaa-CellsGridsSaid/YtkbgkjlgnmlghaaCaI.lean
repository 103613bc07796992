import Derived.Test.YtkbgkjlgnmlghaaCaH
import Derived.Test.YtkbgkjlgnmlghaaCaP
set_option linter.unusedSimpArgs false
set_option linter.unusedVariables false
namespace Go.Proofs.Ytkbgkjlgnmlghaa
open Go.Sim
set_option linter.unusedVariables false
set_option maxRecDepth 100000
variable {F : Prims} {call head arith cmp scmp bnot bsame conv neg imax imin ofNat slen place inR nz geZ rd wr push next mkOK nat zeros sadd eqAgg cut slc sslc strAt part app cpy putAt fresh lowered bump wrote addN lt ne fpAll brk yn rng mget mput mnew bytes clr : _} (hA : AP F ⟨call,head,arith,cmp,scmp,bnot,bsame,conv,neg,imax,imin,ofNat,slen,place,inR,nz,geZ,rd,wr,push,next,mkOK,nat,zeros,sadd,eqAgg,cut,slc,sslc,strAt,part,app,cpy,putAt,fresh,lowered,bump,wrote,addN,lt,ne,fpAll,brk,yn,rng,mget,mput,mnew,bytes,clr⟩)
include hA
theorem bld_inner {h0 : AHeap} (hlow : h0.low ≤ h0.next) {n : Int} {nn oa yy : Nat} (hn : n = nn) (n0 : 2 ≤ n) (n1 : n ≤ 8) (hy : yy < nn) {bs : List Nat} {vl vv vk : Value} {Q : Exit → SS → Prop}
  (hQ : ∀ h' b,Bld h0 h' oa nn yy nn bs (some ⟨b,0,none⟩) (someCap 3 nn) → Q (.exit 2) ⟨[(0,.int .i64 n),(1,vl),(2,vv),(9,.slice (some ⟨oa,0,none⟩) nn nn),(34,vk),(35,.int .i64 yy)],0,[],h'⟩) :
  ∀ (m : Nat) (k : Nat) (h : AHeap) (cur : Option Addr) (cc : Nat),nn - k ≤ m → k ≤ nn → Bld h0 h oa nn yy k bs cur cc →
   head 12 13 0 ⟨[(0,.int .i64 n),(1,vl),(2,vv),(9,.slice (some ⟨oa,0,none⟩) nn nn),(10,.int .i64 yy),(34,vk),(35,.int .i64 yy),(38,.int .i64 n),(39,.int .i64 k)],0,[],h⟩ Q:=by
 have fin : ∀ (k : Nat) (h : AHeap) (cur : Option Addr) (cc : Nat),k = nn → Bld h0 h oa nn yy k bs cur cc → ∃ b,cur = some ⟨b,0,none⟩ ∧ cc = someCap 3 nn:=by
  intro k h cur cc hk t
  subst hk
  rcases t.apd with ⟨_,w,_⟩ | ⟨b,e1,e2,_⟩
  ·omega
  ·exact ⟨b,e1,e2⟩
 intro m
 induction m with
 | zero =>
  intro k h cur cc hm hk t
  obtain ⟨b,rfl,rfl⟩:=fin k h cur cc (by omega) t
  obtain rfl : k = nn:=by omega
  obtain ⟨K,hK⟩ : ∃ z : Int,z = k:=⟨_,rfl⟩
  rw [← hK]
  refine hA.roundR Try.func12 r12_ok (zc ?_)
  refine br (K < n) (by rw [e_lss hA]) (fun q => by omega) (fun _ => ?_) <;> refine zc ?_
  exact hQ h b t
 | succ m ih =>
 intro k h cur cc hm hk t
 obtain ⟨K,hK⟩ : ∃ z : Int,z = k:=⟨_,rfl⟩
 by_cases ck : k < nn
 rotate_left
 ·obtain ⟨b,rfl,rfl⟩:=fin k h cur cc (by omega) t
  obtain rfl : k = nn:=by omega
  rw [← hK]
  refine hA.roundR Try.func12 r12_ok (zc ?_)
  refine br (K < n) (by rw [e_lss hA]) (fun q => by omega) (fun _ => ?_) <;> refine zc ?_
  exact hQ h b t
 obtain ⟨Y,hY⟩ : ∃ z : Int,z = yy:=⟨_,rfl⟩
 have rh : rd h oa (place 0 Y 1) 1 [.slice cur k cc]:=by
  rw [e_rd hA,e_place hA,show Y.toNat = yy by omega];exact t.head
 rw [← hK,← hY]
 refine hA.roundR Try.func12 r12_ok (zc ?_)
 refine br (K < n) (by rw [e_lss hA]) (fun _ => ?_) (fun q => by omega) <;> refine zc ?_
 refine zq ?_
 refine appK_ok hA TC ck_len (by omega) ck_ok (v:=zeroK) t.apd (by omega) (fun b' h' ha hx hn' hb' hk' => ?_)
 rw [zs_succ] at ha
 obtain ⟨h'',w1,t2⟩:=t.next ha (hx h0 t.ext t.oldc) hn' hb' hk'
 have rw1 : wr h' oa (place 0 Y 1) [.slice (some ⟨b',0,none⟩) (k + 1) (someCap 3 (k + 1))] h'':=by
  rw [e_wr hA,e_place hA,show Y.toNat = yy by omega];exact w1
 generalize someCap 3 (k + 1) = cc' at *
 obtain ⟨k',hk2⟩ : ∃ z,z = k + 1:=⟨_,rfl⟩
 rw [← hk2] at rw1 t2 ⊢
 refine zq ?_
 rw [add64 hA (by omega) (by omega),show K + 1 = ((k' : Nat) : Int) by omega,hY]
 exact ih k' h'' _ _ (by omega) (by omega) t2
theorem bld_outer {h0 : AHeap} (hlow : h0.low ≤ h0.next) {n : Int} {nn oa : Nat} (hn : n = nn) (n0 : 2 ≤ n) (n1 : n ≤ 8) {vl vv : Value} {K : Int} (hK : K = nn) {Q : Exit → SS → Prop}
  (hQ : ∀ h' bs,Grid2 Ck.cells 3 h0 h' oa bs (zeroG nn) → Q (.exit 0) ⟨[(0,.int .i64 n),(1,vl),(2,vv),(9,.slice (some ⟨oa,0,none⟩) nn nn)],0,[],h'⟩) :
  ∀ (m : Nat) (y : Nat) (h : AHeap) (bs : List Nat),nn - y ≤ m → y < nn → Bld h0 h oa nn y 0 bs none 0 →
   head 12 10 0 ⟨[(0,.int .i64 n),(1,vl),(2,vv),(9,.slice (some ⟨oa,0,none⟩) nn nn),(34,.int .i64 K),(35,.int .i64 y)],0,[],h⟩ Q:=by
 intro m
 induction m with
 | zero => intro y h bs hm hy t;omega
 | succ m ih =>
 intro y h bs hm hy t
 obtain ⟨Y,hY⟩ : ∃ z : Int,z = y:=⟨_,rfl⟩
 rw [← hY]
 refine hA.roundR Try.func12 r12_ok (zc ?_)
 refine br (Y < K) (by rw [e_lss hA]) (fun _ => ?_) (fun q => by omega) <;> refine zc ?_
 rw [hY]
 refine bld_inner hA hlow hn n0 n1 hy (bs:=bs) (fun h' b t' => ?_) nn 0 h none 0 (by omega) (by omega) t
 rw [← hY]
 refine zc ?_
 rw [add64 hA (by omega) (by omega)]
 by_cases c : y + 1 < nn
 ·rw [show Y + 1 = ((y + 1 : Nat) : Int) by omega]
  exact ih (y + 1) h' (bs ++ [b]) (by omega) c (t'.row_done c)
 ·obtain ⟨Z,hZ⟩ : ∃ z,z = Y + 1:=⟨_,rfl⟩
  rw [← hZ]
  refine hA.roundR Try.func12 r12_ok (zc ?_)
  refine br (Z < K) (by rw [e_lss hA]) (fun q => by omega) (fun _ => ?_) <;> refine zc ?_
  exact hQ h' (bs ++ [b]) (t'.done (by omega))
end Go.Proofs.Ytkbgkjlgnmlghaa
