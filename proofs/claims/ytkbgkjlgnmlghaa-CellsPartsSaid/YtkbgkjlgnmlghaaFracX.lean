import Derived.Test.YtkbgkjlgnmlghaaSymRows
import Derived.Test.YtkbgkjlgnmlghaaFracR
import Derived.Test.YtkbgkjlgnmlghaaFracA
set_option linter.unusedSimpArgs false
set_option linter.unusedVariables false
namespace Go.Proofs.Ytkbgkjlgnmlghaa
open Go.Sim
set_option linter.unusedVariables false
set_option maxRecDepth 100000
def rq (n d : Int) : Rat:=(n : Rat) / (d : Rat)
theorem okF.is {n d : Int} (h : okF n d) : isF n d (rq n d):=by
 obtain ⟨q,hq⟩:=h
 have:=hq.val
 unfold rq
 rw [← this]
 exact hq
theorem isF.rq {n d : Int} {q : Rat} (h : isF n d q) : rq n d = q:=h.val.symm
theorem isF.ok {n d : Int} {q : Rat} (h : isF n d q) : okF n d:=⟨q,h⟩
theorem isF_int {n : Int} (h0 : -1000000000000000000 ≤ n) (h1 : n ≤ 1000000000000000000) : isF n 1 (n : Rat):=⟨(Rat.num_intCast n).symm,by rw [Rat.den_intCast];rfl,by rw [Rat.num_intCast];exact h0,by rw [Rat.num_intCast];exact h1,by rw [Rat.den_intCast];decide⟩
theorem cmpIs_of {n d m e c r : Int} {p q : Rat} (hp : isF n d p) (hq : isF m e q) (k : CmpIs n d m e c r) : c = cmpF p q ∧ r = 0:=by
 rcases k with ⟨w,_⟩ | ⟨p',q',hp',hq',k1,k2⟩
 ·exact absurd ⟨⟨p,hp⟩,⟨q,hq⟩⟩ w
 ·obtain rfl:=hp.uniq hp'
  obtain rfl:=hq.uniq hq'
  exact ⟨k1,k2⟩
theorem opIs_of {f : Rat → Rat → Rat} {n d m e a b r : Int} {p q : Rat} (hp : isF n d p) (hq : isF m e q) (hf : fits (f p q)) (k : OpIs f n d m e a b r) : isF a b (f p q) ∧ r = 0:=by
 rcases k with ⟨w,_⟩ | ⟨p',q',hp',hq',k⟩
 ·exact absurd ⟨⟨p,hp⟩,⟨q,hq⟩⟩ w
 ·obtain rfl:=hp.uniq hp'
  obtain rfl:=hq.uniq hq'
  rcases k with ⟨_,rfl,rfl,rfl⟩ | ⟨w,_⟩
  ·exact ⟨⟨rfl,rfl,hf⟩,rfl⟩
  ·exact absurd hf w
theorem lt_int {n d m : Int} {q : Rat} (h : isF n d q) : q < (m : Rat) ↔ n < m * d:=by
 rw [Rat.lt_iff,← h.1,← h.2.1,Rat.num_intCast,Rat.den_intCast]
 show n * 1 < m * d ↔ _
 rw [Int.mul_one]
variable {F : Prims} {call head arith cmp scmp bnot bsame conv neg imax imin ofNat slen place inR nz geZ rd wr push next mkOK nat zeros sadd eqAgg cut slc sslc strAt part app cpy putAt fresh lowered bump wrote addN lt ne fpAll brk yn rng mget mput mnew bytes clr : _} (hA : AP F ⟨call,head,arith,cmp,scmp,bnot,bsame,conv,neg,imax,imin,ofNat,slen,place,inR,nz,geZ,rd,wr,push,next,mkOK,nat,zeros,sadd,eqAgg,cut,slc,sslc,strAt,part,app,cpy,putAt,fresh,lowered,bump,wrote,addN,lt,ne,fpAll,brk,yn,rng,mget,mput,mnew,bytes,clr⟩)
include hA
theorem of_ok' {h : AHeap} (hlow : h.low ≤ h.next) {n : Int} {Q : Value → AHeap → Prop} (hQ : Q (.agg #[.int .i64 n,.int .i64 1]) h) : call 24 [.int .i64 n] h Q:=by
 refine hA.bodyR Try.func24 r24_ok (hA.alike _ _ _ rfl) hlow (zc ?_)
 exact hQ
theorem floor0_ok {h : AHeap} (hlow : h.low ≤ h.next) {n d : Int} (hn : i64 n) (n0 : -9223372036854775808 < n) (hd : 0 < d) {Q : Value → AHeap → Prop} (hQ : Q (.int .i64 (n / d)) h) : call 82 [.int .i64 n,.int .i64 d] h Q:=by
 unfold i64 at hn
 have t0:=Int.natAbs_tdiv_le_natAbs n d
 refine hA.bodyR Try.func82 r82_ok (hA.alike _ _ _ rfl) hlow (zc ?_)
 have e1 : arith .quo .i64 n d = n.tdiv d:=by rw [e_quo hA,wrap64 (by omega) (by omega)]
 have e2 : arith .rem .i64 n d = n.tmod d:=e_rem hA _ _ _
 have key:=Int.mul_tdiv_add_tmod n d
 have lt1 : -d < n.tmod d:=Int.lt_tmod_of_pos n hd
 have lt2 : n.tmod d < d:=Int.tmod_lt_of_pos n hd
 generalize n.tdiv d = t at *
 generalize n.tmod d = s at *
 have ed:=Int.mul_ediv_add_emod n d
 have m0:=Int.emod_nonneg n (show d ≠ 0 by omega)
 have m1:=Int.emod_lt_of_pos n hd
 (refine zq ?_;repeat ((first | rw [e1] | rw [e2]);refine zq ?_))
 refine br (s < 0) (by rw [e_lss hA]) (fun c => ?_) (fun c => ?_) <;> refine zc ?_
 ·have e3 : t - 1 = n / d:=by
   have w : s + d + d * (t - 1) = n:=by rw [Int.mul_sub,Int.mul_one];omega
   exact ((Int.ediv_emod_unique hd).2 ⟨w,by omega,by omega⟩).1.symm
  have t1 : -9223372036854775808 ≤ t - 1:=by omega
  rw [sub64 hA (by omega) (by omega),e3]
  exact hQ
 ·have e3 : t = n / d:=((Int.ediv_emod_unique (r:=s) hd).2 ⟨by omega,by omega,by omega⟩).1.symm
  rw [e3]
  exact hQ
theorem floor_ok {h : AHeap} (hlow : h.low ≤ h.next) {n d : Int} {q : Rat} (hq : isF n d q) {Q : Value → AHeap → Prop} (hQ : ∀ h',Ext h h' → Q (.tuple #[.int .i64 (n / d),.int .i64 0]) h') : call 56 [.agg #[.int .i64 n,.int .i64 d]] h Q:=by
 have d1:=hq.den
 have n1:=hq.2.2.1
 rw [← hq.1] at n1
 refine hA.bodyR Try.func56 r56_ok (hA.alike _ _ _ rfl) hlow (zc ?_)
 refine check_ok hA hlow hq.i64n hq.i64d (fun e h1 k1 x1 => ⟨_,rfl,?_⟩)
 obtain rfl : e = 0:=by
  rcases k1 with ⟨q,_⟩ | ⟨_,w⟩
  ·exact q
  ·exact absurd hq.ok w
 refine zc ?_
 refine br False (by rw [e_neq hA];rfl) (fun q => q.elim) (fun _ => ?_) <;> refine zc ?_
 refine floor0_ok hA (x1.lowOK hlow) hq.i64n (by omega) (by omega) ⟨_,rfl,?_⟩
 refine zc ?_
 exact hQ _ x1
end Go.Proofs.Ytkbgkjlgnmlghaa
