import Derived.Test.YtkbgkjlgnmlghaaGreatCaA
import Derived.Test.YtkbgkjlgnmlghaaGreatCaS
set_option linter.unusedSimpArgs false
set_option linter.unusedVariables false
namespace Go.Proofs.YtkbgkjlgnmlghaaGreat
open Go.Sim
set_option linter.unusedVariables false
set_option maxRecDepth 100000
def wQ (m k i : Int) : Rat:=if i = 0 then rq (k - m % k) k else rq (m % k) k
structure Coord (n m k : Int) : Prop where
 c : coordOK n m k
 n0 : 2 ≤ n
 n1 : n ≤ 8
theorem Coord.k1 {n m k : Int} (h : Coord n m k) : 1 ≤ k:=((okF_iff m k).1 h.c.1).1
theorem Coord.m1 {n m k : Int} (h : Coord n m k) : m < 48:=by
 have h1:=h.c.2.2.2;have h2:=h.n1;have h3:=h.c.2.2.1;have h4:=h.k1
 have : n * k ≤ 8 * 6:=Int.mul_le_mul h2 h3 (by omega) (by omega)
 omega
theorem Coord.gcd {n m k : Int} (h : Coord n m k) : Int.gcd m k = 1:=((okF_iff m k).1 h.c.1).2.2.2.2
theorem Coord.rem {n m k : Int} (h : Coord n m k) : 0 ≤ m % k ∧ m % k < k:=⟨Int.emod_nonneg _ (by have:=h.k1;omega),Int.emod_lt_of_pos _ (by have:=h.k1;omega)⟩
theorem Coord.x {n m k : Int} (h : Coord n m k) : 0 ≤ m / k ∧ m / k < n:=by
 have k1:=h.k1
 refine ⟨Int.ediv_nonneg h.c.2.1 (by omega),(Int.ediv_lt_iff_lt_mul (by omega)).2 h.c.2.2.2⟩
theorem Coord.f1 {n m k : Int} (h : Coord n m k) : isF (m % k) k (rq (m % k) k):=by
 have r:=h.rem;have k1:=h.k1;have k6:=h.c.2.2.1
 refine okF.is ((okF_iff _ _).2 ⟨k1,by omega,by omega,by omega,?_⟩)
 have:=gcd_rem (a:=m) (b:=k) (by omega) h.c.2.1
 rw [Int.gcd_comm,this]
 exact h.gcd
theorem Coord.f0 {n m k : Int} (h : Coord n m k) : isF (k - m % k) k (rq (k - m % k) k):=by
 have r:=h.rem;have k1:=h.k1;have k6:=h.c.2.2.1
 refine okF.is ((okF_iff _ _).2 ⟨k1,by omega,by omega,by omega,?_⟩)
 have g:=gcd_rem (a:=m) (b:=k) (by omega) h.c.2.1
 rw [Int.gcd_comm,h.gcd] at g
 have e : (k - m % k).gcd k = (m % k).gcd k:=by
  rw [Int.gcd_comm,Int.gcd_comm (m % k)]
  rw [Int.sub_eq_add_neg,Int.add_comm,Int.gcd_add_self_right,Int.gcd_neg]
 rw [e];exact g
theorem Coord.low {n m k : Int} (h : Coord n m k) : rq m k - ((m / k : Int) : Rat) = rq (m % k) k:=by
 have hk : (k : Rat) ≠ 0:=fun w => by have:=Rat.intCast_inj.1 (show (k : Rat) = ((0 : Int) : Rat) from w);have:=h.k1;omega
 have e : (m : Rat) = ((m / k : Int) : Rat) * (k : Rat) + ((m % k : Int) : Rat):=by
  rw [← Rat.intCast_mul,← Rat.intCast_add]
  congr 1
  have:=Int.mul_ediv_add_emod m k
  rw [Int.mul_comm] at this
  omega
 unfold rq
 rw [e,Rat.div_def,Rat.div_def]
 have:=Rat.mul_inv_cancel _ hk
 grind
theorem Coord.up {n m k : Int} (h : Coord n m k) : ((1 : Int) : Rat) - rq (m % k) k = rq (k - m % k) k:=by
 have hk : (k : Rat) ≠ 0:=fun w => by have:=Rat.intCast_inj.1 (show (k : Rat) = ((0 : Int) : Rat) from w);have:=h.k1;omega
 unfold rq
 rw [Rat.intCast_sub,Rat.div_def,Rat.div_def]
 have:=Rat.mul_inv_cancel _ hk
 have e1 : ((1 : Int) : Rat) = 1:=rfl
 grind
variable {F : Prims} {call head arith cmp scmp bnot bsame conv neg imax imin ofNat slen place inR nz geZ rd wr push next mkOK nat zeros sadd eqAgg cut slc sslc strAt part app cpy putAt fresh lowered bump wrote addN lt ne fpAll fpApp brk yn rng mget mput mnew bytes clr : _} (hA : AP F ⟨call,head,arith,cmp,scmp,bnot,bsame,conv,neg,imax,imin,ofNat,slen,place,inR,nz,geZ,rd,wr,push,next,mkOK,nat,zeros,sadd,eqAgg,cut,slc,sslc,strAt,part,app,cpy,putAt,fresh,lowered,bump,wrote,addN,lt,ne,fpAll,fpApp,brk,yn,rng,mget,mput,mnew,bytes,clr⟩)
include hA
theorem shares_ok {h : AHeap} (hlow : h.low ≤ h.next) {n m k : Int} (hc : Coord n m k) {Q : Value → AHeap → Prop}
  (hQ : ∀ h',Ext h h' → Q (.tuple #[.int .i64 (m / k),.agg #[.int .i64 (k - m % k),.int .i64 k,.int .i64 (m % k),.int .i64 k],.int .i64 0]) h') : call 30 [.agg #[.int .i64 m,.int .i64 k]] h Q:=by
 have hq:=hc.c.1.is
 have x:=hc.x
 have n1:=hc.n1
 have hx:=isF_int (n:=m / k) (by omega) (by omega)
 have f9:=isF_int (n:=1) (by omega) (by omega)
 have f1:=hc.f1
 have f0:=hc.f0
 have lo:=hc.low
 have up:=hc.up
 generalize m % k = r at *
 generalize hfl : m / k = fl at *
 refine hA.bodyR Tryz.func30 r30_ok (hA.alike _ _ _ rfl) hlow (zc ?_)
 refine floor_ok hA hlow hq (fun h1 x1 => ⟨_,_,rfl,?_⟩)
 rw [hfl]
 refine zc ?_
 refine br False (by rw [e_neq hA];rfl) (fun q => q.elim) (fun _ => ?_) <;> refine zc ?_
 refine fsub_ok hA (x1.lowOK hlow) hq.i64n hq.i64d hx.i64n hx.i64d (fun a b e k2 h2 x2 => ⟨_,_,_,rfl,?_⟩)
 obtain ⟨w2,rfl⟩:=opIs_of hq hx (by rw [lo];exact f1.2.2) k2
 obtain ⟨rfl,rfl⟩ : a = r ∧ b = k:=by
  have k2 : isF a b (rq m k - (fl : Rat)):=w2
  rw [lo] at k2
  exact ⟨k2.1.trans f1.1.symm,k2.2.1.trans f1.2.1.symm⟩
 have y2:=x1.trans x2
 refine zc ?_
 refine br False (by rw [e_neq hA];rfl) (fun q => q.elim) (fun _ => ?_) <;> refine zc ?_
 refine fsub_ok hA (y2.lowOK hlow) f9.i64n f9.i64d f1.i64n f1.i64d (fun a' b' e k3 h3 x3 => ⟨_,_,_,rfl,?_⟩)
 obtain ⟨w3,rfl⟩:=opIs_of f9 f1 (by rw [up];exact f0.2.2) k3
 obtain ⟨rfl,rfl⟩ : a' = b - a ∧ b' = b:=by
  have k3 : isF a' b' (((1 : Int) : Rat) - rq a b):=w3
  rw [up] at k3
  exact ⟨k3.1.trans f0.1.symm,k3.2.1.trans f0.2.1.symm⟩
 refine zc ?_
 exact hQ _ ((y2.trans x3).trans (ext_bump hA _ _))
end Go.Proofs.YtkbgkjlgnmlghaaGreat
