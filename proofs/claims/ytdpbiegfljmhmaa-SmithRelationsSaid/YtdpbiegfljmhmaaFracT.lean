import Derived.Test.YtdpbiegfljmhmaaSymFacts
import Derived.Test.YtdpbiegfljmhmaaFracM
import Derived.Test.YtdpbiegfljmhmaaSeatA
import Derived.Test.YtdpbiegfljmhmaaSeatB
import Derived.Test.YtdpbiegfljmhmaaSeatC
import Derived.Test.YtdpbiegfljmhmaaSeatD
import Derived.Test.YtdpbiegfljmhmaaSeatE
import Derived.Test.YtdpbiegfljmhmaaSeatF
import Derived.Test.YtdpbiegfljmhmaaSeatG
import Derived.Test.YtdpbiegfljmhmaaSeatH
import Derived.KernelRfl
set_option linter.unusedSimpArgs false
set_option linter.unusedVariables false
namespace Go.Proofs.Ytdpbiegfljmhmaa
open Go.Sim
theorem wrapU{x:Int}(h1:0<=x)(h2:x<18446744073709551616):IntKind.wrap .u64 x=x:=by
 unfold IntKind.wrap;simp[IntKind.bits,IntKind.signed,IntKind.min,IntKind.max];omega
theorem wrapUm(x:Int):IntKind.wrap .u64 x=x % 18446744073709551616:=by
 unfold IntKind.wrap;simp[IntKind.bits,IntKind.signed,IntKind.min,IntKind.max];try omega
theorem ofInt64{a:Int}(h0:0<=a)(h1:a<18446744073709551616):(BitVec.ofInt 64 a).toNat=a.toNat:=by
 rw[BitVec.toNat_ofInt]
 congr 1
 omega
theorem and64{a b:Int}(h0:0<=a)(h1:a<18446744073709551616)(g0:0<=b)(g1:b<18446744073709551616):(BitVec.ofInt 64 a &&& BitVec.ofInt 64 b).toNat=a.toNat &&& b.toNat:=by
 rw[BitVec.toNat_and,ofInt64 h0 h1,ofInt64 g0 g1]
theorem or64{a b:Int}(h0:0<=a)(h1:a<18446744073709551616)(g0:0<=b)(g1:b<18446744073709551616):(BitVec.ofInt 64 a ||| BitVec.ofInt 64 b).toNat=a.toNat ||| b.toNat:=by
 rw[BitVec.toNat_or,ofInt64 h0 h1,ofInt64 g0 g1]
theorem _root_.Go.Sim.Ext.lower'{h h1 h2:AHeap}(e:Ext h h2)(e1:Ext h h1)(hl:h.low<=h.next):Ext h (h2.lowered h1.low):=by
 have a:=e.lowG;have b:=e1.lowG;have c:=e.low hl;refine⟨e.next,fun _=>?_,?_,e.get⟩
 ·show Nat.min h1.low h2.low<=h2.next
  have:Nat.min h1.low h2.low<=h2.low:=Nat.min_le_right _ _;omega
 ·show Nat.min h.low h.next<=Nat.min h1.low h2.low
  exact Nat.le_min.2 ⟨b,a⟩
variable{F:Prims}{a0 b0 arith cmp c0 bnot bsame conv d0 e0 f0 i0 j0 k0 l0 nz geZ rd wr m0 next n0 o0 p0 q0 r0 s0 t0 u0 v0 w0 x0 y0 z0 fresh lowered bump a1 b1 lt ne c1 d1 f1 yn i1 j1 k1 l1 m1 n1:_}(hA:AP F ⟨a0,b0,arith,cmp,c0,bnot,bsame,conv,d0,e0,f0,i0,j0,k0,l0,nz,geZ,rd,wr,m0,next,n0,o0,p0,q0,r0,s0,t0,u0,v0,w0,x0,y0,z0,fresh,lowered,bump,a1,b1,lt,ne,c1,d1,f1,yn,i1,j1,k1,l1,m1,n1⟩)
include hA
theorem ext_fresh(X:AHeap):Ext X (fresh X):=by rw[e_fresh hA];exact .freshed _
theorem low_fresh(X:AHeap):(fresh X).low<=(fresh X).next:=by rw[e_fresh hA];exact freshed_low _
theorem ext_low{h X h':AHeap}(hl:h.low<=h.next)(y:Ext h X)(z:Ext (fresh X) h'):Ext h (lowered X h'):=by
 rw[e_lowered hA];exact Ext.lower' ((y.trans (ext_fresh hA X)).trans z) y hl
theorem low_same{X:AHeap}(hl:X.low<=X.next):lowered X (fresh X)=X:=by rw[e_lowered hA,e_fresh hA];exact lowered_freshed hl
theorem signs_ok(a b:Int):bnot (bsame (cmp .lss a 0) (cmp .lss b 0))=true↔¬(a<0↔b<0):=by
 rw[e_bnot hA,e_bsame hA,e_lss hA,e_lss hA];by_cases h1:a<0<;>by_cases h2:b<0<;>simp[h1,h2]
theorem ext_bump(h:AHeap)(n:Nat):Ext h (bump h n):=by rw[e_bump hA];exact .bump _ _
theorem e_and(k:IntKind)(a b:Int):arith .and k a b=k.wrap (BitVec.ofInt k.bits a &&& BitVec.ofInt k.bits b).toNat:=by have:=hA.eq;injections;subst_vars;rfl
theorem e_or(k:IntKind)(a b:Int):arith .or k a b=k.wrap (BitVec.ofInt k.bits a ||| BitVec.ofInt k.bits b).toNat:=by have:=hA.eq;injections;subst_vars;rfl
theorem e_shl(k:IntKind)(a b:Int):arith .shl k a b=k.wrap (a*2 ^ (min b.toNat k.bits)):=by have:=hA.eq;injections;subst_vars;rfl
theorem e_shr(k:IntKind)(a b:Int):arith .shr k a b=a.fdiv (2 ^ (min b.toNat k.bits)):=by have:=hA.eq;injections;subst_vars;rfl
theorem addU{a b:Int}(h1:0<=a+b)(h2:a+b<18446744073709551616):arith .add .u64 a b=a+b:=by rw[e_add hA,wrapU h1 h2]
theorem subU{a b:Int}(h1:0<=a-b)(h2:a-b<18446744073709551616):arith .sub .u64 a b=a-b:=by rw[e_sub hA,wrapU h1 h2]
theorem mulU{a b:Int}(h1:0<=a*b)(h2:a*b<18446744073709551616):arith .mul .u64 a b=a*b:=by rw[e_mul hA,wrapU h1 h2]
theorem mulUm(a b:Int):arith .mul .u64 a b=a*b % 18446744073709551616:=by rw[e_mul hA,wrapUm]
theorem addUm(a b:Int):arith .add .u64 a b=(a+b) % 18446744073709551616:=by rw[e_add hA,wrapUm]
theorem subUm(a b:Int):arith .sub .u64 a b=(a-b) % 18446744073709551616:=by rw[e_sub hA,wrapUm]
theorem quoU{a b:Int}(h0:0<=a)(h1:a<18446744073709551616)(hb:0<b):arith .quo .u64 a b=a / b:=by
 have h2:0<=a / b:=Int.ediv_nonneg h0 (by omega);have h3:a / b<=a:=Int.ediv_le_self _ h0;rw[e_quo hA,Int.tdiv_eq_ediv_of_nonneg h0,wrapU (by omega) (by omega)]
theorem remU{a b:Int}(h0:0<=a):arith .rem .u64 a b=a % b:=by
 rw[e_rem hA,Int.tmod_eq_emod_of_nonneg h0]
theorem convU{a:Int}(h0:0<=a)(h1:a<18446744073709551616):conv .u64 a=a:=by rw[e_conv hA,wrapU h0 h1]
theorem maskU{a:Int}(h0:0<=a)(h1:a<18446744073709551616)(k:Nat){m:Int}(hk:k<=63)(hm:m=2 ^ k-1):arith .and .u64 a m=a % 2 ^ k:=by
 have hp0:(0:Int)<2 ^ k:=Int.pow_pos (by omega);have hp:(1:Int)<=2 ^ k:=by omega
 have hp2:(2:Int) ^ k<=2 ^ 63:=by
  have:=Nat.pow_le_pow_right (n:=2) (by omega) hk
  exact_mod_cast this
 have h63:(2:Int) ^ 63=9223372036854775808:=by rfl
 rw[e_and hA];show IntKind.wrap .u64 _=_;have e:m.toNat=2 ^ k-1:=by
  have:((2 ^ k:Nat):Int)=2 ^ k:=by push_cast;rfl
  omega
 rw[show IntKind.bits .u64=64 from rfl,and64 h0 h1 (by omega) (by omega),e,Nat.and_two_pow_sub_one_eq_mod];have e2:((a.toNat % 2 ^ k:Nat):Int)=a % 2 ^ k:=by
  push_cast
  rw[Int.toNat_of_nonneg h0]
 have h3:0<=a % 2 ^ k:=Int.emod_nonneg _ (by omega);have h4:a % 2 ^ k<2 ^ k:=Int.emod_lt_of_pos _ (by omega);rw[e2,wrapU h3 (by omega)]
theorem shrU{a:Int}(h0:0<=a)(k:Nat)(hk:k<=64){b:Int}(hb:b=k):arith .shr .u64 a b=a / 2 ^ k:=by
 rw[e_shr hA,show IntKind.bits .u64=64 from rfl,hb,Int.toNat_natCast,Nat.min_eq_left hk,Int.fdiv_eq_ediv_of_nonneg _ (Int.le_of_lt (Int.pow_pos (by omega)))]
theorem shlU(a:Int)(k:Nat)(hk:k<=64){b:Int}(hb:b=k):arith .shl .u64 a b=a*2 ^ k % 18446744073709551616:=by
 rw[e_shl hA,show IntKind.bits .u64=64 from rfl,hb,Int.toNat_natCast,Nat.min_eq_left hk,wrapUm]
theorem orU{a b:Int}(k:Nat)(ha:0<=a)(hb0:0<=b)(hb1:b<2 ^ k)(h:a*2 ^ k+b<18446744073709551616):arith .or .u64 (a*2 ^ k) b=a*2 ^ k+b:=by
 have hp:(0:Int)<2 ^ k:=Int.pow_pos (by omega);have hm:0<=a*2 ^ k:=Int.mul_nonneg ha (by omega);rw[e_or hA,show IntKind.bits .u64=64 from rfl,or64 hm (by omega) hb0 (by omega)];have e1:(a*2 ^ k).toNat=2 ^ k*a.toNat:=by
  have:((2 ^ k*a.toNat:Nat):Int)=a*2 ^ k:=by
   push_cast
   rw[Int.toNat_of_nonneg ha,Int.mul_comm]
  omega
 have hk:((2 ^ k:Nat):Int)=2 ^ k:=by push_cast;rfl
 have e2:2 ^ k*a.toNat+b.toNat=2 ^ k*a.toNat ||| b.toNat:=Nat.two_pow_add_eq_or_of_lt (by omega) _;rw[e1,<-e2];have e3:((2 ^ k*a.toNat+b.toNat:Nat):Int)=a*2 ^ k+b:=by
  push_cast
  rw[Int.toNat_of_nonneg ha,Int.toNat_of_nonneg hb0,Int.mul_comm]
 rw[e3,wrapU (by omega) (by omega)]
theorem geZ_ok{b:Int}(h:0<=b):geZ b:=by
 have e:geZ b=(0<=b):=by have:=hA.eq;injections;subst_vars;rfl
 rw[e];exact h
theorem mask32{a:Int}(h0:0<=a)(h1:a<18446744073709551616):arith .and .u64 a 4294967295=a % 4294967296:=maskU hA h0 h1 32 (by omega) (by decide)
theorem shr32{a:Int}(h0:0<=a):arith .shr .u64 a 32=a / 4294967296:=shrU hA h0 32 (by omega) (by rfl)
end Go.Proofs.Ytdpbiegfljmhmaa
namespace Go.Proofs.Ytdpbiegfljmhmaa
open Go.Sim
set_option maxRecDepth 100000
theorem eqF(a b a' b':Int):∃r,eqA Try.prog 30 45 (.agg #[.int .i64 a,.int .i64 b]) (.agg #[.int .i64 a',.int .i64 b'])=some r/\(r=true↔a=a'/\b=b'):=by
 have h3:Try.prog.underlying 2=some (.int .i64):=by kernel_rfl
 have hst:Try.prog.stoodInHeld 45=false:=by kernel_rfl
 have i3:isAggB Try.prog 2=some false:=by kernel_rfl
 have e3:∀(n:Nat) (x y:Int),eqA Try.prog (n+1) 2 (.int .i64 x) (.int .i64 y)=some (x == y):=by
  intro n x y;unfold eqA;rw[h3];simp
 have key:eqA Try.prog (28+1+1) 45 (.agg #[.int .i64 a,.int .i64 b]) (.agg #[.int .i64 a',.int .i64 b'])=some ((a == a') && (b == b')):=by
  unfold eqA;rw[Try.underlying45];have e3':∀(x y:Int),eqA Try.prog 29 2 (.int .i64 x) (.int .i64 y)=some (x == y):=e3 28;simp only[hst,cond_false,List.foldr,partA,i3,List.getElem?_cons_zero,List.getElem?_cons_succ,e3',String.reduceEq,if_false];cases a == a'<;>cases b == b'<;>rfl
 refine⟨_,key,?_⟩;simp only[Bool.and_eq_true,beq_iff_eq]
theorem guardB:Try.prog.eqGuardType Try.prog.depth 73=false:=by kernel_rfl
theorem eqB(a b c d:Int):∃r,eqA Try.prog 30 73 (.agg #[.int .u64 a,.int .u64 b,.int .u64 c,.int .u64 d]) (.agg #[.int .u64 0,.int .u64 0,.int .u64 0,.int .u64 0])=some r/\(r=true↔a=0/\b=0/\c=0/\d=0):=by
 have h3:Try.prog.underlying 69=some (.int .u64):=by kernel_rfl
 have h4:Try.prog.underlying 71=some (.array 4 69):=by kernel_rfl
 have hst:Try.prog.stoodInHeld 73=false:=by kernel_rfl
 have i3:isAggB Try.prog 69=some false:=by kernel_rfl
 have i4:isAggB Try.prog 71=some true:=by kernel_rfl
 have s3:sizeT Try.prog 69=some 1:=by kernel_rfl
 have s4:sizeT Try.prog 71=some 4:=by kernel_rfl
 have e3:∀(n:Nat) (x y:Int),eqA Try.prog (n+1) 69 (.int .u64 x) (.int .u64 y)=some (x == y):=by
  intro n x y;unfold eqA;rw[h3];simp
 have e4:eqA Try.prog (28+1) 71 (.agg #[.int .u64 a,.int .u64 b,.int .u64 c,.int .u64 d]) (.agg #[.int .u64 0,.int .u64 0,.int .u64 0,.int .u64 0])=some ((a == 0) && ((b == 0) && ((c == 0) && (d == 0)))):=by
  unfold eqA;rw[h4];have e3':∀(x y:Int),eqA Try.prog 28 69 (.int .u64 x) (.int .u64 y)=some (x == y):=e3 27;simp only[s3,List.range,List.range.loop,List.foldr,partA,i3,List.getElem?_cons_zero,List.getElem?_cons_succ,e3',Nat.mul_one];cases a == 0<;>cases b == 0<;>cases c == 0<;>cases d == 0<;>rfl
 have key:eqA Try.prog (28+1+1) 73 (.agg #[.int .u64 a,.int .u64 b,.int .u64 c,.int .u64 d]) (.agg #[.int .u64 0,.int .u64 0,.int .u64 0,.int .u64 0])=some ((a == 0) && ((b == 0) && ((c == 0) && (d == 0)))):=by
  unfold eqA;rw[Try.underlying73];have r4:∀w x y z:Value,readN [w,x,y,z] 0 4=some [w,x,y,z]:=fun _ _ _ _=>rfl
  simp only[hst,cond_false,List.foldr,partA,i4,s4,r4,String.reduceEq,if_false];rw[show(29:Nat)=28+1 from rfl,e4];cases((a == 0) && ((b == 0) && ((c == 0) && (d == 0))))<;>rfl
 refine⟨_,key,?_⟩;simp only[Bool.and_eq_true,beq_iff_eq]
