import Derived.Test.YtmkiclinllifiaaSymC
import Derived.Test.YtmkiclinllifiaaSymFacts
import Derived.KernelRfl
set_option linter.unusedSimpArgs false
set_option linter.unusedVariables false
namespace Go.Proofs.Ytmkiclinllifiaa
def fits(q:Rat):Prop:=-1000000000000000000<=q.num/\q.num<=1000000000000000000/\(q.den:Int)<=1000000000000000000
end Go.Proofs.Ytmkiclinllifiaa
namespace Go.Proofs.Ytmkiclinllifiaa
def cmpF(p q:Rat):Int:=if p<q then -1 else if p=q then 0 else 1
theorem cmpF_lt{p q:Rat}:cmpF p q<0↔p<q:=by
 unfold cmpF;split
 ·rename_i h;exact⟨fun _=>h,fun _=>by omega⟩
 ·rename_i h;split<;>exact⟨fun w=>by omega,fun w=>absurd w h⟩
end Go.Proofs.Ytmkiclinllifiaa
namespace Go.Proofs.Ytmkiclinllifiaa
open Go.Sim
theorem wrapU{x:Int}(h1:0<=x)(h2:x<18446744073709551616):IntKind.wrap .u64 x=x:=by
 unfold IntKind.wrap;simp[IntKind.bits,IntKind.signed,IntKind.min,IntKind.max];omega
theorem wrapUm(x:Int):IntKind.wrap .u64 x=x % 18446744073709551616:=by
 unfold IntKind.wrap;simp[IntKind.bits,IntKind.signed,IntKind.min,IntKind.max];try omega
theorem ofInt64{a:Int}(h0:0<=a)(h1:a<18446744073709551616):(BitVec.ofInt 64 a).toNat=a.toNat:=by
 rw[BitVec.toNat_ofInt]
 congr 1
 omega
theorem and64{a b:Int}(h0:0<=a)(h1:a<18446744073709551616)(g0:0<=b)(g1:b<18446744073709551616):(BitVec.ofInt 64 a &&& BitVec.ofInt 64 b).toNat=a.toNat &&& b.toNat:=by
 rw[BitVec.toNat_and,ofInt64 h0 h1,ofInt64 g0 g1]
theorem _root_.Go.Sim.Ext.lower'{h h1 h2:AHeap}(e:Ext h h2)(e1:Ext h h1)(hl:h.low<=h.next):Ext h (h2.lowered h1.low):=by
 have a:=e.lowG;have b:=e1.lowG;have c:=e.low hl;refine⟨e.next,fun _=>?_,?_,e.get⟩
 ·show Nat.min h1.low h2.low<=h2.next
  have:Nat.min h1.low h2.low<=h2.low:=Nat.min_le_right _ _;omega
 ·show Nat.min h.low h.next<=Nat.min h1.low h2.low
  exact Nat.le_min.2 ⟨b,a⟩
variable{F:Prims}{call head arith cmp scmp bnot bsame conv neg imax imin ofNat slen place inR nz geZ rd wr push next mkOK nat zeros sadd eqAgg cut slc sslc strAt part app cpy putAt fresh lowered bump wrote addN lt ne fpAll fpApp brk yn rng mget mput mnew bytes clr mrng ment:_}(hA:AP F ⟨call,head,arith,cmp,scmp,bnot,bsame,conv,neg,imax,imin,ofNat,slen,place,inR,nz,geZ,rd,wr,push,next,mkOK,nat,zeros,sadd,eqAgg,cut,slc,sslc,strAt,part,app,cpy,putAt,fresh,lowered,bump,wrote,addN,lt,ne,fpAll,fpApp,brk,yn,rng,mget,mput,mnew,bytes,clr,mrng,ment⟩)
include hA
theorem ext_fresh(X:AHeap):Ext X (fresh X):=by rw[e_fresh hA];exact .freshed _
theorem low_fresh(X:AHeap):(fresh X).low<=(fresh X).next:=by rw[e_fresh hA];exact freshed_low _
theorem ext_low{h X h':AHeap}(hl:h.low<=h.next)(y:Ext h X)(z:Ext (fresh X) h'):Ext h (lowered X h'):=by
 rw[e_lowered hA];exact Ext.lower' ((y.trans (ext_fresh hA X)).trans z) y hl
theorem low_same{X:AHeap}(hl:X.low<=X.next):lowered X (fresh X)=X:=by rw[e_lowered hA,e_fresh hA];exact lowered_freshed hl
theorem ext_bump(h:AHeap)(n:Nat):Ext h (bump h n):=by rw[e_bump hA];exact .bump _ _
theorem e_and(k:IntKind)(a b:Int):arith .and k a b=k.wrap (BitVec.ofInt k.bits a &&& BitVec.ofInt k.bits b).toNat:=by have:=hA.eq;injections;subst_vars;rfl
theorem e_xor(k:IntKind)(a b:Int):arith .xor k a b=k.wrap (BitVec.ofInt k.bits a ^^^ BitVec.ofInt k.bits b).toNat:=by have:=hA.eq;injections;subst_vars;rfl
theorem e_shl(k:IntKind)(a b:Int):arith .shl k a b=k.wrap (a*2 ^ (min b.toNat k.bits)):=by have:=hA.eq;injections;subst_vars;rfl
theorem e_shr(k:IntKind)(a b:Int):arith .shr k a b=a.fdiv (2 ^ (min b.toNat k.bits)):=by have:=hA.eq;injections;subst_vars;rfl
theorem subU{a b:Int}(h1:0<=a-b)(h2:a-b<18446744073709551616):arith .sub .u64 a b=a-b:=by rw[e_sub hA,wrapU h1 h2]
theorem convU{a:Int}(h0:0<=a)(h1:a<18446744073709551616):conv .u64 a=a:=by rw[e_conv hA,wrapU h0 h1]
theorem maskU{a:Int}(h0:0<=a)(h1:a<18446744073709551616)(k:Nat){m:Int}(hk:k<=63)(hm:m=2 ^ k-1):arith .and .u64 a m=a % 2 ^ k:=by
 have hp0:(0:Int)<2 ^ k:=Int.pow_pos (by omega);have hp:(1:Int)<=2 ^ k:=by omega
 have hp2:(2:Int) ^ k<=2 ^ 63:=by
  have:=Nat.pow_le_pow_right (n:=2) (by omega) hk
  exact_mod_cast this
 have h63:(2:Int) ^ 63=9223372036854775808:=by rfl
 rw[e_and hA];show IntKind.wrap .u64 _=_;have e:m.toNat=2 ^ k-1:=by
  have:((2 ^ k:Nat):Int)=2 ^ k:=by push_cast;rfl
  omega
 rw[show IntKind.bits .u64=64 from rfl,and64 h0 h1 (by omega) (by omega),e,Nat.and_two_pow_sub_one_eq_mod];have e2:((a.toNat % 2 ^ k:Nat):Int)=a % 2 ^ k:=by
  push_cast
  rw[Int.toNat_of_nonneg h0]
 have h3:0<=a % 2 ^ k:=Int.emod_nonneg _ (by omega);have h4:a % 2 ^ k<2 ^ k:=Int.emod_lt_of_pos _ (by omega);rw[e2,wrapU h3 (by omega)]
theorem shrU{a:Int}(h0:0<=a)(k:Nat)(hk:k<=64){b:Int}(hb:b=k):arith .shr .u64 a b=a / 2 ^ k:=by
 rw[e_shr hA,show IntKind.bits .u64=64 from rfl,hb,Int.toNat_natCast,Nat.min_eq_left hk,Int.fdiv_eq_ediv_of_nonneg _ (Int.le_of_lt (Int.pow_pos (by omega)))]
theorem shlU(a:Int)(k:Nat)(hk:k<=64){b:Int}(hb:b=k):arith .shl .u64 a b=a*2 ^ k % 18446744073709551616:=by
 rw[e_shl hA,show IntKind.bits .u64=64 from rfl,hb,Int.toNat_natCast,Nat.min_eq_left hk,wrapUm]
theorem geZ_ok{b:Int}(h:0<=b):geZ b:=by
 have e:geZ b=(0<=b):=by have:=hA.eq;injections;subst_vars;rfl
 rw[e];exact h
end Go.Proofs.Ytmkiclinllifiaa
namespace Go.Proofs.Ytmkiclinllifiaa
structure Cq where
 re:Rat
 im:Rat
theorem Cq.ext{z w:Cq}(h:z.re=w.re)(k:z.im=w.im):z=w:=by cases z;cases w;simp only at h k;rw[h,k]
def Cq.add(z w:Cq):Cq:=⟨z.re+w.re,z.im+w.im⟩
def Cq.sub(z w:Cq):Cq:=⟨z.re-w.re,z.im-w.im⟩
def Cq.mul(z w:Cq):Cq:=⟨z.re*w.re-z.im*w.im,z.re*w.im+z.im*w.re⟩
def Cq.zero:Cq:=⟨0,0⟩
structure isC(a b d:Int)(z:Cq):Prop where
 d1:1<=d
 d2:d<=1000000000
 a1:-1000000000<=a
 a2:a<=1000000000
 b1:-1000000000<=b
 b2:b<=1000000000
 g:Int.gcd (Int.gcd a b) d=1
 re:(a:Rat)=z.re*(d:Rat)
 im:(b:Rat)=z.im*(d:Rat)
def okC(a b d:Int):Prop:=∃z,isC a b d z
def outC(z:Cq)(a b d e:Int):Prop:=(isC a b d z/\e=0)\/((∀a b d,¬isC a b d z)/\a=0/\b=0/\d=0/\e=16)
theorem cancelQ{x y z:Rat}(hz:z≠0)(h:x*z=y*z):x=y:=by
 have:x*z*z⁻¹=y*z*z⁻¹:=by rw[h]
 rwa [Rat.mul_assoc,Rat.mul_assoc,Rat.mul_inv_cancel _ hz,Rat.mul_one,Rat.mul_one]at this
theorem ratne{d:Int}(h:d≠0):(d:Rat)≠0:=fun w=>h (Rat.intCast_inj.1 (by rw[w];rfl))
theorem isC.of{a b d:Int}{z w:Cq}(h:isC a b d z)(k:isC a b d w):z=w:=by
 have hd:(d:Rat)≠0:=ratne (by have:=h.d1;omega);exact Cq.ext (cancelQ hd (by rw[<-h.re,<-k.re])) (cancelQ hd (by rw[<-h.im,<-k.im]))
theorem cross{x:Rat}{a d a' d':Int}(h:(a:Rat)=x*d)(k:(a':Rat)=x*d'):a*d'=a'*d:=by
 have:(a:Rat)*(d':Rat)=(a':Rat)*(d:Rat):=by rw[h,k];grind
 have:=(Rat.intCast_mul a d').trans (this.trans (Rat.intCast_mul a' d).symm);exact Rat.intCast_inj.1 this
theorem den_dvd{a b d a' b' d':Int}(h1:a*d'=a'*d)(h2:b*d'=b'*d)(g:Int.gcd (Int.gcd a b) d=1):d.natAbs∣d'.natAbs:=by
 have e1:a.natAbs*d'.natAbs=a'.natAbs*d.natAbs:=by rw[<-Int.natAbs_mul,h1,Int.natAbs_mul]
 have e2:b.natAbs*d'.natAbs=b'.natAbs*d.natAbs:=by rw[<-Int.natAbs_mul,h2,Int.natAbs_mul]
 have q1:d.natAbs∣a.natAbs*d'.natAbs:=by rw[e1];exact Nat.dvd_mul_left _ _
 have q2:d.natAbs∣b.natAbs*d'.natAbs:=by rw[e2];exact Nat.dvd_mul_left _ _
 have q3:d.natAbs∣d.natAbs*d'.natAbs:=Nat.dvd_mul_right _ _;have q4:=Nat.dvd_gcd (Nat.dvd_gcd q1 q2) q3;rw[Nat.gcd_mul_right,Nat.gcd_mul_right]at q4;have g':Nat.gcd (Nat.gcd a.natAbs b.natAbs) d.natAbs=1:=g
 rwa [g',Nat.one_mul]at q4
theorem isC.trip{a b d a' b' d':Int}{z:Cq}(h:isC a b d z)(k:isC a' b' d' z):a=a'/\b=b'/\d=d':=by
 have c1:=cross h.re k.re;have c2:=cross h.im k.im;have p:=Nat.dvd_antisymm (den_dvd c1 c2 h.g) (den_dvd c1.symm c2.symm k.g);have hd:d=d':=by have:=h.d1;have:=k.d1;omega
 subst hd;have h1:=h.d1;exact⟨Int.eq_of_mul_eq_mul_right (by omega) c1,Int.eq_of_mul_eq_mul_right (by omega) c2,rfl⟩
theorem okC_iff(a b d:Int):okC a b d↔1<=d/\d<=1000000000/\-1000000000<=a/\a<=1000000000/\-1000000000<=b/\b<=1000000000/\Int.gcd (Int.gcd a b) d=1:=by
 constructor
 ·rintro⟨z,h⟩;exact⟨h.d1,h.d2,h.a1,h.a2,h.b1,h.b2,h.g⟩
 ·rintro⟨h1,h2,h3,h4,h5,h6,h7⟩
  have hd:(d:Rat)≠0:=ratne (by omega);refine⟨⟨a / d,b / d⟩,h1,h2,h3,h4,h5,h6,h7,?_,?_⟩
  ·show(a:Rat)=(a:Rat) / (d:Rat)*(d:Rat)
   rw[Rat.div_def,Rat.mul_assoc,Rat.inv_mul_cancel _ hd,Rat.mul_one]
  ·show(b:Rat)=(b:Rat) / (d:Rat)*(d:Rat)
   rw[Rat.div_def,Rat.mul_assoc,Rat.inv_mul_cancel _ hd,Rat.mul_one]
theorem red_ok{n m d g s:Int}(hd:d≠0)(hg:g=Int.gcd (Int.gcd n m) d)(hs:s=if d<0 then -g else g){z:Cq}(h1:(n:Rat)=z.re*d)(h2:(m:Rat)=z.im*d) :
  s≠0/\s.natAbs<=d.natAbs/\n.tdiv s*s=n/\m.tdiv s*s=m/\d.tdiv s*s=d/\1<=d.tdiv s/\Int.gcd (Int.gcd (n.tdiv s) (m.tdiv s)) (d.tdiv s)=1/\((n.tdiv s:Int):Rat)=z.re*((d.tdiv s:Int):Rat)/\((m.tdiv s:Int):Rat)=z.im*((d.tdiv s:Int):Rat):=by
 have g1:0<g:=by
  rw[hg];have:=Nat.gcd_pos_of_pos_right (Int.gcd n m) (n:=d.natAbs) (by omega);have e:Int.gcd (Int.gcd n m) d=Nat.gcd (Int.gcd n m) d.natAbs:=rfl;omega
 have sg:s.natAbs=g.toNat:=by rw[hs];split<;>omega
 have s0:s≠0:=by omega
 have gn:g.toNat=Nat.gcd (Nat.gcd n.natAbs m.natAbs) d.natAbs:=by rw[hg];rfl
 have dn:s∣n:=Int.natAbs_dvd_natAbs.1 (by rw[sg,gn];exact Nat.dvd_trans (Nat.gcd_dvd_left _ _) (Nat.gcd_dvd_left _ _));have dm:s∣m:=Int.natAbs_dvd_natAbs.1 (by rw[sg,gn];exact Nat.dvd_trans (Nat.gcd_dvd_left _ _) (Nat.gcd_dvd_right _ _));have dd:s∣d:=Int.natAbs_dvd_natAbs.1 (by rw[sg,gn];exact Nat.gcd_dvd_right _ _);have en:=Int.tdiv_mul_cancel dn;have em:=Int.tdiv_mul_cancel dm;have ed:=Int.tdiv_mul_cancel dd;have pos:1<=d.tdiv s:=by
  rw[hs]at ed ⊢;by_cases c:d<0
  ·rw[if_pos c]at ed ⊢
   rcases(by omega:d.tdiv (-g)<1\/1<=d.tdiv (-g))with q|q
   ·exfalso
    have:0<=-(d.tdiv (-g))*g:=Int.mul_nonneg (by omega) (by omega);have e:-(d.tdiv (-g))*g=d.tdiv (-g) * -g:=by rw[Int.neg_mul,Int.mul_neg]
    omega
   ·exact q
  ·rw[if_neg c]at ed ⊢
   rcases(by omega:d.tdiv g<1\/1<=d.tdiv g)with q|q
   ·exfalso
    have:0<=-(d.tdiv g)*g:=Int.mul_nonneg (by omega) (by omega);have e:-(d.tdiv g)*g=-(d.tdiv g*g):=Int.neg_mul _ _;omega
   ·exact q
 have sr:(s:Rat)≠0:=ratne s0;refine⟨s0,?_,en,em,ed,pos,?_,?_,?_⟩
 ·rw[sg,gn];exact Nat.le_of_dvd (by omega) (Nat.gcd_dvd_right _ _)
 ·have a1:n.natAbs=(n.tdiv s).natAbs*g.toNat:=by rw[<-sg,<-Int.natAbs_mul,en]
  have a2:m.natAbs=(m.tdiv s).natAbs*g.toNat:=by rw[<-sg,<-Int.natAbs_mul,em]
  have a3:d.natAbs=(d.tdiv s).natAbs*g.toNat:=by rw[<-sg,<-Int.natAbs_mul,ed]
  rw[a1,a2,a3,Nat.gcd_mul_right,Nat.gcd_mul_right]at gn;have h0:0<g.toNat:=by omega
  have:Nat.gcd (Nat.gcd (n.tdiv s).natAbs (m.tdiv s).natAbs) (d.tdiv s).natAbs=1:=Nat.eq_of_mul_eq_mul_right h0 (by omega);exact this
 ·refine cancelQ sr ?_
  rw[<-Rat.intCast_mul,en,h1,<-ed,Rat.intCast_mul,ed,Rat.mul_assoc]
 ·refine cancelQ sr ?_
  rw[<-Rat.intCast_mul,em,h2,<-ed,Rat.intCast_mul,ed,Rat.mul_assoc]
def OpC(f:Cq->Cq->Cq)(a b d a' b' d' r s t e:Int):Prop:=(¬(okC a b d/\okC a' b' d')/\r=0/\s=0/\t=0/\e=8)\/∃z w,isC a b d z/\isC a' b' d' w/\outC (f z w) r s t e
theorem OpC.is{f:Cq->Cq->Cq}{a b d a' b' d' r s t e:Int}{z w:Cq}(h:OpC f a b d a' b' d' r s t e)(hz:isC a b d z)(hw:isC a' b' d' w):outC (f z w) r s t e:=by
 rcases h with ⟨h,_⟩|⟨z',w',kz,kw,k⟩
 ·exact absurd ⟨⟨_,hz⟩,⟨_,hw⟩⟩ h
 ·obtain rfl:=hz.of kz
  obtain rfl:=hw.of kw;exact k
end Go.Proofs.Ytmkiclinllifiaa
namespace Go.Proofs.Ytmkiclinllifiaa
open Go.Sim
set_option maxRecDepth 100000
def i64(n:Int):Prop:=-9223372036854775808<=n/\n<9223372036854775808
def u64(n:Int):Prop:=0<=n/\n<18446744073709551616
variable{F:Prims}{call head arith cmp scmp bnot bsame conv neg imax imin ofNat slen place inR nz geZ rd wr push next mkOK nat zeros sadd eqAgg cut slc sslc strAt part app cpy putAt fresh lowered bump wrote addN lt ne fpAll fpApp brk yn rng mget mput mnew bytes clr mrng ment:_}(hA:AP F ⟨call,head,arith,cmp,scmp,bnot,bsame,conv,neg,imax,imin,ofNat,slen,place,inR,nz,geZ,rd,wr,push,next,mkOK,nat,zeros,sadd,eqAgg,cut,slc,sslc,strAt,part,app,cpy,putAt,fresh,lowered,bump,wrote,addN,lt,ne,fpAll,fpApp,brk,yn,rng,mget,mput,mnew,bytes,clr,mrng,ment⟩)
include hA
end Go.Proofs.Ytmkiclinllifiaa
namespace Go.Proofs.Ytmkiclinllifiaa
open Go.Sim
set_option maxRecDepth 100000
def tabOK(s:ByteArray):Bool:=Nat.beq s.size 256 && (List.range 256).all fun i=>Nat.blt i (2 ^ (s[i]!).toNat) && Nat.ble (2 ^ (s[i]!).toNat) (2*Nat.max i 1) && Nat.ble (s[i]!).toNat 8
theorem tab_at{s:ByteArray}(ht:tabOK s=true){i:Int}(h0:0<=i)(h1:i<256):∃n:Nat,sat s i=n/\i<2 ^ n/\(2:Int) ^ n<=2*max i 1/\n<=8/\i.toNat<s.size:=by
 unfold tabOK at ht;rw[Bool.and_eq_true,List.all_eq_true]at ht;obtain⟨t1,t2⟩:=ht;have hs:s.size=256:=Nat.eq_of_beq_eq_true t1;have t3:=t2 i.toNat (List.mem_range.2 (by omega));simp only[Bool.and_eq_true]at t3;obtain⟨⟨t4,t5⟩,t6⟩:=t3;have t4':i.toNat<2 ^ (s[i.toNat]!).toNat:=Nat.le_of_ble_eq_true t4;have t5':2 ^ (s[i.toNat]!).toNat<=2*Nat.max i.toNat 1:=Nat.le_of_ble_eq_true t5;have t6':(s[i.toNat]!).toNat<=8:=Nat.le_of_ble_eq_true t6;refine⟨(s[i.toNat]!).toNat,?_,?_,?_,t6',by omega⟩
 ·unfold sat
  have hi:i.toNat<s.size:=by omega
  simp[hi]
 ·have:((2 ^ (s[i.toNat]!).toNat:Nat):Int)=2 ^ (s[i.toNat]!).toNat:=by push_cast;rfl
  omega
 ·have e:((2 ^ (s[i.toNat]!).toNat:Nat):Int)=2 ^ (s[i.toNat]!).toNat:=by push_cast;rfl
  have:Nat.max i.toNat 1=max i.toNat 1:=rfl;rw[<-e];omega
def isLen(x n:Int):Prop:=0<=n/\x<2 ^ n.toNat/\(2:Int) ^ n.toNat<=2*max x 1
variable{F:Prims}{call head arith cmp scmp bnot bsame conv neg imax imin ofNat slen place inR nz geZ rd wr push next mkOK nat zeros sadd eqAgg cut slc sslc strAt part app cpy putAt fresh lowered bump wrote addN lt ne fpAll fpApp brk yn rng mget mput mnew bytes clr mrng ment:_}(hA:AP F ⟨call,head,arith,cmp,scmp,bnot,bsame,conv,neg,imax,imin,ofNat,slen,place,inR,nz,geZ,rd,wr,push,next,mkOK,nat,zeros,sadd,eqAgg,cut,slc,sslc,strAt,part,app,cpy,putAt,fresh,lowered,bump,wrote,addN,lt,ne,fpAll,fpApp,brk,yn,rng,mget,mput,mnew,bytes,clr,mrng,ment⟩)
include hA
end Go.Proofs.Ytmkiclinllifiaa
namespace Go.Proofs.Ytmkiclinllifiaa
open Go.Sim
set_option maxRecDepth 100000
theorem isLen_of{x w K c:Int}{t k:Nat}(hx:0<=x)(hw:w=x / K)(hK:K=2 ^ k)(hz:k=0\/1<=w)(q1:w<2 ^ t)(q2:(2:Int) ^ t<=2*max w 1)(hc:c=t):isLen x (k+c):=by
 have e:((k:Int)+c).toNat=k+t:=by omega
 have hp:(0:Int)<2 ^ t:=Int.pow_pos (by omega);have hkp:(0:Int)<K:=by rw[hK];exact Int.pow_pos (by omega)
 refine⟨by omega,?_,?_⟩<;>rw[e,Int.pow_add,<-hK]
 ·have h1:w+1<=2 ^ t:=by omega
  have h2:=Int.mul_le_mul_of_nonneg_left h1 (Int.le_of_lt hkp);have h3:=Int.lt_mul_ediv_self_add (x:=x) hkp;rw[<-hw]at h3;have h4:K*(w+1)=K*w+K:=by grind
  omega
 ·rcases hz with rfl|hz
  ·have:K=1:=by rw[hK];rfl
   subst this;rw[Int.ediv_one]at hw;rw[Int.one_mul,<-hw];exact q2
  ·have h1:(2:Int) ^ t<=2*w:=by omega
   have h2:=Int.mul_le_mul_of_nonneg_left h1 (Int.le_of_lt hkp);have h3:=Int.mul_ediv_self_le (x:=x) (k:=K) (by omega);rw[<-hw]at h3;have h4:K*(2*w)=2*(K*w):=by grind
   omega
variable{F:Prims}{call head arith cmp scmp bnot bsame conv neg imax imin ofNat slen place inR nz geZ rd wr push next mkOK nat zeros sadd eqAgg cut slc sslc strAt part app cpy putAt fresh lowered bump wrote addN lt ne fpAll fpApp brk yn rng mget mput mnew bytes clr mrng ment:_}(hA:AP F ⟨call,head,arith,cmp,scmp,bnot,bsame,conv,neg,imax,imin,ofNat,slen,place,inR,nz,geZ,rd,wr,push,next,mkOK,nat,zeros,sadd,eqAgg,cut,slc,sslc,strAt,part,app,cpy,putAt,fresh,lowered,bump,wrote,addN,lt,ne,fpAll,fpApp,brk,yn,rng,mget,mput,mnew,bytes,clr,mrng,ment⟩)
include hA
theorem strAt_tab{s:ByteArray}(ht:tabOK s=true){w:Int}(h0:0<=w)(h1:w<256){C:Int->Prop}(hC:∀(t:Nat) (c:Int),c=t->w<2 ^ t->(2:Int) ^ t<=2*max w 1->t<=8->C c):strAt s w C:=by
 obtain⟨t,q1,q2,q3,q4,q5⟩:=tab_at ht h0 h1;exact strAt_ok hA h0 (by omega) (fun c hc _ _=>hC t c (by rw[hc,q1]) q2 q3 q4)
theorem len64_ok{h:AHeap}(hlow:h.low<=h.next){x:Int}(hx:u64 x){Q:Value->AHeap->Prop}(hQ:∀n:Int,isLen x n->Q (.int .i64 n) h):call 94 [.int .u64 x] h Q:=by
 obtain⟨x0,x1⟩:=hx;refine hA.bodyR Try.func94 r94_ok (hA.alike _ _ _ rfl) hlow (zc ?_);refine br (4294967296<=x) (by rw[e_geq hA]) (fun c32=>?_) (fun c32=>?_)<;>refine zc ?_
 ·refine⟨geZ_ok hA (by omega),?_⟩
  refine zc ?_;have hs32:arith .shr .u64 x 32=x / 4294967296:=shrU hA (by omega) 32 (by omega) (by rfl);rw[hs32];obtain⟨z,hz⟩:∃q,q=x / 4294967296:=⟨_,rfl⟩;rw[<-hz];refine zc ?_;refine br (65536<=z) (by rw[e_geq hA]) (fun c16=>?_) (fun c16=>?_)<;>refine zc ?_
  ·refine⟨geZ_ok hA (by omega),?_⟩
   refine zc ?_;have hs16:arith .shr .u64 z 16=z / 65536:=shrU hA (by omega) 16 (by omega) (by rfl);rw[hs16];obtain⟨y,hy⟩:∃q,q=z / 65536:=⟨_,rfl⟩;rw[<-hy];have en16:arith .add .i64 32 16=48:=add64 hA (by omega) (by omega);refine zc ?_;rw[en16];refine zc ?_;refine br (256<=y) (by rw[e_geq hA]) (fun c8=>?_) (fun c8=>?_)<;>refine zc ?_
   ·refine⟨geZ_ok hA (by omega),?_⟩
    refine zc ?_;have hs8:arith .shr .u64 y 8=y / 256:=shrU hA (by omega) 8 (by omega) (by rfl);rw[hs8];obtain⟨w0,hw0⟩:∃q,q=y / 256:=⟨_,rfl⟩;rw[<-hw0];have en8:arith .add .i64 48 8=56:=add64 hA (by omega) (by omega);refine zc ?_;rw[en8];refine zc ?_;obtain⟨w,hw⟩:∃q,q=w0:=⟨_,rfl⟩;rw[<-hw];refine zc ?_;have hw0:0<=w:=by omega
    have hw1:w<256:=by omega
    rw[conv8 hA hw0 hw1];refine strAt_tab hA (by kernel_rfl) hw0 hw1 (fun t c ht q1 q2 q3=>?_);refine zc ?_;have ec:conv .i64 c=c:=conv64 hA (by omega) (by omega);have ea:arith .add .i64 56 c=56+c:=add64 hA (by omega) (by omega);rw[ec,ea];refine hQ _ (isLen_of (k:=56) (K:=72057594037927936) (t:=t) x0 (w:=w) (by omega) (by rfl) (by omega) q1 q2 ht)
   ·obtain⟨w0,hw0⟩:∃q,q=y:=⟨_,rfl⟩
    rw[<-hw0];refine zc ?_;obtain⟨w,hw⟩:∃q,q=w0:=⟨_,rfl⟩;rw[<-hw];refine zc ?_;have hw0:0<=w:=by omega
    have hw1:w<256:=by omega
    rw[conv8 hA hw0 hw1];refine strAt_tab hA (by kernel_rfl) hw0 hw1 (fun t c ht q1 q2 q3=>?_);refine zc ?_;have ec:conv .i64 c=c:=conv64 hA (by omega) (by omega);have ea:arith .add .i64 48 c=48+c:=add64 hA (by omega) (by omega);rw[ec,ea];refine hQ _ (isLen_of (k:=48) (K:=281474976710656) (t:=t) x0 (w:=w) (by omega) (by rfl) (by omega) q1 q2 ht)
  ·obtain⟨y,hy⟩:∃q,q=z:=⟨_,rfl⟩
   rw[<-hy];refine zc ?_;refine br (256<=y) (by rw[e_geq hA]) (fun c8=>?_) (fun c8=>?_)<;>refine zc ?_
   ·refine⟨geZ_ok hA (by omega),?_⟩
    refine zc ?_;have hs8:arith .shr .u64 y 8=y / 256:=shrU hA (by omega) 8 (by omega) (by rfl);rw[hs8];obtain⟨w0,hw0⟩:∃q,q=y / 256:=⟨_,rfl⟩;rw[<-hw0];have en8:arith .add .i64 32 8=40:=add64 hA (by omega) (by omega);refine zc ?_;rw[en8];refine zc ?_;obtain⟨w,hw⟩:∃q,q=w0:=⟨_,rfl⟩;rw[<-hw];refine zc ?_;have hw0:0<=w:=by omega
    have hw1:w<256:=by omega
    rw[conv8 hA hw0 hw1];refine strAt_tab hA (by kernel_rfl) hw0 hw1 (fun t c ht q1 q2 q3=>?_);refine zc ?_;have ec:conv .i64 c=c:=conv64 hA (by omega) (by omega);have ea:arith .add .i64 40 c=40+c:=add64 hA (by omega) (by omega);rw[ec,ea];refine hQ _ (isLen_of (k:=40) (K:=1099511627776) (t:=t) x0 (w:=w) (by omega) (by rfl) (by omega) q1 q2 ht)
   ·obtain⟨w0,hw0⟩:∃q,q=y:=⟨_,rfl⟩
    rw[<-hw0];refine zc ?_;obtain⟨w,hw⟩:∃q,q=w0:=⟨_,rfl⟩;rw[<-hw];refine zc ?_;have hw0:0<=w:=by omega
    have hw1:w<256:=by omega
    rw[conv8 hA hw0 hw1];refine strAt_tab hA (by kernel_rfl) hw0 hw1 (fun t c ht q1 q2 q3=>?_);refine zc ?_;have ec:conv .i64 c=c:=conv64 hA (by omega) (by omega);have ea:arith .add .i64 32 c=32+c:=add64 hA (by omega) (by omega);rw[ec,ea];refine hQ _ (isLen_of (k:=32) (K:=4294967296) (t:=t) x0 (w:=w) (by omega) (by rfl) (by omega) q1 q2 ht)
 ·obtain⟨z,hz⟩:∃q,q=x:=⟨_,rfl⟩
  rw[<-hz];refine zc ?_;refine br (65536<=z) (by rw[e_geq hA]) (fun c16=>?_) (fun c16=>?_)<;>refine zc ?_
  ·refine⟨geZ_ok hA (by omega),?_⟩
   refine zc ?_;have hs16:arith .shr .u64 z 16=z / 65536:=shrU hA (by omega) 16 (by omega) (by rfl);rw[hs16];obtain⟨y,hy⟩:∃q,q=z / 65536:=⟨_,rfl⟩;rw[<-hy];have en16:arith .add .i64 0 16=16:=add64 hA (by omega) (by omega);refine zc ?_;rw[en16];refine zc ?_;refine br (256<=y) (by rw[e_geq hA]) (fun c8=>?_) (fun c8=>?_)<;>refine zc ?_
   ·refine⟨geZ_ok hA (by omega),?_⟩
    refine zc ?_;have hs8:arith .shr .u64 y 8=y / 256:=shrU hA (by omega) 8 (by omega) (by rfl);rw[hs8];obtain⟨w0,hw0⟩:∃q,q=y / 256:=⟨_,rfl⟩;rw[<-hw0];have en8:arith .add .i64 16 8=24:=add64 hA (by omega) (by omega);refine zc ?_;rw[en8];refine zc ?_;obtain⟨w,hw⟩:∃q,q=w0:=⟨_,rfl⟩;rw[<-hw];refine zc ?_;have hw0:0<=w:=by omega
    have hw1:w<256:=by omega
    rw[conv8 hA hw0 hw1];refine strAt_tab hA (by kernel_rfl) hw0 hw1 (fun t c ht q1 q2 q3=>?_);refine zc ?_;have ec:conv .i64 c=c:=conv64 hA (by omega) (by omega);have ea:arith .add .i64 24 c=24+c:=add64 hA (by omega) (by omega);rw[ec,ea];refine hQ _ (isLen_of (k:=24) (K:=16777216) (t:=t) x0 (w:=w) (by omega) (by rfl) (by omega) q1 q2 ht)
   ·obtain⟨w0,hw0⟩:∃q,q=y:=⟨_,rfl⟩
    rw[<-hw0];refine zc ?_;obtain⟨w,hw⟩:∃q,q=w0:=⟨_,rfl⟩;rw[<-hw];refine zc ?_;have hw0:0<=w:=by omega
    have hw1:w<256:=by omega
    rw[conv8 hA hw0 hw1];refine strAt_tab hA (by kernel_rfl) hw0 hw1 (fun t c ht q1 q2 q3=>?_);refine zc ?_;have ec:conv .i64 c=c:=conv64 hA (by omega) (by omega);have ea:arith .add .i64 16 c=16+c:=add64 hA (by omega) (by omega);rw[ec,ea];refine hQ _ (isLen_of (k:=16) (K:=65536) (t:=t) x0 (w:=w) (by omega) (by rfl) (by omega) q1 q2 ht)
  ·obtain⟨y,hy⟩:∃q,q=z:=⟨_,rfl⟩
   rw[<-hy];refine zc ?_;refine br (256<=y) (by rw[e_geq hA]) (fun c8=>?_) (fun c8=>?_)<;>refine zc ?_
   ·refine⟨geZ_ok hA (by omega),?_⟩
    refine zc ?_;have hs8:arith .shr .u64 y 8=y / 256:=shrU hA (by omega) 8 (by omega) (by rfl);rw[hs8];obtain⟨w0,hw0⟩:∃q,q=y / 256:=⟨_,rfl⟩;rw[<-hw0];have en8:arith .add .i64 0 8=8:=add64 hA (by omega) (by omega);refine zc ?_;rw[en8];refine zc ?_;obtain⟨w,hw⟩:∃q,q=w0:=⟨_,rfl⟩;rw[<-hw];refine zc ?_;have hw0:0<=w:=by omega
    have hw1:w<256:=by omega
    rw[conv8 hA hw0 hw1];refine strAt_tab hA (by kernel_rfl) hw0 hw1 (fun t c ht q1 q2 q3=>?_);refine zc ?_;have ec:conv .i64 c=c:=conv64 hA (by omega) (by omega);have ea:arith .add .i64 8 c=8+c:=add64 hA (by omega) (by omega);rw[ec,ea];refine hQ _ (isLen_of (k:=8) (K:=256) (t:=t) x0 (w:=w) (by omega) (by rfl) (by omega) q1 q2 ht)
   ·obtain⟨w0,hw0⟩:∃q,q=y:=⟨_,rfl⟩
    rw[<-hw0];refine zc ?_;obtain⟨w,hw⟩:∃q,q=w0:=⟨_,rfl⟩;rw[<-hw];refine zc ?_;have hw0:0<=w:=by omega
    have hw1:w<256:=by omega
    rw[conv8 hA hw0 hw1];refine strAt_tab hA (by kernel_rfl) hw0 hw1 (fun t c ht q1 q2 q3=>?_);refine zc ?_;have ec:conv .i64 c=c:=conv64 hA (by omega) (by omega);have ea:arith .add .i64 0 c=0+c:=add64 hA (by omega) (by omega);rw[ec,ea];refine hQ _ (isLen_of (k:=0) (K:=1) (t:=t) x0 (w:=w) (by omega) (by rfl) (by omega) q1 q2 ht)
