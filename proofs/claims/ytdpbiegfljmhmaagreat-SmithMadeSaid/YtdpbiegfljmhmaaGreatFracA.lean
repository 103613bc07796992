import Derived.Test.YtdpbiegfljmhmaaGreatSymBits
import Derived.KernelRfl
set_option linter.unusedSimpArgs false
set_option linter.unusedVariables false
namespace Go.Proofs.YtdpbiegfljmhmaaGreat
open Go.cS
set_option maxRecDepth 100000
def i64(n:Int):Prop:=-9223372036854775808<=n/\n<9223372036854775808
def u64(n:Int):Prop:=0<=n/\n<18446744073709551616
theorem HA{a b:Int}(hb:0<=b)(ha:0<=a):Int.gcd b (a % b)=Int.gcd a b:=by
 have m0:0<=a % b:=by
  by_cases h:b=0
  ·rw[h,Int.emod_zero];exact ha
  ·exact Int.emod_nonneg _ h
 rw[s7 hb m0,s7 ha hb];have e:(a % b).toNat=a.toNat % b.toNat:=by
  have:((a.toNat % b.toNat:Nat):Int)=a % b:=by
   rw[Int.natCast_emod,Int.toNat_of_nonneg ha,Int.toNat_of_nonneg hb]
  omega
 rw[e,Nat.gcd_comm,<-Nat.gcd_rec,Nat.gcd_comm]
def Mc(s:ByteArray):Bool:=Nat.beq s.size 256 && (List.range 256).all fun i=>Nat.blt i (2 ^ (s[i]!).toNat) && Nat.ble (2 ^ (s[i]!).toNat) (2*Nat.max i 1) && Nat.ble (s[i]!).toNat 8
theorem Su{s:ByteArray}(ht:Mc s=true){i:Int}(h0:0<=i)(h1:i<256):∃n:Nat,sat s i=n/\i<2 ^ n/\(2:Int) ^ n<=2*max i 1/\n<=8/\i.toNat<s.size:=by
 unfold Mc at ht;rw[Bool.and_eq_true,List.all_eq_true]at ht;obtain⟨t1,t2⟩:=ht;have hs:s.size=256:=Nat.eq_of_beq_eq_true t1;have t3:=t2 i.toNat (List.mem_range.2 om);simp only[Bool.and_eq_true]at t3;obtain⟨⟨t4,t5⟩,t6⟩:=t3;have t4':i.toNat<2 ^ (s[i.toNat]!).toNat:=Nat.le_of_ble_eq_true t4;have t5':2 ^ (s[i.toNat]!).toNat<=2*Nat.max i.toNat 1:=Nat.le_of_ble_eq_true t5;have t6':(s[i.toNat]!).toNat<=8:=Nat.le_of_ble_eq_true t6;refine⟨(s[i.toNat]!).toNat,?_,?_,?_,t6',om⟩
 ·unfold sat
  have hi:i.toNat<s.size:=om
  simp[hi]
 ·have:((2 ^ (s[i.toNat]!).toNat:Nat):Int)=2 ^ (s[i.toNat]!).toNat:=by push_cast;rfl
  omega
 ·have e:((2 ^ (s[i.toNat]!).toNat:Nat):Int)=2 ^ (s[i.toNat]!).toNat:=by push_cast;rfl
  have:Nat.max i.toNat 1=max i.toNat 1:=rfl;rw[<-e];omega
def isLen(x n:Int):Prop:=0<=n/\x<2 ^ n.toNat/\(2:Int) ^ n.toNat<=2*max x 1
def IE(x:Int):Int:=if 0<x then 1 else if x=0 then 0 else -1
theorem gA.kf{n d:Int}{q:Rat}(h:gA n d q):i64 n:=by
 obtain⟨rfl,_,h1,h2,_⟩:=h;unfold i64;omega
theorem gA.kQ{n d:Int}{q:Rat}(h:gA n d q):i64 d:=by
 have:=h.den;obtain⟨_,rfl,_,_,h3⟩:=h;unfold i64;omega
theorem c7{a b:Int}(ha:u64 a)(hb:0<b):u64 (a / b):=by
 obtain⟨h0,h1⟩:=ha;have h2:a / b<=a:=Int.ediv_le_self b h0;exact⟨Int.ediv_nonneg h0 om,om⟩
theorem kg{x w K c:Int}{t k:Nat}(hx:0<=x)(hw:w=x / K)(hK:K=2 ^ k)(hz:k=0\/1<=w)(q1:w<2 ^ t)(q2:(2:Int) ^ t<=2*max w 1)(hc:c=t):isLen x (k+c):=by
 have e:((k:Int)+c).toNat=k+t:=om
 have hp:(0:Int)<2 ^ t:=Int.pow_pos om;have Y6:(0:Int)<K:=by rw[hK];exact Int.pow_pos om
 refine⟨om,?_,?_⟩<;>rw[e,Int.pow_add,<-hK]
 ·have h1:w+1<=2 ^ t:=om
  have h2:=Int.mul_le_mul_of_nonneg_left h1 (Int.le_of_lt Y6);have h3:=Int.lt_mul_ediv_self_add (x:=x) Y6;rw[<-hw]at h3;have h4:K*(w+1)=K*w+K:=by grind
  omega
 ·rcases hz with rfl|hz
  ·have:K=1:=by rw[hK];rfl
   subst this;rw[Int.ediv_one]at hw;rw[Int.one_mul,<-hw];exact q2
  ·have h1:(2:Int) ^ t<=2*w:=om
   have h2:=Int.mul_le_mul_of_nonneg_left h1 (Int.le_of_lt Y6);have h3:=Int.mul_ediv_self_le (x:=x) (k:=K) om;rw[<-hw]at h3;have h4:K*(2*w)=2*(K*w):=by grind
   omega
theorem Vq{x n:Int}(hx:1<=x)(zS:x<18446744073709551616)(h:isLen x n):∃s:Nat,64-n=s/\s<=63/\9223372036854775808<=x*2 ^ s/\x*2 ^ s<18446744073709551616:=by
 obtain⟨h0,h1,h2⟩:=h;have hn1:1<=n.toNat:=by
  by_cases c:n.toNat=0
  ·rw[c]at h1;simp at h1;omega
  ·omega
 have zz:n.toNat<=64:=by
  by_cases c:n.toNat<=64
  ·exact c
  ·exfalso
   have h3:(2:Nat) ^ 65<=2 ^ n.toNat:=Nat.pow_le_pow_right om om;have h4:(2:Int) ^ 65<=2 ^ n.toNat:=by exact_mod_cast h3
   have h5:(2:Int) ^ 65=36893488147419103232:=by rfl
   omega
 refine⟨64-n.toNat,om,om,?_⟩;have e:(2:Int) ^ n.toNat*2 ^ (64-n.toNat)=18446744073709551616:=by
  rw[<-Int.pow_add,show n.toNat+(64-n.toNat)=64 by omega];rfl
 have hp:(0:Int)<2 ^ (64-n.toNat):=Int.pow_pos om;generalize (2:Int) ^ n.toNat=A at *;generalize (2:Int) ^ (64-n.toNat)=B at *;constructor
 ·have:=Int.mul_le_mul_of_nonneg_right (show A<=2*x by omega) (Int.le_of_lt hp)
  have e2:2*x*B=2*(x*B):=by grind
  omega
 ·have:=Int.mul_lt_mul_of_pos_right h1 hp
  omega
theorem DR{U d q Y N V:Int}(hN:N=U*4294967296+d)(m:Y*q+V=N)(V0:0<=V)(V1:V<18446744073709551616):((U*4294967296 % 18446744073709551616+d) % 18446744073709551616-q*Y % 18446744073709551616) % 18446744073709551616=V:=by
 rw[Int.mul_comm q Y];generalize Y*q=z at *;omega
theorem Md{x y c:Int}(hx:0<=x)(hy:0<=y)(hc:0<=c/\c<=1)(h:af):gI 103 [.int .u64 x,.int .u64 y,.int .u64 c] h=some (.tuple #[.int .u64 ((x+y+c) % 18446744073709551616),.int .u64 ((x+y+c) / 18446744073709551616)],h):=by
 have e:xE [.int .u64 x,.int .u64 y,.int .u64 c]=some (.tuple #[.int .u64 ((x+y+c) % 18446744073709551616),.int .u64 ((x+y+c) / 18446744073709551616)]):=by
  show(if 0<=x/\0<=y/\0<=c/\c<=1 then some _ else none)=_;rw[if_pos ⟨hx,hy,hc.1,hc.2⟩]
 have p:gI 103 [.int .u64 x,.int .u64 y,.int .u64 c] h=withFn 103 xE (withFn 105 uc sB) 103 [.int .u64 x,.int .u64 y,.int .u64 c] h:=rfl;rw[p];unfold withFn;rw[e];rfl
theorem Me{x y c:Int}(hx:u64 x)(hy:u64 y)(hc:0<=c/\c<=1)(h:af):gI 105 [.int .u64 x,.int .u64 y,.int .u64 c] h=some (.tuple #[.int .u64 ((x-y-c) % 18446744073709551616),.int .u64 (if x<y+c then 1 else 0)],h):=by
 have e:uc [.int .u64 x,.int .u64 y,.int .u64 c]=some (.tuple #[.int .u64 ((x-y-c) % 18446744073709551616),.int .u64 (if x<y+c then 1 else 0)]):=by
  obtain⟨x0,x1⟩:=hx;obtain⟨y0,y1⟩:=hy;show(if 0<=x/\0<=y/\0<=c/\c<=1 then some _ else none)=_;rw[if_pos ⟨x0,y0,hc.1,hc.2⟩];have e1:Int.ofNat ((x.toNat+18446744073709551616-y.toNat-c.toNat) % 18446744073709551616)=(x-y-c) % 18446744073709551616:=by
   show(((x.toNat+18446744073709551616-y.toNat-c.toNat) % 18446744073709551616:Nat):Int)=_;omega
  have e2:Int.ofNat (if x.toNat<y.toNat+c.toNat then 1 else 0)=if x<y+c then 1 else 0:=by
   by_cases w:x<y+c
   ·rw[if_pos w,if_pos om];rfl
   ·rw[if_neg w,if_neg om];rfl
  rw[e1,e2]
 have p:gI 105 [.int .u64 x,.int .u64 y,.int .u64 c] h=withFn 105 uc sB 105 [.int .u64 x,.int .u64 y,.int .u64 c] h:=rfl;rw[p];unfold withFn;rw[e];rfl
variable{F:aZ}{call head arith cmp c0 dH jz conv neg e0 f0 ofNat g0 i0 j0 nz k0 rd wr o0 next s0 t0 v0 z0 i1 j1 o1 i2 mS j2 m2 o2 p2 u2 az aG d3 i3 lt ne j3 m3 o3 yn p3 r3 w3 x3 y3 d4:_}(hA:AP F ⟨call,head,arith,cmp,c0,dH,jz,conv,neg,e0,f0,ofNat,g0,i0,j0,nz,k0,rd,wr,o0,next,s0,t0,v0,z0,i1,j1,o1,i2,mS,j2,m2,o2,p2,u2,az,aG,d3,i3,lt,ne,j3,m3,o3,yn,p3,r3,w3,x3,y3,d4⟩)
include hA
theorem iD{h:af}(aq:h.low<=h.next){n:Int}(hn:i64 n){Q:Value->af->Prop}(hQ:∀s:Int,s=n.natAbs->Q (.int .u64 s) h):call 52 [.int .i64 n] h Q:=by
 obtain⟨h0,h1⟩:=hn;refine hA.aN Tryz.func52 x52.2 (hA.alike _ _ _ rfl) aq (zc ?_);refine br (n<0) (by rw[aA hA]) (fun c=>?_) (fun c=>?_)<;>refine zc ?_
 ·exact hQ _ (by rw[vc hA,rO hA,nV,nV];omega)
 ·exact hQ _ (by rw[rO hA,nV];omega)
theorem Mf{h0:af}{Q:Exit->SS->Prop}:∀(m:Nat) (a b:Int) (h:af),b.toNat<=m->u64 a->u64 b->Ext h0 h->
  (∀g:Int,g=Int.gcd a b->∀e kn K h',Ext h0 h'->Q (.exit 0) ⟨(0,.int .u64 g) :: e,kn,K,h'⟩)->head 53 1 0 ⟨[(0,.int .u64 a),(1,.int .u64 b)],0,[],h⟩ Q:=by
 intro m
 induction m with
 |zero=>
  intro a b h hm ha hb he hQ;have mL:b=0:=by unfold u64 at hb;omega
  refine hA.ar Tryz.func53 x53.2 (zc ?_);refine br (b≠0) (by rw[bT hA]) (fun c=>absurd mL c) (fun c=>?_)<;>refine zc ?_;exact hQ a (by rw[mL];unfold Int.gcd;unfold u64 at ha;simp;omega) _ _ _ h he
 |succ m ih=>
  intro a b h hm ha hb he hQ;refine hA.ar Tryz.func53 x53.2 (zc ?_);refine br (b≠0) (by rw[bT hA]) (fun c=>?_) (fun c=>?_)<;>refine zc ?_
  ·obtain⟨h9,iT⟩:∃z,z=aG h 6:=⟨_,rfl⟩
   have e9:Ext h h9:=by rw[iT,nW hA];exact .aG _ _
   rw[<-iT];refine⟨dy hA c,?_⟩;refine zc ?_;have h1:arith .rem .u64 a b=a % b:=OZ hA ha.1;have EE:0<b:=by have:=hb.1;omega
   have h2:0<=a % b:=Int.emod_nonneg _ c;have h3:a % b<b:=Int.emod_lt_of_pos _ EE;rw[h1];refine ih b (a % b) h9 om hb ⟨h2,by have:=hb.2;omega⟩ (he.trans e9) (fun g hg=>hQ g ?_);rw[hg,HA hb.1 ha.1]
  ·have mL:b=0:=om
   exact hQ a (by rw[mL];unfold Int.gcd;unfold u64 at ha;simp;omega) _ _ _ h he
theorem pS{h:af}(aq:h.low<=h.next){a b:Int}(ha:u64 a)(hb:u64 b){Q:Value->af->Prop}(hQ:∀g:Int,g=Int.gcd a b->∀h',Ext h h'->Q (.int .u64 g) h'):call 53 [.int .u64 a,.int .u64 b] h Q:=by
 refine hA.aN Tryz.func53 x53.2 (hA.alike _ _ _ rfl) aq (zc ?_);refine Mf hA b.toNat a b h (Nat.le_refl _) ha hb (.refl h) (fun g hg e kn K h' he=>?_);refine zc ?_;exact hQ g hg h' he
theorem Jm{h0:af}{Q:Exit->SS->Prop}:∀(m:Nat) (a b:Int) (h:af),b.toNat<=m->u64 a->u64 b->Ext h0 h->
  (∀g:Int,g=Int.gcd a b->∀e kn K h',Ext h0 h'->Q (.exit 0) ⟨(0,.int .u64 g) :: e,kn,K,h'⟩)->head 58 1 0 ⟨[(0,.int .u64 a),(1,.int .u64 b)],0,[],h⟩ Q:=by
 intro m
 induction m with
 |zero=>
  intro a b h hm ha hb he hQ;have mL:b=0:=by unfold u64 at hb;omega
  refine hA.ar Tryz.func58 x58.2 (zc ?_);refine br (b≠0) (by rw[bT hA]) (fun c=>absurd mL c) (fun c=>?_)<;>refine zc ?_;exact hQ a (by rw[mL];unfold Int.gcd;unfold u64 at ha;simp;omega) _ _ _ h he
 |succ m ih=>
  intro a b h hm ha hb he hQ;refine hA.ar Tryz.func58 x58.2 (zc ?_);refine br (b≠0) (by rw[bT hA]) (fun c=>?_) (fun c=>?_)<;>refine zc ?_
  ·obtain⟨h9,iT⟩:∃z,z=aG h 6:=⟨_,rfl⟩
   have e9:Ext h h9:=by rw[iT,nW hA];exact .aG _ _
   rw[<-iT];refine⟨dy hA c,?_⟩;refine zc ?_;have h1:arith .rem .u64 a b=a % b:=OZ hA ha.1;have EE:0<b:=by have:=hb.1;omega
   have h2:0<=a % b:=Int.emod_nonneg _ c;have h3:a % b<b:=Int.emod_lt_of_pos _ EE;rw[h1];refine ih b (a % b) h9 om hb ⟨h2,by have:=hb.2;omega⟩ (he.trans e9) (fun g hg=>hQ g ?_);rw[hg,HA hb.1 ha.1]
  ·have mL:b=0:=om
   exact hQ a (by rw[mL];unfold Int.gcd;unfold u64 at ha;simp;omega) _ _ _ h he
theorem n7{h:af}(aq:h.low<=h.next){a b:Int}(ha:u64 a)(hb:u64 b){Q:Value->af->Prop}(hQ:∀g:Int,g=Int.gcd a b->∀h',Ext h h'->Q (.int .u64 g) h'):call 58 [.int .u64 a,.int .u64 b] h Q:=by
 refine hA.aN Tryz.func58 x58.2 (hA.alike _ _ _ rfl) aq (zc ?_);refine Jm hA b.toNat a b h (Nat.le_refl _) ha hb (.refl h) (fun g hg e kn K h' he=>?_);refine zc ?_;exact hQ g hg h' he
theorem pT{h:af}(aq:h.low<=h.next){q:Rat}{mi:Bool}{N D:Int}(hN:u64 N)(hD:u64 D)(h1:q.num=if mi=true then -N else N)(h2:(q.den:Int)=D){Q:Value->af->Prop}
  (hQ:∀n d e,oK q n d e->Q (.tuple #[.agg #[.int .i64 n,.int .i64 d],.int .i64 e]) h):call 54 [.bool mi,.int .u64 N,.int .u64 D] h Q:=by
 obtain⟨n0,n1⟩:=hN;obtain⟨d0,d1⟩:=hD;have hf:fits q↔N<=1000000000000000000/\D<=1000000000000000000:=by
  unfold fits;rw[h1,h2];split<;>omega
 refine hA.aN Tryz.func54 x54.2 (hA.alike _ _ _ rfl) aq (zc ?_);refine br (1000000000000000000<N) (by rw[dc hA]) (fun c=>?_) (fun c=>?_)<;>refine zc ?_
 ·exact hQ _ _ _ (.inr ⟨fun w=>by have:=hf.1 w;omega,rfl,rfl,rfl⟩)
 refine br (1000000000000000000<D) (by rw[dc hA]) (fun c2=>?_) (fun c2=>?_)<;>refine zc ?_
 ·exact hQ _ _ _ (.inr ⟨fun w=>by have:=hf.1 w;omega,rfl,rfl,rfl⟩)
 have e1:conv .i64 N=N:=kA hA om om;have e2:conv .i64 D=D:=kA hA om om;have e3:neg .i64 N=-N:=by rw[vc hA,wrap64 om om];omega
 have CJ:=hf.2 ⟨om,om⟩;rw[e1,e2];cases mi with
 |true=>
  refine zc ?_;rw[e3];exact hQ _ _ _ (.inl ⟨CJ,by rw[h1,if_pos rfl],by rw[h2],rfl⟩)
 |false=>
  refine zc ?_;exact hQ _ _ _ (.inl ⟨CJ,by rw[h1];simp,by rw[h2],rfl⟩)
theorem pU{h:af}(aq:h.low<=h.next){n d:Int}(hn:i64 n)(hd:i64 d){Q:Value->af->Prop}
  (hQ:∀(e:Int) h',(e=0/\okF n d)\/(e=8/\¬okF n d)->Ext h h'->Q (.int .i64 e) h'):call 64 [.agg #[.int .i64 n,.int .i64 d]] h Q:=by
 have bad:¬(1<=d/\d<=1000000000000000000/\-1000000000000000000<=n/\n<=1000000000000000000/\Int.gcd n d=1)->¬okF n d:=fun w q=>w ((sY n d).1 q)
 refine hA.aN Tryz.func64 x64.2 (hA.alike _ _ _ rfl) aq (zc ?_);refine br (d<1) (by rw[aA hA]) (fun c1=>?_) (fun c1=>?_)<;>refine zc ?_
 ·exact hQ _ _ (.inr ⟨rfl,bad om⟩) (.refl h)
 refine br (1000000000000000000<d) (by rw[dc hA]) (fun c2=>?_) (fun c2=>?_)<;>refine zc ?_
 ·exact hQ _ _ (.inr ⟨rfl,bad om⟩) (.refl h)
 refine br (n < -1000000000000000000) (by rw[aA hA]) (fun c3=>?_) (fun c3=>?_)<;>refine zc ?_
 ·exact hQ _ _ (.inr ⟨rfl,bad om⟩) (.refl h)
 refine br (1000000000000000000<n) (by rw[dc hA]) (fun c4=>?_) (fun c4=>?_)<;>refine zc ?_
 ·exact hQ _ _ (.inr ⟨rfl,bad om⟩) (.refl h)
 obtain⟨h9,iT⟩:∃z,z=aG h 8:=⟨_,rfl⟩;have e9:Ext h h9:=by rw[iT];exact au hA _ _
 have l9:=e9.aC aq;rw[<-iT];refine zc ?_;refine iD hA (aB hA h9) hn (fun s hs=>⟨_,rfl,?_⟩);refine zc ?_;rw[bR hA l9];refine iD hA (aB hA h9) hd (fun t ht=>⟨_,rfl,?_⟩);refine zc ?_;rw[bR hA l9];refine pS hA (aB hA h9) (by unfold u64;omega) (by unfold u64;omega) (fun g hg hz ez=>⟨_,rfl,?_⟩);refine zc ?_;obtain⟨hX,Gb⟩:∃z,z=az h9 hz:=⟨_,rfl⟩;have eX:Ext h hX:=by rw[Gb];exact cI hA aq e9 ez
 rw[<-Gb];have Y7:g=Int.gcd n d:=by
  rw[hg,hs,ht];rfl
 refine br (g≠1) (by rw[bT hA]) (fun c5=>?_) (fun c5=>?_)<;>refine zc ?_
 ·exact hQ _ _ (.inr ⟨rfl,bad om⟩) eX
 ·exact hQ _ _ (.inl ⟨rfl,(sY n d).2 om⟩) eX
theorem HB{h:af}(aq:h.low<=h.next){n d:Int}(hn:i64 n)(hd:i64 d){Q:Value->af->Prop}
  (hQ:∀n' d' e,(d=0/\n'=0/\d'=0/\e=18)\/(d≠0/\oK ((n:Rat) / (d:Rat)) n' d' e)->∀h',Ext h h'->Q (.tuple #[.agg #[.int .i64 n',.int .i64 d'],.int .i64 e]) h'):call 31 [.int .i64 n,.int .i64 d] h Q:=by
 refine hA.aN Tryz.func31 x31.2 (hA.alike _ _ _ rfl) aq (zc ?_);refine br (d=0) (by rw[de hA]) (fun c1=>?_) (fun c1=>?_)<;>refine zc ?_
 ·exact hQ _ _ _ (.inl ⟨c1,rfl,rfl,rfl⟩) h (.refl h)
 refine iD hA aq hn (fun s hs=>⟨_,rfl,?_⟩);refine zc ?_;refine iD hA aq hd (fun t ht=>⟨_,rfl,?_⟩);refine zc ?_;unfold i64 at hn hd;refine pS hA aq (by unfold u64;omega) (by unfold u64;omega) (fun g hg h2 x2=>⟨_,rfl,?_⟩);refine zc ?_;obtain⟨mi,Gc⟩:∃z,z=dH (jz (cmp .lss n 0) (cmp .lss d 0)):=⟨_,rfl⟩;have ql:=ym hA n d;rw[<-Gc]at ql ⊢;obtain⟨h9,iT⟩:∃z,z=aG h2 16:=⟨_,rfl⟩;have e9:Ext h h9:=by rw[iT];exact x2.trans (au hA _ _)
 rw[<-iT];have Y7:g=Int.gcd n d:=by rw[hg,hs,ht];rfl
 obtain⟨k1,k2,k3,k4⟩:=I9 c1 Y7 ql;rw[<-hs]at k1;rw[<-ht]at k2 k4;refine⟨dy hA om,?_⟩;refine zc ?_;refine⟨dy hA om,?_⟩;refine zc ?_;rw[jo hA om om k3,jo hA om om k3];have b1:s / g<=s:=Int.ediv_le_self g om;have b2:t / g<=t:=Int.ediv_le_self g om;have b3:0<=s / g:=Int.ediv_nonneg om om;have b4:0<=t / g:=Int.ediv_nonneg om om;generalize s / g=sg at *;generalize t / g=tg at *;refine zc ?_;refine pT hA (aB hA h9) (by unfold u64;omega) (by unfold u64;omega) k1 k2 (fun n' d' e ho=>⟨_,_,_,rfl,?_⟩);refine zc ?_;exact hQ n' d' e (.inr ⟨c1,ho⟩) _ (cI hA aq e9 (.refl _))
theorem lL{h:af}(aq:h.low<=h.next){x y:Int}(hx:u64 x)(hy:u64 y){Q:Value->af->Prop}
  (hQ:∀hi lo:Int,hi=x*y / 18446744073709551616->lo=x*y % 18446744073709551616->Q (.tuple #[.int .u64 hi,.int .u64 lo]) h):call 102 [.int .u64 x,.int .u64 y] h Q:=by
 obtain⟨x0,x1⟩:=hx;obtain⟨y0,y1⟩:=hy;obtain⟨k1,k2,k3,k4,k5,k6⟩:=Lo x0 x1 y0 y1 rfl rfl rfl rfl rfl rfl;refine hA.aN Tryz.func102 x102.2 (hA.alike _ _ _ rfl) aq (zc ?_);refine⟨fu hA om,?_⟩;refine zc ?_;refine⟨fu hA om,?_⟩;refine zc ?_;refine⟨fu hA om,?_⟩;refine zc ?_;refine⟨fu hA om,?_⟩;refine zc ?_;refine⟨fu hA om,?_⟩;refine zc ?_;refine hQ _ _ ?_ (DE hA x y);rw[nY hA x0 x1,nY hA y0 y1,pO hA x0,pO hA y0];rw[nX hA k1.1 om,nX hA k2.1 om,nX hA k3.1 om,nX hA k4.1 om];rw[pO hA k1.1];rw[mE hA (a:=x / 4294967296*(y % 4294967296)) om om];rw[nY hA om om];rw[mE hA (b:=x % 4294967296*(y / 4294967296)) om om];rw[pO hA om,pO hA om];rw[mE hA (a:=x / 4294967296*(y / 4294967296)) om om];rw[mE hA om om];exact k6
theorem Mg{h:af}(aq:h.low<=h.next){ah al bh bl:Int}(h2:u64 al)(h4:u64 bl){Q:Value->af->Prop}
  (hQ:∀c:Int,c=IE (ah*18446744073709551616+al-(bh*18446744073709551616+bl))->Q (.int .i64 c) h):call 104 [.int .u64 ah,.int .u64 al,.int .u64 bh,.int .u64 bl] h Q:=by
 obtain⟨a0,a1⟩:=h2;obtain⟨b0,b1⟩:=h4;refine hA.aN Tryz.func104 x104.2 (hA.alike _ _ _ rfl) aq (zc ?_);refine br (bh<ah) (by rw[dc hA]) (fun c1=>?_) (fun c1=>?_)<;>refine zc ?_
 ·exact hQ _ (by unfold IE;rw[if_pos om])
 refine br (ah=bh) (by rw[de hA]) (fun c2=>?_) (fun c2=>?_)<;>refine zc ?_
 ·refine br (bl<al) (by rw[dc hA]) (fun c3=>?_) (fun c3=>?_)<;>refine zc ?_
  ·exact hQ _ (by unfold IE;rw[if_pos om])
  refine br (ah=bh) (by rw[de hA]) (fun _=>?_) (fun q=>absurd c2 q)<;>refine zc ?_;refine br (al=bl) (by rw[de hA]) (fun c4=>?_) (fun c4=>?_)<;>refine zc ?_
  ·exact hQ _ (by unfold IE;rw[if_neg om,if_pos om])
  ·exact hQ _ (by unfold IE;rw[if_neg om,if_neg om])
 ·refine br (ah=bh) (by rw[de hA]) (fun q=>absurd q c2) (fun _=>?_)<;>refine zc ?_
  exact hQ _ (by unfold IE;rw[if_neg om,if_neg om])
theorem BK{h:af}(aq:h.low<=h.next){n d m e:Int}(hn:i64 n)(hd:i64 d)(hm:i64 m)(he:i64 e){Q:Value->af->Prop}
  (hQ:∀(r:Int) h',(r=0/\okF n d/\okF m e)\/(r=8/\¬(okF n d/\okF m e))->Ext h h'->Q (.int .i64 r) h'):call 79 [.agg #[.int .i64 n,.int .i64 d],.agg #[.int .i64 m,.int .i64 e]] h Q:=by
 refine hA.aN Tryz.func79 x79.2 (hA.alike _ _ _ rfl) aq (zc ?_);refine pU hA aq hn hd (fun r1 h1 k1 x1=>⟨_,rfl,?_⟩);refine zc ?_;refine br (r1≠0) (by rw[bT hA]) (fun c1=>?_) (fun c1=>?_)<;>refine zc ?_
 ·rcases k1 with ⟨q,_⟩|⟨rfl,q⟩
  ·exact absurd q c1
  ·exact hQ _ _ (.inr ⟨rfl,fun w=>q w.1⟩) x1
 refine pU hA (x1.aC aq) hm he (fun r2 h2 k2 x2=>⟨_,rfl,?_⟩);refine zc ?_;rcases k1 with ⟨_,q1⟩|⟨q,_⟩
 ·rcases k2 with ⟨rfl,q2⟩|⟨rfl,q2⟩
  ·exact hQ _ _ (.inl ⟨rfl,q1,q2⟩) (x1.trans x2)
  ·exact hQ _ _ (.inr ⟨rfl,fun w=>q2 w.2⟩) (x1.trans x2)
 ·omega
def QJ(n d m e c r:Int):Prop:=(¬(okF n d/\okF m e)/\c=0/\r=8)\/∃p q,gA n d p/\gA m e q/\c=Sg p q/\r=0
theorem Gd{h:af}(aq:h.low<=h.next){n d m e:Int}{p q:Rat}(hp:gA n d p)(hq:gA m e q){Q:Value->af->Prop}
  (hQ:∀a b r,oK (p*q) a b r->∀h',Ext h h'->Q (.tuple #[.agg #[.int .i64 a,.int .i64 b],.int .i64 r]) h'):call 80 [.agg #[.int .i64 n,.int .i64 d],.agg #[.int .i64 m,.int .i64 e]] h Q:=by
 have pd:=hp.den;have qd:=hq.den;have lU:=hp.kf;have DS:=hp.kQ;have yA:=hq.kf;have DT:=hq.kQ;refine hA.aN Tryz.func80 Sb (hA.alike _ _ _ rfl) aq (zc ?_);obtain⟨h9,iT⟩:∃z,z=aG h 16:=⟨_,rfl⟩;have e9:Ext h h9:=by rw[iT];exact au hA _ _
 have l9:=e9.aC aq;rw[<-iT];refine zc ?_;refine iD hA (aB hA h9) lU (fun s1 fX=>⟨_,rfl,?_⟩);refine zc ?_;rw[bR hA l9];refine iD hA (aB hA h9) DS (fun s2 ql=>⟨_,rfl,?_⟩);refine zc ?_;rw[bR hA l9];refine iD hA (aB hA h9) yA (fun s3 xP=>⟨_,rfl,?_⟩);refine zc ?_;rw[bR hA l9];refine iD hA (aB hA h9) DT (fun s4 y7=>⟨_,rfl,?_⟩);refine zc ?_;rw[bR hA l9];have z1:u64 s1:=by unfold u64;unfold i64 at lU;omega
 have z2:u64 s2:=by unfold u64;unfold i64 at DS;omega
 have z3:u64 s3:=by unfold u64;unfold i64 at yA;omega
 have z4:u64 s4:=by unfold u64;unfold i64 at DT;omega
 have y2:s2=d:=om
 have y4:s4=e:=om
 refine pS hA l9 z1 z4 (fun g hg BA x10=>⟨_,rfl,?_⟩);have Ge:=e9.trans x10;have TO:=Ge.aC aq;refine zc ?_;refine pS hA TO z3 z2 (fun k hk NX x11=>⟨_,rfl,?_⟩);have Sw:=Ge.trans x11;have Y8:=Sw.aC aq;obtain⟨mi,Gc⟩:∃z,z=dH (jz (cmp .lss n 0) (cmp .lss m 0)):=⟨_,rfl⟩;have Mh:=ym hA n m;rw[<-Gc]at Mh;obtain⟨k1,k2,k3,k4,k5,k6⟩:=DC hp hq (g:=g) (h:=k) (by rw[hg,fX,y4]) (by rw[hk,xP,y2]) Mh;rw[<-fX,<-xP]at k1;rw[<-y2,<-y4]at k2;refine zc ?_;obtain⟨Pe,DU⟩:∃z,z=aG NX 12:=⟨_,rfl⟩;have Vr:Ext h Pe:=by rw[DU];exact Sw.trans (au hA _ _)
 have TP:=Vr.aC aq;rw[<-DU];refine⟨dy hA om,?_⟩;refine zc ?_;refine⟨dy hA om,?_⟩;refine zc ?_;rw[jo hA z1.1 z1.2 k3,jo hA z3.1 z3.2 k5];have v1:=c7 z1 k3;have v2:=c7 z3 k5;have v3:=c7 z2 k5;have v4:=c7 z4 k3;have w2:arith .quo .u64 s2 k=s2 / k:=jo hA z2.1 z2.2 k5;have w4:arith .quo .u64 s4 g=s4 / g:=jo hA z4.1 z4.2 k3;generalize s1 / g=q1 at *;generalize s3 / k=q3 at *;generalize s2 / k=q2 at *;generalize s4 / g=q4 at *;refine zc ?_;refine lL hA (aB hA Pe) v1 v2 (fun hi lo f1 f2=>⟨_,_,rfl,?_⟩);refine zc ?_;rw[bR hA TP];obtain⟨Y9,Vs⟩:∃z,z=aG Pe 12:=⟨_,rfl⟩;have QK:Ext h Y9:=by rw[Vs];exact Vr.trans (au hA _ _)
 have TQ:=QK.aC aq;rw[<-Vs];refine⟨dy hA om,?_⟩;refine zc ?_;refine⟨dy hA om,?_⟩;refine zc ?_;rw[w2,w4];refine lL hA (aB hA Y9) v3 v4 (fun DA v9 f3 f4=>⟨_,_,rfl,?_⟩);refine zc ?_;rw[bR hA TQ];obtain⟨N,hN⟩:∃z,z=q1*q3:=⟨_,rfl⟩;obtain⟨D,hD⟩:∃z,z=q2*q4:=⟨_,rfl⟩;have N0:0<=N:=by rw[hN];exact Int.mul_nonneg v1.1 v2.1
 have D0:0<=D:=by rw[hD];exact Int.mul_nonneg v3.1 v4.1
 rw[<-hN]at k1 f1 f2;rw[<-hD]at k2 f3 f4;have hf:fits (p*q)↔N<=1000000000000000000/\D<=1000000000000000000:=by
  unfold fits;rw[k1,k2];split<;>omega
 refine br (hi≠0) (by rw[bT hA]) (fun c1=>?_) (fun c1=>?_)<;>refine zc ?_
 ·exact hQ _ _ _ (.inr ⟨fun w=>by have:=hf.1 w;omega,rfl,rfl,rfl⟩) _ QK
 refine br (DA≠0) (by rw[bT hA]) (fun c2=>?_) (fun c2=>?_)<;>refine zc ?_
 ·exact hQ _ _ _ (.inr ⟨fun w=>by have:=hf.1 w;omega,rfl,rfl,rfl⟩) _ QK
 rw[<-Gc];have Vt:lo=N:=om
 have Za:v9=D:=om
 refine pT hA TQ (q:=p*q) (by unfold u64;omega) (by unfold u64;omega) (by rw[Vt];exact k1) (by rw[Za];exact k2) (fun a b r ho=>⟨_,_,_,rfl,?_⟩);refine zc ?_;exact hQ a b r ho _ QK
def DV(f:Rat->Rat->Rat)(n d m e a b r:Int):Prop:=(¬(okF n d/\okF m e)/\a=0/\b=0/\r=8)\/∃p q,gA n d p/\gA m e q/\oK (f p q) a b r
def Vu(n d m e a b r:Int):Prop:=(¬(okF n d/\okF m e)/\a=0/\b=0/\r=8)\/(okF n d/\okF m e/\m=0/\a=0/\b=0/\r=18)\/∃p q,gA n d p/\gA m e q/\m≠0/\oK (p / q) a b r
theorem Mi{h:af}(aq:h.low<=h.next){n d m e:Int}(hn:i64 n)(hd:i64 d)(hm:i64 m)(he:i64 e){Q:Value->af->Prop}
  (hQ:∀a b r,DV (· * ·) n d m e a b r->∀h',Ext h h'->Q (.tuple #[.agg #[.int .i64 a,.int .i64 b],.int .i64 r]) h'):call 65 [.agg #[.int .i64 n,.int .i64 d],.agg #[.int .i64 m,.int .i64 e]] h Q:=by
 refine hA.aN Tryz.func65 x65.2 (hA.alike _ _ _ rfl) aq (zc ?_);refine BK hA aq hn hd hm he (fun r1 h1 k1 x1=>⟨_,rfl,?_⟩);refine zc ?_;refine br (r1≠0) (by rw[bT hA]) (fun c1=>?_) (fun c1=>?_)<;>refine zc ?_
 ·rcases k1 with ⟨q,_⟩|⟨rfl,q⟩
  ·exact absurd q c1
  ·exact hQ _ _ _ (.inl ⟨q,rfl,rfl,rfl⟩) _ x1
 rcases k1 with ⟨_,⟨p,hp⟩,q,hq⟩|⟨q,_⟩
 ·refine Gd hA (x1.aC aq) hp hq (fun a b r ho h2 x2=>⟨_,_,_,rfl,?_⟩)
  refine zc ?_;exact hQ _ _ _ (.inr ⟨p,q,hp,hq,ho⟩) _ (x1.trans x2)
 ·omega
theorem iU{s:ByteArray}(ht:Mc s=true){w:Int}(h0:0<=w)(h1:w<256){C:Int->Prop}(hC:∀(t:Nat) (c:Int),c=t->w<2 ^ t->(2:Int) ^ t<=2*max w 1->t<=8->C c):mS s w C:=by
 obtain⟨t,q1,q2,q3,q4,q5⟩:=Su ht h0 h1;exact LA hA h0 om (fun c hc _ _=>hC t c (by rw[hc,q1]) q2 q3 q4)
theorem DW{h:af}(aq:h.low<=h.next){x:Int}(hx:u64 x){Q:Value->af->Prop}(hQ:∀n:Int,isLen x n->Q (.int .i64 n) h):call 100 [.int .u64 x] h Q:=by
 obtain⟨x0,x1⟩:=hx;refine hA.aN Tryz.func100 x100.2 (hA.alike _ _ _ rfl) aq (zc ?_);refine br (4294967296<=x) (by rw[bY hA]) (fun c32=>?_) (fun c32=>?_)<;>refine zc ?_
 ·refine⟨fu hA om,?_⟩
  refine zc ?_;have Zb:arith .shr .u64 x 32=x / 4294967296:=yo hA om 32 om (by rfl);rw[Zb];obtain⟨z,hz⟩:∃q,q=x / 4294967296:=⟨_,rfl⟩;rw[<-hz];refine zc ?_;refine br (65536<=z) (by rw[bY hA]) (fun Zc=>?_) (fun Zc=>?_)<;>refine zc ?_
  ·refine⟨fu hA om,?_⟩
   refine zc ?_;have Sx:arith .shr .u64 z 16=z / 65536:=yo hA om 16 om (by rfl);rw[Sx];obtain⟨y,hy⟩:∃q,q=z / 65536:=⟨_,rfl⟩;rw[<-hy];have Sy:arith .add .i64 32 16=48:=aF hA om om;refine zc ?_;rw[Sy];refine zc ?_;refine br (256<=y) (by rw[bY hA]) (fun c8=>?_) (fun c8=>?_)<;>refine zc ?_
   ·refine⟨fu hA om,?_⟩
    refine zc ?_;have Sz:arith .shr .u64 y 8=y / 256:=yo hA om 8 om (by rfl);rw[Sz];obtain⟨w0,kx⟩:∃q,q=y / 256:=⟨_,rfl⟩;rw[<-kx];have SA:arith .add .i64 48 8=56:=aF hA om om;refine zc ?_;rw[SA];refine zc ?_;obtain⟨w,hw⟩:∃q,q=w0:=⟨_,rfl⟩;rw[<-hw];refine zc ?_;have kx:0<=w:=om
    have oA:w<256:=om
    rw[vf hA kx oA];refine iU hA (by kernel_rfl) kx oA (fun t c ht q1 q2 q3=>?_);refine zc ?_;have ec:conv .i64 c=c:=kA hA om om;have ea:arith .add .i64 56 c=56+c:=aF hA om om;rw[ec,ea];refine hQ _ (kg (k:=56) (K:=72057594037927936) (t:=t) x0 (w:=w) om (by rfl) om q1 q2 ht)
   ·obtain⟨w0,kx⟩:∃q,q=y:=⟨_,rfl⟩
    rw[<-kx];refine zc ?_;obtain⟨w,hw⟩:∃q,q=w0:=⟨_,rfl⟩;rw[<-hw];refine zc ?_;have kx:0<=w:=om
    have oA:w<256:=om
    rw[vf hA kx oA];refine iU hA (by kernel_rfl) kx oA (fun t c ht q1 q2 q3=>?_);refine zc ?_;have ec:conv .i64 c=c:=kA hA om om;have ea:arith .add .i64 48 c=48+c:=aF hA om om;rw[ec,ea];refine hQ _ (kg (k:=48) (K:=281474976710656) (t:=t) x0 (w:=w) om (by rfl) om q1 q2 ht)
  ·obtain⟨y,hy⟩:∃q,q=z:=⟨_,rfl⟩
   rw[<-hy];refine zc ?_;refine br (256<=y) (by rw[bY hA]) (fun c8=>?_) (fun c8=>?_)<;>refine zc ?_
   ·refine⟨fu hA om,?_⟩
    refine zc ?_;have Sz:arith .shr .u64 y 8=y / 256:=yo hA om 8 om (by rfl);rw[Sz];obtain⟨w0,kx⟩:∃q,q=y / 256:=⟨_,rfl⟩;rw[<-kx];have SA:arith .add .i64 32 8=40:=aF hA om om;refine zc ?_;rw[SA];refine zc ?_;obtain⟨w,hw⟩:∃q,q=w0:=⟨_,rfl⟩;rw[<-hw];refine zc ?_;have kx:0<=w:=om
    have oA:w<256:=om
    rw[vf hA kx oA];refine iU hA (by kernel_rfl) kx oA (fun t c ht q1 q2 q3=>?_);refine zc ?_;have ec:conv .i64 c=c:=kA hA om om;have ea:arith .add .i64 40 c=40+c:=aF hA om om;rw[ec,ea];refine hQ _ (kg (k:=40) (K:=1099511627776) (t:=t) x0 (w:=w) om (by rfl) om q1 q2 ht)
   ·obtain⟨w0,kx⟩:∃q,q=y:=⟨_,rfl⟩
    rw[<-kx];refine zc ?_;obtain⟨w,hw⟩:∃q,q=w0:=⟨_,rfl⟩;rw[<-hw];refine zc ?_;have kx:0<=w:=om
    have oA:w<256:=om
    rw[vf hA kx oA];refine iU hA (by kernel_rfl) kx oA (fun t c ht q1 q2 q3=>?_);refine zc ?_;have ec:conv .i64 c=c:=kA hA om om;have ea:arith .add .i64 32 c=32+c:=aF hA om om;rw[ec,ea];refine hQ _ (kg (k:=32) (K:=4294967296) (t:=t) x0 (w:=w) om (by rfl) om q1 q2 ht)
 ·obtain⟨z,hz⟩:∃q,q=x:=⟨_,rfl⟩
  rw[<-hz];refine zc ?_;refine br (65536<=z) (by rw[bY hA]) (fun Zc=>?_) (fun Zc=>?_)<;>refine zc ?_
  ·refine⟨fu hA om,?_⟩
   refine zc ?_;have Sx:arith .shr .u64 z 16=z / 65536:=yo hA om 16 om (by rfl);rw[Sx];obtain⟨y,hy⟩:∃q,q=z / 65536:=⟨_,rfl⟩;rw[<-hy];have Sy:arith .add .i64 0 16=16:=aF hA om om;refine zc ?_;rw[Sy];refine zc ?_;refine br (256<=y) (by rw[bY hA]) (fun c8=>?_) (fun c8=>?_)<;>refine zc ?_
   ·refine⟨fu hA om,?_⟩
    refine zc ?_;have Sz:arith .shr .u64 y 8=y / 256:=yo hA om 8 om (by rfl);rw[Sz];obtain⟨w0,kx⟩:∃q,q=y / 256:=⟨_,rfl⟩;rw[<-kx];have SA:arith .add .i64 16 8=24:=aF hA om om;refine zc ?_;rw[SA];refine zc ?_;obtain⟨w,hw⟩:∃q,q=w0:=⟨_,rfl⟩;rw[<-hw];refine zc ?_;have kx:0<=w:=om
    have oA:w<256:=om
    rw[vf hA kx oA];refine iU hA (by kernel_rfl) kx oA (fun t c ht q1 q2 q3=>?_);refine zc ?_;have ec:conv .i64 c=c:=kA hA om om;have ea:arith .add .i64 24 c=24+c:=aF hA om om;rw[ec,ea];refine hQ _ (kg (k:=24) (K:=16777216) (t:=t) x0 (w:=w) om (by rfl) om q1 q2 ht)
   ·obtain⟨w0,kx⟩:∃q,q=y:=⟨_,rfl⟩
    rw[<-kx];refine zc ?_;obtain⟨w,hw⟩:∃q,q=w0:=⟨_,rfl⟩;rw[<-hw];refine zc ?_;have kx:0<=w:=om
    have oA:w<256:=om
    rw[vf hA kx oA];refine iU hA (by kernel_rfl) kx oA (fun t c ht q1 q2 q3=>?_);refine zc ?_;have ec:conv .i64 c=c:=kA hA om om;have ea:arith .add .i64 16 c=16+c:=aF hA om om;rw[ec,ea];refine hQ _ (kg (k:=16) (K:=65536) (t:=t) x0 (w:=w) om (by rfl) om q1 q2 ht)
  ·obtain⟨y,hy⟩:∃q,q=z:=⟨_,rfl⟩
   rw[<-hy];refine zc ?_;refine br (256<=y) (by rw[bY hA]) (fun c8=>?_) (fun c8=>?_)<;>refine zc ?_
   ·refine⟨fu hA om,?_⟩
    refine zc ?_;have Sz:arith .shr .u64 y 8=y / 256:=yo hA om 8 om (by rfl);rw[Sz];obtain⟨w0,kx⟩:∃q,q=y / 256:=⟨_,rfl⟩;rw[<-kx];have SA:arith .add .i64 0 8=8:=aF hA om om;refine zc ?_;rw[SA];refine zc ?_;obtain⟨w,hw⟩:∃q,q=w0:=⟨_,rfl⟩;rw[<-hw];refine zc ?_;have kx:0<=w:=om
    have oA:w<256:=om
    rw[vf hA kx oA];refine iU hA (by kernel_rfl) kx oA (fun t c ht q1 q2 q3=>?_);refine zc ?_;have ec:conv .i64 c=c:=kA hA om om;have ea:arith .add .i64 8 c=8+c:=aF hA om om;rw[ec,ea];refine hQ _ (kg (k:=8) (K:=256) (t:=t) x0 (w:=w) om (by rfl) om q1 q2 ht)
   ·obtain⟨w0,kx⟩:∃q,q=y:=⟨_,rfl⟩
    rw[<-kx];refine zc ?_;obtain⟨w,hw⟩:∃q,q=w0:=⟨_,rfl⟩;rw[<-hw];refine zc ?_;have kx:0<=w:=om
    have oA:w<256:=om
    rw[vf hA kx oA];refine iU hA (by kernel_rfl) kx oA (fun t c ht q1 q2 q3=>?_);refine zc ?_;have ec:conv .i64 c=c:=kA hA om om;have ea:arith .add .i64 0 c=0+c:=aF hA om om;rw[ec,ea];refine hQ _ (kg (k:=0) (K:=1) (t:=t) x0 (w:=w) om (by rfl) om q1 q2 ht)
theorem Pf{h:af}(aq:h.low<=h.next){x:Int}(hx:u64 x)(zS:1<=x){Q:Value->af->Prop}(hQ:∀s:Nat,s<=63->9223372036854775808<=x*2 ^ s->x*2 ^ s<18446744073709551616->Q (.int .i64 s) h):call 115 [.int .u64 x] h Q:=by
 refine hA.aN Tryz.func115 x115.2 (hA.alike _ _ _ rfl) aq (zc ?_);refine DW hA aq hx (fun n hn=>⟨_,rfl,?_⟩);refine zc ?_;obtain⟨s,s1,s2,s3,s4⟩:=Vq zS hx.2 hn;rw[bP hA om om,s1];exact hQ s s2 s3 s4
theorem Jn{h:af}{y y1 y0 u d d0 s N:Int}(hy:y=y1*4294967296+y0)(b1:2147483648<=y1)(b2:y1<4294967296)(b3:0<=y0)(b4:y0<4294967296)(hyp:0<y)(hN:N=u*4294967296+d)(d1:0<=d)(d2:d<4294967296)(N0:0<=N)(Ns:N / y<4294967296){Q:Exit->SS->Prop}
  (hQ:Q (.exit 0) ⟨[(2,.int .u64 y),(8,.int .u64 s),(9,.int .u64 y1),(10,.int .u64 y0),(11,.int .u64 u),(13,.int .u64 d),(14,.int .u64 d0),(15,.int .u64 (N / y))],0,[],h⟩) :
  ∀(k:Nat) (q r:Int),q.toNat<=k->N / y<=q->q<=4294967297->0<=r->r<4294967296->r=u-q*y1->head 107 17 0 ⟨[(2,.int .u64 y),(8,.int .u64 s),(9,.int .u64 y1),(10,.int .u64 y0),(11,.int .u64 u),(13,.int .u64 d),(14,.int .u64 d0),(15,.int .u64 q),(16,.int .u64 r)],0,[],h⟩ Q:=by
 have Q0:0<=N / y:=Int.ediv_nonneg N0 om;intro k
 induction k with
 |zero=>
  intro q r hk l1 l2 l3 l4 hr;have Zd:q=0:=om
  subst Zd;refine hA.ar Tryz.func107 sX (zc ?_);refine br (4294967296<=(0:Int)) (by rw[bY hA]) (fun c=>absurd c om) (fun c=>?_)<;>refine zc ?_;have e1:arith .mul .u64 0 y0=0:=by rw[nX hA om om];omega
  have e2:arith .mul .u64 4294967296 r=4294967296*r:=nX hA om om;have e3:arith .add .u64 (4294967296*r) d=4294967296*r+d:=mE hA om om;rw[e1,e2,e3];refine br (4294967296*r+d<0) (by rw[dc hA]) (fun c2=>absurd c2 om) (fun c2=>?_)<;>refine zc ?_;have:N / y=0:=om
  rw[this]at hQ;exact hQ
 |succ k ih=>
  intro q r hk l1 l2 l3 l4 hr;refine hA.ar Tryz.func107 sX (zc ?_);refine br (4294967296<=q) (by rw[bY hA]) (fun c=>?_) (fun c=>?_)<;>refine zc ?_
  ·have dR:N / y<q:=om
   have BL:arith .sub .u64 q 1=q-1:=vF hA om om;have EJ:arith .add .u64 r y1=r+y1:=mE hA om om;rw[BL,EJ];obtain⟨q',yX⟩:∃z,z=q-1:=⟨_,rfl⟩;obtain⟨r',vC⟩:∃z,z=r+y1:=⟨_,rfl⟩;rw[<-yX,<-vC];refine zc ?_;have Mj:r'=u-q'*y1:=by rw[vC,hr,yX,Int.sub_mul];omega
   refine br (4294967296<=r') (by rw[bY hA]) (fun c5=>?_) (fun c5=>?_)<;>refine zc ?_
   ·have h1:¬(q'*y0>4294967296*r'+d):=by
     have:=kz 4294967296 4294967295 (a:=q') (b:=y0) om om om om;omega
    rw[j9 hy Mj hN,pN hyp]at h1;have:q'=N / y:=om
    rw[this];exact hQ
   ·exact ih q' r' om om om om om Mj
  ·have m1:=kz 4294967296 4294967295 (a:=q) (b:=y0) om om om om
   have e1:arith .mul .u64 q y0=q*y0:=nX hA m1.1 om;have e2:arith .mul .u64 4294967296 r=4294967296*r:=nX hA om om;have e3:arith .add .u64 (4294967296*r) d=4294967296*r+d:=mE hA om om;rw[e1,e2,e3];refine br (4294967296*r+d<q*y0) (by rw[dc hA]) (fun c2=>?_) (fun c2=>?_)<;>refine zc ?_
   ·have dR:N / y<q:=by
     rw[<-pN hyp,<-j9 hy hr hN];exact c2
    have BL:arith .sub .u64 q 1=q-1:=vF hA om om;have EJ:arith .add .u64 r y1=r+y1:=mE hA om om;rw[BL,EJ];obtain⟨q',yX⟩:∃z,z=q-1:=⟨_,rfl⟩;obtain⟨r',vC⟩:∃z,z=r+y1:=⟨_,rfl⟩;rw[<-yX,<-vC];refine zc ?_;have Mj:r'=u-q'*y1:=by rw[vC,hr,yX,Int.sub_mul];omega
    refine br (4294967296<=r') (by rw[bY hA]) (fun c5=>?_) (fun c5=>?_)<;>refine zc ?_
    ·have h1:¬(q'*y0>4294967296*r'+d):=by
      have:=kz 4294967296 4294967295 (a:=q') (b:=y0) om om om om;omega
     rw[j9 hy Mj hN,pN hyp]at h1;have:q'=N / y:=om
     rw[this];exact hQ
    ·exact ih q' r' om om om om om Mj
   ·have hge:¬N / y<q:=by
     rw[<-pN hyp,<-j9 hy hr hN];exact c2
    have:q=N / y:=om
    rw[this];exact hQ
theorem Jo{h:af}{y y1 y0 u d q1 s N:Int}(hy:y=y1*4294967296+y0)(b1:2147483648<=y1)(b2:y1<4294967296)(b3:0<=y0)(b4:y0<4294967296)(hyp:0<y)(hN:N=u*4294967296+d)(d1:0<=d)(d2:d<4294967296)(N0:0<=N)(Ns:N / y<4294967296){Q:Exit->SS->Prop}
  (hQ:Q (.exit 2) ⟨[(2,.int .u64 y),(8,.int .u64 s),(14,.int .u64 d),(15,.int .u64 q1),(17,.int .u64 u),(18,.int .u64 (N / y))],0,[],h⟩) :
  ∀(k:Nat) (q r:Int),q.toNat<=k->N / y<=q->q<=4294967297->0<=r->r<4294967296->r=u-q*y1->head 107 24 0 ⟨[(2,.int .u64 y),(8,.int .u64 s),(9,.int .u64 y1),(10,.int .u64 y0),(14,.int .u64 d),(15,.int .u64 q1),(16,.int .u64 r),(17,.int .u64 u),(18,.int .u64 q)],0,[],h⟩ Q:=by
 have Q0:0<=N / y:=Int.ediv_nonneg N0 om;intro k
 induction k with
 |zero=>
  intro q r hk l1 l2 l3 l4 hr;have Zd:q=0:=om
  subst Zd;refine hA.ar Tryz.func107 sX (zc ?_);refine br (4294967296<=(0:Int)) (by rw[bY hA]) (fun c=>absurd c om) (fun c=>?_)<;>refine zc ?_;have e1:arith .mul .u64 0 y0=0:=by rw[nX hA om om];omega
  have e2:arith .mul .u64 4294967296 r=4294967296*r:=nX hA om om;have e3:arith .add .u64 (4294967296*r) d=4294967296*r+d:=mE hA om om;rw[e1,e2,e3];refine br (4294967296*r+d<0) (by rw[dc hA]) (fun c2=>absurd c2 om) (fun c2=>?_)<;>refine zc ?_;have:N / y=0:=om
  rw[this]at hQ;exact hQ
 |succ k ih=>
  intro q r hk l1 l2 l3 l4 hr;refine hA.ar Tryz.func107 sX (zc ?_);refine br (4294967296<=q) (by rw[bY hA]) (fun c=>?_) (fun c=>?_)<;>refine zc ?_
  ·have dR:N / y<q:=om
   have BL:arith .sub .u64 q 1=q-1:=vF hA om om;have EJ:arith .add .u64 r y1=r+y1:=mE hA om om;rw[BL,EJ];obtain⟨q',yX⟩:∃z,z=q-1:=⟨_,rfl⟩;obtain⟨r',vC⟩:∃z,z=r+y1:=⟨_,rfl⟩;rw[<-yX,<-vC];refine zc ?_;have Mj:r'=u-q'*y1:=by rw[vC,hr,yX,Int.sub_mul];omega
   refine br (4294967296<=r') (by rw[bY hA]) (fun c5=>?_) (fun c5=>?_)<;>refine zc ?_
   ·have h1:¬(q'*y0>4294967296*r'+d):=by
     have:=kz 4294967296 4294967295 (a:=q') (b:=y0) om om om om;omega
    rw[j9 hy Mj hN,pN hyp]at h1;have:q'=N / y:=om
    rw[this];exact hQ
   ·exact ih q' r' om om om om om Mj
  ·have m1:=kz 4294967296 4294967295 (a:=q) (b:=y0) om om om om
   have e1:arith .mul .u64 q y0=q*y0:=nX hA m1.1 om;have e2:arith .mul .u64 4294967296 r=4294967296*r:=nX hA om om;have e3:arith .add .u64 (4294967296*r) d=4294967296*r+d:=mE hA om om;rw[e1,e2,e3];refine br (4294967296*r+d<q*y0) (by rw[dc hA]) (fun c2=>?_) (fun c2=>?_)<;>refine zc ?_
   ·have dR:N / y<q:=by
     rw[<-pN hyp,<-j9 hy hr hN];exact c2
    have BL:arith .sub .u64 q 1=q-1:=vF hA om om;have EJ:arith .add .u64 r y1=r+y1:=mE hA om om;rw[BL,EJ];obtain⟨q',yX⟩:∃z,z=q-1:=⟨_,rfl⟩;obtain⟨r',vC⟩:∃z,z=r+y1:=⟨_,rfl⟩;rw[<-yX,<-vC];refine zc ?_;have Mj:r'=u-q'*y1:=by rw[vC,hr,yX,Int.sub_mul];omega
    refine br (4294967296<=r') (by rw[bY hA]) (fun c5=>?_) (fun c5=>?_)<;>refine zc ?_
    ·have h1:¬(q'*y0>4294967296*r'+d):=by
      have:=kz 4294967296 4294967295 (a:=q') (b:=y0) om om om om;omega
     rw[j9 hy Mj hN,pN hyp]at h1;have:q'=N / y:=om
     rw[this];exact hQ
    ·exact ih q' r' om om om om om Mj
   ·have hge:¬N / y<q:=by
     rw[<-pN hyp,<-j9 hy hr hN];exact c2
    have:q=N / y:=om
    rw[this];exact hQ
theorem tp{h:af}(aq:h.low<=h.next){hi lo y:Int}(TT:0<=hi)(Vt:u64 lo)(hy:u64 y)(dR:hi<y){Q:Value->af->Prop}
  (hQ:∀q r:Int,q=(hi*18446744073709551616+lo) / y->r=(hi*18446744073709551616+lo) % y->∀h',Ext h h'->Q (.tuple #[.int .u64 q,.int .u64 r]) h'):call 107 [.int .u64 hi,.int .u64 lo,.int .u64 y] h Q:=by
 obtain⟨l0,l1⟩:=Vt;obtain⟨y0,y1⟩:=hy;refine hA.aN Tryz.func107 sX (hA.alike _ _ _ rfl) aq (zc ?_);refine br (y=0) (by rw[de hA]) (fun c=>absurd c om) (fun c1=>?_)<;>refine zc ?_;refine br (y<=hi) (by rw[jA hA]) (fun c=>absurd c om) (fun c2=>?_)<;>refine zc ?_;refine br (hi=0) (by rw[de hA]) (fun c3=>?_) (fun c3=>?_)<;>refine zc ?_
 ·obtain⟨h9,iT⟩:∃z,z=aG h 8:=⟨_,rfl⟩
  have e9:Ext h h9:=by rw[iT];exact au hA _ _
  rw[<-iT];refine⟨dy hA om,?_⟩;refine zc ?_;refine⟨dy hA om,?_⟩;refine zc ?_;exact hQ _ _ (by rw[c3,jo hA l0 l1 om];simp) (by rw[c3,OZ hA l0];simp) h9 e9
 refine Pf hA aq ⟨y0,y1⟩ om (fun s s1 s2 s3=>⟨_,rfl,?_⟩);refine zc ?_;have ec:conv .u64 (Int.ofNat s)=(s:Int):=by
  show conv .u64 (s:Int)=_;exact mj hA om om
 rw[ec];obtain⟨σ,hσ⟩:∃z:Int,z=s:=⟨_,rfl⟩;rw[<-hσ];refine⟨fu hA om,?_⟩;refine zc ?_;have hP:(0:Int)<2 ^ s:=Int.pow_pos om;obtain⟨Y,hY⟩:∃z,z=y*2 ^ s:=⟨_,rfl⟩;rw[<-hY]at s2 s3;have Y0':0<=Y:=Int.le_trans (by decide) s2;have eY:arith .shl .u64 y σ=Y:=by rw[FZ hA y s om hσ,<-hY];exact Int.emod_eq_of_lt Y0' s3
 rw[eY];refine⟨fu hA om,?_⟩;refine zc ?_;obtain⟨Y1,hY1⟩:∃z,z=Y / 4294967296:=⟨_,rfl⟩;obtain⟨Y0,hY0⟩:∃z,z=Y % 4294967296:=⟨_,rfl⟩;rw[pO hA (a:=Y) om,nY hA (a:=Y) om om,<-hY1,<-hY0];refine⟨fu hA om,?_⟩;refine zc ?_;have eS:arith .sub .u64 64 σ=64-σ:=vF hA om om;rw[eS];obtain⟨τ,hτ⟩:∃z:Int,z=64-σ:=⟨_,rfl⟩;rw[<-hτ];refine⟨fu hA om,?_⟩;refine zc ?_;obtain⟨sh1,sh2⟩:=OS l0 (s:=s) om;have hlP:0<=lo / 2 ^ (64-s):=Int.ediv_nonneg l0 (Int.le_of_lt (Int.pow_pos om));have Ze:lo / 2 ^ (64-s)<2 ^ s:=by
  rw[<-sh2,Int.ediv_lt_iff_lt_mul om,Int.mul_comm];exact Int.mul_lt_mul_of_pos_left l1 hP
 have hiP:0<=hi*2 ^ s:=Int.mul_nonneg TT (Int.le_of_lt hP);have hiY:hi*2 ^ s+2 ^ s<=Y:=by
  have h1:(hi+1)*2 ^ s<=y*2 ^ s:=Int.mul_le_mul_of_nonneg_right om (Int.le_of_lt hP);rw[Int.add_mul,Int.one_mul]at h1;omega
 obtain⟨U,hU⟩:∃z,z=hi*2 ^ s+lo / 2 ^ (64-s):=⟨_,rfl⟩;have eH:arith .shl .u64 hi σ=hi*2 ^ s:=by rw[FZ hA hi s om hσ,Int.emod_eq_of_lt hiP om]
 have eL:arith .shr .u64 lo τ=lo / 2 ^ (64-s):=yo hA l0 (64-s) om om;have eU:arith .or .u64 (hi*2 ^ s) (lo / 2 ^ (64-s))=U:=by rw[Xd hA s TT hlP Ze om,hU]
 rw[eH,eL,eU];refine⟨fu hA om,?_⟩;refine zc ?_;obtain⟨L,hL⟩:∃z,z=lo*2 ^ s % 18446744073709551616:=⟨_,rfl⟩;have L0:0<=L:=by rw[hL];exact Int.emod_nonneg _ om
 have L1:L<18446744073709551616:=by rw[hL];exact Int.emod_lt_of_pos _ om
 rw[FZ hA lo s om hσ,<-hL];refine⟨fu hA om,?_⟩;refine zc ?_;obtain⟨d1,Hm⟩:∃z,z=L / 4294967296:=⟨_,rfl⟩;obtain⟨d0,Zf⟩:∃z,z=L % 4294967296:=⟨_,rfl⟩;rw[pO hA (a:=L) L0,nY hA (a:=L) L0 L1,<-Hm,<-Zf];have U0:0<=U:=om
 have UY:U<Y:=om
 have Yp:0<Y:=om
 have TU:Y=Y1*4294967296+Y0:=om
 refine⟨dy hA om,?_⟩;refine zc ?_;obtain⟨q,hq⟩:∃z,z=U / Y1:=⟨_,rfl⟩;have q0:0<=q:=by rw[hq];exact Int.ediv_nonneg U0 om
 have eq:arith .quo .u64 U Y1=q:=by rw[jo hA U0 om om,hq]
 rw[eq];have qm:q*Y1+U % Y1=U:=by rw[hq,Int.mul_comm];exact Int.mul_ediv_add_emod U Y1
 have qm0:0<=U % Y1:=Int.emod_nonneg _ om;have qm1:U % Y1<Y1:=Int.emod_lt_of_pos _ om;have em:arith .mul .u64 q Y1=q*Y1:=nX hA (Int.mul_nonneg q0 om) om;have es:arith .sub .u64 U (q*Y1)=U-q*Y1:=vF hA om om;rw[em,es];obtain⟨N1,GO⟩:∃z,z=U*4294967296+d1:=⟨_,rfl⟩;have n1:=Aj TU om om U0 om om GO;have n2:=sZ TU om om UY U0;have n3:=Ak Yp UY om GO;rw[<-hq]at n1 n2;obtain⟨q1,LN⟩:∃z,z=N1 / Y:=⟨_,rfl⟩;have N10:0<=N1:=om
 have q10:0<=q1:=by rw[LN];exact Int.ediv_nonneg N10 om
 obtain⟨r0,W9⟩:∃z,z=U-q*Y1:=⟨_,rfl⟩;rw[<-W9];refine Jn hA TU om om om om Yp GO om om N10 n3 ?_ q.toNat q r0 (Nat.le_refl _) n1 n2 om om W9;rw[<-LN];refine zc ?_;have mY:=Int.mul_ediv_add_emod N1 Y;rw[<-LN]at mY;have TV:0<=N1 % Y:=Int.emod_nonneg _ om;have Xj:N1 % Y<Y:=Int.emod_lt_of_pos _ Yp;obtain⟨V,hV⟩:∃z,z=N1 % Y:=⟨_,rfl⟩;rw[<-hV]at mY TV Xj;have ev:arith .sub .u64 (arith .add .u64 (arith .mul .u64 U 4294967296) d1) (arith .mul .u64 q1 Y)=V:=by
  rw[QF hA,QD hA,DE hA,DE hA];exact DR GO mY TV (Int.lt_trans Xj s3)
 rw[ev];refine⟨dy hA om,?_⟩;refine zc ?_;obtain⟨p,hp⟩:∃z,z=V / Y1:=⟨_,rfl⟩;have p0:0<=p:=by rw[hp];exact Int.ediv_nonneg TV om
 have ep:arith .quo .u64 V Y1=p:=by rw[jo hA TV om om,hp]
 rw[ep];have pm:p*Y1+V % Y1=V:=by rw[hp,Int.mul_comm];exact Int.mul_ediv_add_emod V Y1
 have pm0:0<=V % Y1:=Int.emod_nonneg _ om;have pm1:V % Y1<Y1:=Int.emod_lt_of_pos _ om;have QL:arith .mul .u64 p Y1=p*Y1:=nX hA (Int.mul_nonneg p0 om) om;have Vv:arith .sub .u64 V (p*Y1)=V-p*Y1:=vF hA om om;rw[QL,Vv];obtain⟨N2,TW⟩:∃z,z=V*4294967296+d0:=⟨_,rfl⟩;have k1:=Aj TU om om TV om om TW;have k2:=sZ TU om om Xj TV;have k3:=Ak Yp Xj om TW;rw[<-hp]at k1 k2;obtain⟨p1,ux⟩:∃z,z=N2 / Y:=⟨_,rfl⟩;have N20:0<=N2:=om
 have p10:0<=p1:=by rw[ux];exact Int.ediv_nonneg N20 om
 obtain⟨r1,zo⟩:∃z,z=V-p*Y1:=⟨_,rfl⟩;rw[<-zo];refine Jo hA TU om om om om Yp TW om om N20 k3 ?_ p.toNat p r1 (Nat.le_refl _) k1 k2 om om zo;rw[<-ux];refine zc ?_;refine⟨fu hA om,?_⟩;refine zc ?_;have mZ:=Int.mul_ediv_add_emod N2 Y;rw[<-ux]at mZ;have zR0:0<=N2 % Y:=Int.emod_nonneg _ om;have zR1:N2 % Y<Y:=Int.emod_lt_of_pos _ Yp;have er:arith .sub .u64 (arith .add .u64 (arith .mul .u64 V 4294967296) d0) (arith .mul .u64 p1 Y)=N2 % Y:=by
  rw[QF hA,QD hA,DE hA,DE hA];exact DR TW mZ zR0 (Int.lt_trans zR1 s3)
 have Xk:arith .mul .u64 q1 4294967296=q1*4294967296:=nX hA om om;have ea3:arith .add .u64 (q1*4294967296) p1=q1*4294967296+p1:=mE hA om om;obtain⟨t1,t2,t3⟩:=FW (u1:=0) (N1:=N1) (y:=Y) (q1:=q1) (q0:=p1) (u0:=d0) (N:=N1*4294967296+d0) Yp LN (by rw[ux,TW,hV]) rfl;have hX:(hi*18446744073709551616+lo)*2 ^ s=N1*4294967296+d0:=by
  rw[Int.add_mul,sh1,<-hL,GO];have:hi*18446744073709551616*2 ^ s=hi*2 ^ s*18446744073709551616:=by grind
  rw[this];omega
 rw[t1,hY]at hX;rw[hY]at t3;obtain⟨f1,f2⟩:=Lq hP om hX (by rw[hY]at t2;exact t2) t3;refine hQ _ _ ?_ ?_ h (.refl h)
 ·rw[Xk,ea3];exact f1
 ·rw[er,yo hA zR0 s om hσ,<-f2,TW,hV,hY]
theorem yB{h:af}(aq:h.low<=h.next){hi lo y:Int}(TT:u64 hi)(Vt:u64 lo)(hy:u64 y)(NU:0<y){Q:Value->af->Prop}
  (hQ:∀r:Int,r=(hi*18446744073709551616+lo) % y->∀h',Ext h h'->Q (.int .u64 r) h'):call 106 [.int .u64 hi,.int .u64 lo,.int .u64 y] h Q:=by
 refine hA.aN Tryz.func106 x106.2 (hA.alike _ _ _ rfl) aq (zc ?_);refine⟨dy hA om,?_⟩;refine zc ?_;rw[OZ hA TT.1];have m0:0<=hi % y:=Int.emod_nonneg _ om;have m1:hi % y<y:=Int.emod_lt_of_pos _ NU;obtain⟨k,hk⟩:∃z,z=hi % y:=⟨_,rfl⟩;rw[<-hk]at m0 m1 ⊢;refine tp hA aq m0 Vt hy m1 (fun q r hq hr h1 x1=>⟨_,_,rfl,?_⟩);refine zc ?_;refine hQ r ?_ h1 x1;rw[hr,hk,Int.add_emod,Int.mul_emod,Int.emod_emod_of_dvd _ (Int.dvd_refl y),<-Int.mul_emod,<-Int.add_emod]
theorem sR{h:af}{x y c:Int}(hx:0<=x)(hy:0<=y)(hc:0<=c/\c<=1){Q:Value->af->Prop}(hQ:∀s k:Int,s=(x+y+c) % 18446744073709551616->k=(x+y+c) / 18446744073709551616->Q (.tuple #[.int .u64 s,.int .u64 k]) h):call 103 [.int .u64 x,.int .u64 y,.int .u64 c] h Q:=
 hA.K9 ((hA.alike _ _ _ rfl).trans (Md hx hy hc h)) (hQ _ _ rfl rfl)
theorem mQ{h:af}{x y c:Int}(hx:u64 x)(hy:u64 y)(hc:0<=c/\c<=1){Q:Value->af->Prop}(hQ:∀s k:Int,s=(x-y-c) % 18446744073709551616->k=(if x<y+c then 1 else 0)->Q (.tuple #[.int .u64 s,.int .u64 k]) h):call 105 [.int .u64 x,.int .u64 y,.int .u64 c] h Q:=
 hA.K9 ((hA.alike _ _ _ rfl).trans (Me hx hy hc h)) (hQ _ _ rfl rfl)
theorem SB(a:Int):cmp .lss a 0=true↔a<0:=by rw[aA hA];simp
set_option maxHeartbeats 1000000 in
theorem Ml{h:af}(aq:h.low<=h.next){n d m e:Int}{p q:Rat}(hp:gA n d p)(hq:gA m e q){Q:Value->af->Prop}
  (hQ:∀a b r,oK (p+q) a b r->∀h',Ext h h'->Q (.tuple #[.agg #[.int .i64 a,.int .i64 b],.int .i64 r]) h'):call 81 [.agg #[.int .i64 n,.int .i64 d],.agg #[.int .i64 m,.int .i64 e]] h Q:=by
 have pd:=hp.den;have qd:=hq.den;have lU:=hp.kf;have DS:=hp.kQ;have yA:=hq.kf;have DT:=hq.kQ;have pn:(n.natAbs:Int)<=1000000000000000000:=by obtain⟨rfl,_,h1,h2,_⟩:=hp;omega
 have qn:(m.natAbs:Int)<=1000000000000000000:=by obtain⟨rfl,_,h1,h2,_⟩:=hq;omega
 have pdl:d<=1000000000000000000:=by obtain⟨_,rfl,_,_,h3⟩:=hp;omega
 have qdl:e<=1000000000000000000:=by obtain⟨_,rfl,_,_,h3⟩:=hq;omega
 have ud:u64 d:=by unfold u64;omega
 have ue:u64 e:=by unfold u64;omega
 refine hA.aN Tryz.func81 Sc (hA.alike _ _ _ rfl) aq (zc ?_);obtain⟨h9,iT⟩:∃z,z=aG h 8:=⟨_,rfl⟩;have e9:Ext h h9:=by rw[iT];exact au hA _ _
 have l9:=e9.aC aq;rw[<-iT];refine zc ?_;refine iD hA (aB hA h9) DS (fun s1 fX=>⟨_,rfl,?_⟩);rw[show s1=d by omega];refine zc ?_;rw[bR hA l9];refine iD hA (aB hA h9) DT (fun s2 ql=>⟨_,rfl,?_⟩);rw[show s2=e by omega];refine zc ?_;rw[bR hA l9];refine pS hA l9 ud ue (fun dd RO BA x10=>⟨_,rfl,?_⟩);have Ge:=e9.trans x10;have TO:=Ge.aC aq;have dle:dd<=d:=by
  rw[RO,s7 ud.1 ue.1];have:=Nat.gcd_le_left e.toNat (m:=d.toNat) om;omega
 have dp:0<dd:=by
  rw[RO,s7 ud.1 ue.1];have:=Nat.gcd_pos_of_pos_left e.toNat (m:=d.toNat) om;omega
 have J4:u64 dd:=by unfold u64;omega
 refine zc ?_;obtain⟨NX,Mm⟩:∃z,z=aG BA 12:=⟨_,rfl⟩;have Sw:Ext h NX:=by rw[Mm];exact Ge.trans (au hA _ _)
 have Y8:=Sw.aC aq;rw[<-Mm];refine⟨dy hA om,?_⟩;refine zc ?_;rw[jo hA ue.1 ue.2 dp];have v1:=c7 ue dp;have v1l:e / dd<=e:=Int.ediv_le_self dd ue.1;have v2:=c7 ud dp;have v2l:d / dd<=d:=Int.ediv_le_self dd ud.1;obtain⟨k1,ED⟩:∃z,z=e / dd:=⟨_,rfl⟩;obtain⟨k2,JV⟩:∃z,z=d / dd:=⟨_,rfl⟩;rw[<-ED]at v1 v1l ⊢;rw[<-JV]at v2 v2l;refine zc ?_;refine iD hA (aB hA NX) lU (fun s3 xP=>⟨_,rfl,?_⟩);refine zc ?_;rw[bR hA Y8];have u3:u64 s3:=by unfold u64;omega
 refine lL hA (aB hA NX) u3 v1 (fun ah al f1 f2=>⟨_,_,rfl,?_⟩);refine zc ?_;rw[bR hA Y8];obtain⟨A,NY⟩:∃z,z=(n.natAbs:Int)*(e / dd):=⟨_,rfl⟩;obtain⟨B,NZ⟩:∃z,z=(m.natAbs:Int)*(d / dd):=⟨_,rfl⟩;have Zg:A=s3*k1:=by rw[NY,xP,ED]
 rw[<-Zg]at f1 f2;have A0:=kz 1000000000000000000 1000000000000000000 (a:=(n.natAbs:Int)) (b:=k1) om pn v1.1 om;rw[ED,<-NY]at A0;obtain⟨Pe,DU⟩:∃z,z=aG NX 12:=⟨_,rfl⟩;have Vr:Ext h Pe:=by rw[DU];exact Sw.trans (au hA _ _)
 have TP:=Vr.aC aq;rw[<-DU];refine⟨dy hA om,?_⟩;refine zc ?_;rw[jo hA ud.1 ud.2 dp,<-JV];refine zc ?_;refine iD hA (aB hA Pe) yA (fun s4 y7=>⟨_,rfl,?_⟩);refine zc ?_;rw[bR hA TP];have u4:u64 s4:=by unfold u64;omega
 refine lL hA (aB hA Pe) u4 v2 (fun bh bl f3 f4=>⟨_,_,rfl,?_⟩);refine zc ?_;rw[bR hA TP];have Zh:B=s4*k2:=by rw[NZ,y7,JV]
 rw[<-Zh]at f3 f4;have B0:=kz 1000000000000000000 1000000000000000000 (a:=(m.natAbs:Int)) (b:=k2) om qn v2.1 om;rw[JV,<-NZ]at B0;have QK:=Vr;have TQ:=TP;have lo0:u64 al/\u64 bl/\u64 ah/\u64 bh:=by unfold u64;omega
 obtain⟨Xl,Xm,Zi,Zj⟩:=lo0;have Zk:ah*18446744073709551616+al=A:=om
 have Xo:bh*18446744073709551616+bl=B:=om
 refine br ((n<0)↔(m<0)) (by rw[Bw hA,aA hA,aA hA];by_cases z1:n<0<;>by_cases z2:m<0<;>simp[z1,z2]) (fun cs=>?_) (fun cs=>?_)<;>refine zc ?_
 ·refine sR hA Xl.1 Xm.1 om (fun lo cy g1 g2=>⟨_,_,rfl,?_⟩)
  refine zc ?_;refine sR hA Zi.1 Zj.1 (by unfold u64 at *;omega) (fun hi cz g3 g4=>⟨_,_,rfl,?_⟩);refine zc ?_;obtain⟨T,Vw⟩:∃z,z=A+B:=⟨_,rfl⟩;have HC:hi*18446744073709551616+lo=T:=by unfold u64 at *;omega
  have Vx:((n<0↔m<0)/\T=A+B/\(cmp .lss n 0=true↔n<0))\/(¬(n<0↔m<0)/\B<=A/\T=A-B/\(cmp .lss n 0=true↔n<0))\/(¬(n<0↔m<0)/\A<B/\T=B-A/\(cmp .lss n 0=true↔m<0)):=.inl ⟨cs,Vw,SB hA n⟩;have hib:0<=hi/\hi<18446744073709551616/\0<=lo/\lo<18446744073709551616:=by unfold u64 at *;omega
  have QM:u64 hi:=by unfold u64;omega
  have QN:u64 lo:=by unfold u64;omega
  refine yB hA TQ QM QN J4 dp (fun r hr Xp x14=>⟨_,rfl,?_⟩);have QO:=QK.trans x14;have Vy:=QO.aC aq;rw[HC]at hr;refine zc ?_;have ur:u64 r:=by
   have:=Int.emod_nonneg T (b:=dd) om;have:=Int.emod_lt_of_pos T dp;have:=J4.2;unfold u64;omega
  refine pS hA Vy J4 ur (fun g hg h15 x15=>⟨_,rfl,?_⟩);have BL:=QO.trans x15;have Vz:=BL.aC aq;obtain⟨a1,a2,a3,a4,a5,a6,a7⟩:=mX hp hq (d:=dd) RO NY NZ (T:=T) (neg:=cmp .lss n 0) Vx (g:=g) (by rw[hg,hr]);refine zc ?_;have LN:T / g=0+T / g:=om
  obtain⟨N,hN⟩:∃z,z=T / g:=⟨_,rfl⟩;obtain⟨D,hD⟩:∃z,z=d / dd*(e / g):=⟨_,rfl⟩;have N0:0<=N:=by rw[hN];exact Int.ediv_nonneg a5 om
  have D0:0<=D:=by rw[hD];exact Int.mul_nonneg (Int.ediv_nonneg om om) (Int.ediv_nonneg om om)
  rw[<-hN]at a1;rw[<-hD]at a2;have hf:fits (p+q)↔N<=1000000000000000000/\D<=1000000000000000000:=by
   unfold fits;rw[a1,a2];split<;>omega
  refine br (g<=hi) (by rw[bY hA]) (fun c5=>?_) (fun c5=>?_)<;>refine zc ?_
  ·refine hQ _ _ _ (.inr ⟨fun w=>?_,rfl,rfl,rfl⟩) _ BL
   have w1:=(hf.1 w).1;have w2:18446744073709551616<=T / g:=by
    rw[Int.le_ediv_iff_mul_le a3,<-HC];omega
   omega
  have ug:u64 g:=by have:=J4.2;unfold u64;omega
  refine tp hA Vz QM.1 QN ug om (fun q1 r1 Cm EF VA x16=>⟨_,_,rfl,?_⟩);have EJ:=BL.trans x16;have l16:=EJ.aC aq;rw[HC,<-hN]at Cm;refine zc ?_;obtain⟨QP,DX⟩:∃z,z=aG VA 12:=⟨_,rfl⟩;have Mn:Ext h QP:=by rw[DX];exact EJ.trans (au hA _ _)
  have QQ:=Mn.aC aq;rw[<-DX];refine⟨dy hA om,?_⟩;refine zc ?_;refine⟨dy hA om,?_⟩;refine zc ?_;rw[jo hA ud.1 ud.2 dp,jo hA ue.1 ue.2 a3];have v1:=c7 ud dp;have v2:=c7 ue a3;generalize d / dd=y1 at *;generalize e / g=y2 at *;refine zc ?_;refine lL hA (aB hA QP) v1 v2 (fun DA v9 f3 f4=>⟨_,_,rfl,?_⟩);rw[<-hD]at f3 f4;refine zc ?_;rw[bR hA QQ];refine br (DA≠0) (by rw[bT hA]) (fun c6=>?_) (fun c6=>?_)<;>refine zc ?_
  ·exact hQ _ _ _ (.inr ⟨fun w=>by have:=hf.1 w;omega,rfl,rfl,rfl⟩) _ Mn
  have uN:u64 N:=by
   have:N<18446744073709551616:=by
    rw[hN,Int.ediv_lt_iff_lt_mul a3,<-HC];omega
   exact⟨N0,this⟩
  refine pT hA QQ (q:=p+q) (N:=q1) (D:=v9) (by rw[Cm];exact uN) (by unfold u64;omega) (by rw[Cm];exact a1) (by rw[a2];omega) (fun a b r ho=>⟨_,_,_,rfl,?_⟩);refine zc ?_;exact hQ a b r ho _ Mn
 ·refine Mg hA TP Xl Xm (fun cw J3=>⟨_,rfl,?_⟩)
  rw[Zk,Xo]at J3;refine zc ?_;refine br (0<=cw) (by rw[bY hA]) (fun cc=>?_) (fun cc=>?_)<;>refine zc ?_
  ·have Zl:B<=A:=by
    unfold IE at J3;by_cases z:B<=A
    ·exact z
    ·rw[if_neg om,if_neg om]at J3;omega
   refine mQ hA Xl Xm om (fun lo cy g1 g2=>⟨_,_,rfl,?_⟩);refine zc ?_;have TE:0<=cy/\cy<=1:=by rw[g2];split<;>omega
   have Zm:(al<bl/\cy=1)\/(bl<=al/\cy=0):=by
    by_cases z:al<bl
    ·rw[if_pos om]at g2;omega
    ·rw[if_neg om]at g2;omega
   refine mQ hA Zi Zj TE (fun hi cz g3 g4=>⟨_,_,rfl,?_⟩);refine zc ?_;obtain⟨T,Vw⟩:∃z,z=A-B:=⟨_,rfl⟩;have HC:hi*18446744073709551616+lo=T:=by unfold u64 at *;omega
   have Vx:((n<0↔m<0)/\T=A+B/\(cmp .lss n 0=true↔n<0))\/(¬(n<0↔m<0)/\B<=A/\T=A-B/\(cmp .lss n 0=true↔n<0))\/(¬(n<0↔m<0)/\A<B/\T=B-A/\(cmp .lss n 0=true↔m<0)):=.inr (.inl ⟨cs,Zl,Vw,SB hA n⟩);have hib:0<=hi/\hi<18446744073709551616/\0<=lo/\lo<18446744073709551616:=by unfold u64 at *;omega
   have QM:u64 hi:=by unfold u64;omega
   have QN:u64 lo:=by unfold u64;omega
   refine yB hA TQ QM QN J4 dp (fun r hr Xp x14=>⟨_,rfl,?_⟩);have QO:=QK.trans x14;have Vy:=QO.aC aq;rw[HC]at hr;refine zc ?_;have ur:u64 r:=by
    have:=Int.emod_nonneg T (b:=dd) om;have:=Int.emod_lt_of_pos T dp;have:=J4.2;unfold u64;omega
   refine pS hA Vy J4 ur (fun g hg h15 x15=>⟨_,rfl,?_⟩);have BL:=QO.trans x15;have Vz:=BL.aC aq;obtain⟨a1,a2,a3,a4,a5,a6,a7⟩:=mX hp hq (d:=dd) RO NY NZ (T:=T) (neg:=cmp .lss n 0) Vx (g:=g) (by rw[hg,hr]);refine zc ?_;have LN:T / g=0+T / g:=om
   obtain⟨N,hN⟩:∃z,z=T / g:=⟨_,rfl⟩;obtain⟨D,hD⟩:∃z,z=d / dd*(e / g):=⟨_,rfl⟩;have N0:0<=N:=by rw[hN];exact Int.ediv_nonneg a5 om
   have D0:0<=D:=by rw[hD];exact Int.mul_nonneg (Int.ediv_nonneg om om) (Int.ediv_nonneg om om)
   rw[<-hN]at a1;rw[<-hD]at a2;have hf:fits (p+q)↔N<=1000000000000000000/\D<=1000000000000000000:=by
    unfold fits;rw[a1,a2];split<;>omega
   refine br (g<=hi) (by rw[bY hA]) (fun c5=>?_) (fun c5=>?_)<;>refine zc ?_
   ·refine hQ _ _ _ (.inr ⟨fun w=>?_,rfl,rfl,rfl⟩) _ BL
    have w1:=(hf.1 w).1;have w2:18446744073709551616<=T / g:=by
     rw[Int.le_ediv_iff_mul_le a3,<-HC];omega
    omega
   have ug:u64 g:=by have:=J4.2;unfold u64;omega
   refine tp hA Vz QM.1 QN ug om (fun q1 r1 Cm EF VA x16=>⟨_,_,rfl,?_⟩);have EJ:=BL.trans x16;have l16:=EJ.aC aq;rw[HC,<-hN]at Cm;refine zc ?_;obtain⟨QP,DX⟩:∃z,z=aG VA 12:=⟨_,rfl⟩;have Mn:Ext h QP:=by rw[DX];exact EJ.trans (au hA _ _)
   have QQ:=Mn.aC aq;rw[<-DX];refine⟨dy hA om,?_⟩;refine zc ?_;refine⟨dy hA om,?_⟩;refine zc ?_;rw[jo hA ud.1 ud.2 dp,jo hA ue.1 ue.2 a3];have v1:=c7 ud dp;have v2:=c7 ue a3;generalize d / dd=y1 at *;generalize e / g=y2 at *;refine zc ?_;refine lL hA (aB hA QP) v1 v2 (fun DA v9 f3 f4=>⟨_,_,rfl,?_⟩);rw[<-hD]at f3 f4;refine zc ?_;rw[bR hA QQ];refine br (DA≠0) (by rw[bT hA]) (fun c6=>?_) (fun c6=>?_)<;>refine zc ?_
   ·exact hQ _ _ _ (.inr ⟨fun w=>by have:=hf.1 w;omega,rfl,rfl,rfl⟩) _ Mn
   have uN:u64 N:=by
    have:N<18446744073709551616:=by
     rw[hN,Int.ediv_lt_iff_lt_mul a3,<-HC];omega
    exact⟨N0,this⟩
   refine pT hA QQ (q:=p+q) (N:=q1) (D:=v9) (by rw[Cm];exact uN) (by unfold u64;omega) (by rw[Cm];exact a1) (by rw[a2];omega) (fun a b r ho=>⟨_,_,_,rfl,?_⟩);refine zc ?_;exact hQ a b r ho _ Mn
  ·have Zl:A<B:=by
    unfold IE at J3;by_cases z:A<B
    ·exact z
    ·by_cases z2:A=B
     ·rw[if_neg om,if_pos om]at J3;omega
     ·rw[if_pos om]at J3;omega
   refine mQ hA Xm Xl om (fun lo cy g1 g2=>⟨_,_,rfl,?_⟩);refine zc ?_;have TE:0<=cy/\cy<=1:=by rw[g2];split<;>omega
   have Zm:(bl<al/\cy=1)\/(al<=bl/\cy=0):=by
    by_cases z:bl<al
    ·rw[if_pos om]at g2;omega
    ·rw[if_neg om]at g2;omega
   refine mQ hA Zj Zi TE (fun hi cz g3 g4=>⟨_,_,rfl,?_⟩);refine zc ?_;obtain⟨T,Vw⟩:∃z,z=B-A:=⟨_,rfl⟩;have HC:hi*18446744073709551616+lo=T:=by unfold u64 at *;omega
   have Vx:((n<0↔m<0)/\T=A+B/\(cmp .lss m 0=true↔n<0))\/(¬(n<0↔m<0)/\B<=A/\T=A-B/\(cmp .lss m 0=true↔n<0))\/(¬(n<0↔m<0)/\A<B/\T=B-A/\(cmp .lss m 0=true↔m<0)):=.inr (.inr ⟨cs,Zl,Vw,SB hA m⟩);have hib:0<=hi/\hi<18446744073709551616/\0<=lo/\lo<18446744073709551616:=by unfold u64 at *;omega
   have QM:u64 hi:=by unfold u64;omega
   have QN:u64 lo:=by unfold u64;omega
   refine yB hA TQ QM QN J4 dp (fun r hr Xp x14=>⟨_,rfl,?_⟩);have QO:=QK.trans x14;have Vy:=QO.aC aq;rw[HC]at hr;refine zc ?_;have ur:u64 r:=by
    have:=Int.emod_nonneg T (b:=dd) om;have:=Int.emod_lt_of_pos T dp;have:=J4.2;unfold u64;omega
   refine pS hA Vy J4 ur (fun g hg h15 x15=>⟨_,rfl,?_⟩);have BL:=QO.trans x15;have Vz:=BL.aC aq;obtain⟨a1,a2,a3,a4,a5,a6,a7⟩:=mX hp hq (d:=dd) RO NY NZ (T:=T) (neg:=cmp .lss m 0) Vx (g:=g) (by rw[hg,hr]);refine zc ?_;have LN:T / g=0+T / g:=om
   obtain⟨N,hN⟩:∃z,z=T / g:=⟨_,rfl⟩;obtain⟨D,hD⟩:∃z,z=d / dd*(e / g):=⟨_,rfl⟩;have N0:0<=N:=by rw[hN];exact Int.ediv_nonneg a5 om
   have D0:0<=D:=by rw[hD];exact Int.mul_nonneg (Int.ediv_nonneg om om) (Int.ediv_nonneg om om)
   rw[<-hN]at a1;rw[<-hD]at a2;have hf:fits (p+q)↔N<=1000000000000000000/\D<=1000000000000000000:=by
    unfold fits;rw[a1,a2];split<;>omega
   refine br (g<=hi) (by rw[bY hA]) (fun c5=>?_) (fun c5=>?_)<;>refine zc ?_
   ·refine hQ _ _ _ (.inr ⟨fun w=>?_,rfl,rfl,rfl⟩) _ BL
    have w1:=(hf.1 w).1;have w2:18446744073709551616<=T / g:=by
     rw[Int.le_ediv_iff_mul_le a3,<-HC];omega
    omega
   have ug:u64 g:=by have:=J4.2;unfold u64;omega
   refine tp hA Vz QM.1 QN ug om (fun q1 r1 Cm EF VA x16=>⟨_,_,rfl,?_⟩);have EJ:=BL.trans x16;have l16:=EJ.aC aq;rw[HC,<-hN]at Cm;refine zc ?_;obtain⟨QP,DX⟩:∃z,z=aG VA 12:=⟨_,rfl⟩;have Mn:Ext h QP:=by rw[DX];exact EJ.trans (au hA _ _)
   have QQ:=Mn.aC aq;rw[<-DX];refine⟨dy hA om,?_⟩;refine zc ?_;refine⟨dy hA om,?_⟩;refine zc ?_;rw[jo hA ud.1 ud.2 dp,jo hA ue.1 ue.2 a3];have v1:=c7 ud dp;have v2:=c7 ue a3;generalize d / dd=y1 at *;generalize e / g=y2 at *;refine zc ?_;refine lL hA (aB hA QP) v1 v2 (fun DA v9 f3 f4=>⟨_,_,rfl,?_⟩);rw[<-hD]at f3 f4;refine zc ?_;rw[bR hA QQ];refine br (DA≠0) (by rw[bT hA]) (fun c6=>?_) (fun c6=>?_)<;>refine zc ?_
   ·exact hQ _ _ _ (.inr ⟨fun w=>by have:=hf.1 w;omega,rfl,rfl,rfl⟩) _ Mn
   have uN:u64 N:=by
    have:N<18446744073709551616:=by
     rw[hN,Int.ediv_lt_iff_lt_mul a3,<-HC];omega
    exact⟨N0,this⟩
   refine pT hA QQ (q:=p+q) (N:=q1) (D:=v9) (by rw[Cm];exact uN) (by unfold u64;omega) (by rw[Cm];exact a1) (by rw[a2];omega) (fun a b r ho=>⟨_,_,_,rfl,?_⟩);refine zc ?_;exact hQ a b r ho _ Mn
theorem HD{h:af}(aq:h.low<=h.next){n d m e:Int}(hn:i64 n)(hd:i64 d)(hm:i64 m)(he:i64 e){Q:Value->af->Prop}
  (hQ:∀a b r,DV (· + ·) n d m e a b r->∀h',Ext h h'->Q (.tuple #[.agg #[.int .i64 a,.int .i64 b],.int .i64 r]) h'):call 66 [.agg #[.int .i64 n,.int .i64 d],.agg #[.int .i64 m,.int .i64 e]] h Q:=by
 refine hA.aN Tryz.func66 x66.2 (hA.alike _ _ _ rfl) aq (zc ?_);refine BK hA aq hn hd hm he (fun r1 h1 k1 x1=>⟨_,rfl,?_⟩);refine zc ?_;refine br (r1≠0) (by rw[bT hA]) (fun c1=>?_) (fun c1=>?_)<;>refine zc ?_
 ·rcases k1 with ⟨q,_⟩|⟨rfl,q⟩
  ·exact absurd q c1
  ·exact hQ _ _ _ (.inl ⟨q,rfl,rfl,rfl⟩) _ x1
 rcases k1 with ⟨_,⟨p,hp⟩,q,hq⟩|⟨q,_⟩
 ·refine Ml hA (x1.aC aq) hp hq (fun a b r ho h2 x2=>⟨_,_,_,rfl,?_⟩)
  refine zc ?_;exact hQ _ _ _ (.inr ⟨p,q,hp,hq,ho⟩) _ (x1.trans x2)
 ·omega
theorem HE{h:af}(aq:h.low<=h.next){n d m e:Int}(hn:i64 n)(hd:i64 d)(hm:i64 m)(he:i64 e){Q:Value->af->Prop}
  (hQ:∀a b r,DV (· - ·) n d m e a b r->∀h',Ext h h'->Q (.tuple #[.agg #[.int .i64 a,.int .i64 b],.int .i64 r]) h'):call 68 [.agg #[.int .i64 n,.int .i64 d],.agg #[.int .i64 m,.int .i64 e]] h Q:=by
 refine hA.aN Tryz.func68 x68.2 (hA.alike _ _ _ rfl) aq (zc ?_);refine BK hA aq hn hd hm he (fun r1 h1 k1 x1=>⟨_,rfl,?_⟩);refine zc ?_;refine br (r1≠0) (by rw[bT hA]) (fun c1=>?_) (fun c1=>?_)<;>refine zc ?_
 ·rcases k1 with ⟨q,_⟩|⟨rfl,q⟩
  ·exact absurd q c1
  ·exact hQ _ _ _ (.inl ⟨q,rfl,rfl,rfl⟩) _ x1
 rcases k1 with ⟨_,⟨p,hp⟩,q,hq⟩|⟨q,_⟩
 ·have e1:neg .i64 m=-m:=by
   obtain⟨rfl,_,h1,h2,_⟩:=hq;rw[vc hA,wrap64 om om];omega
  rw[e1];refine Ml hA (x1.aC aq) hp hq.neg (fun a b r ho h2 x2=>⟨_,_,_,rfl,?_⟩);refine zc ?_;exact hQ _ _ _ (.inr ⟨p,q,hp,hq,by show oK (p-q) _ _ _;rw[Rat.sub_eq_add_neg];exact ho⟩) _ (x1.trans x2)
 ·omega
