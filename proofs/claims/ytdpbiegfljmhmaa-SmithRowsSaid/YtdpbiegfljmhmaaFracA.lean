import Derived.Test.YtdpbiegfljmhmaaFracT
import Derived.KernelRfl
set_option linter.unusedSimpArgs false
set_option linter.unusedVariables false
namespace Go.Proofs.Ytdpbiegfljmhmaa
open Go.Sim
set_option maxRecDepth 100000
def i64(n:Int):Prop:=-9223372036854775808<=n/\n<9223372036854775808
def u64(n:Int):Prop:=0<=n/\n<18446744073709551616
theorem Cx{a b:Int}(hb:0<=b)(ha:0<=a):Int.gcd b (a % b)=Int.gcd a b:=by
 have m0:0<=a % b:=by
  by_cases h:b=0
  ·rw[h,Int.emod_zero];exact ha
  ·exact Int.emod_nonneg _ h
 rw[qq hb m0,qq ha hb];have e:(a % b).toNat=a.toNat % b.toNat:=by
  have:((a.toNat % b.toNat:Nat):Int)=a % b:=by
   rw[Int.natCast_emod,Int.toNat_of_nonneg ha,Int.toNat_of_nonneg hb]
  omega
 rw[e,Nat.gcd_comm,<-Nat.gcd_rec,Nat.gcd_comm]
def Hs(s:ByteArray):Bool:=Nat.beq s.size 256 && (List.range 256).all fun i=>Nat.blt i (2 ^ (s[i]!).toNat) && Nat.ble (2 ^ (s[i]!).toNat) (2*Nat.max i 1) && Nat.ble (s[i]!).toNat 8
theorem JW{s:ByteArray}(ht:Hs s=true){i:Int}(h0:0<=i)(h1:i<256):∃n:Nat,K5 s i=n/\i<2 ^ n/\(2:Int) ^ n<=2*max i 1/\n<=8/\i.toNat<s.size:=by
 unfold Hs at ht;rw[Bool.and_eq_true,List.all_eq_true]at ht;obtain⟨t1,t2⟩:=ht;have hs:s.size=256:=Nat.eq_of_beq_eq_true t1;have t3:=t2 i.toNat (List.mem_range.2 (by omega));simp only[Bool.and_eq_true]at t3;obtain⟨⟨t4,t5⟩,t6⟩:=t3;have t4':i.toNat<2 ^ (s[i.toNat]!).toNat:=Nat.le_of_ble_eq_true t4;have t5':2 ^ (s[i.toNat]!).toNat<=2*Nat.max i.toNat 1:=Nat.le_of_ble_eq_true t5;have t6':(s[i.toNat]!).toNat<=8:=Nat.le_of_ble_eq_true t6;refine⟨(s[i.toNat]!).toNat,?_,?_,?_,t6',by omega⟩
 ·unfold K5
  have hi:i.toNat<s.size:=by omega
  simp[hi]
 ·have:((2 ^ (s[i.toNat]!).toNat:Nat):Int)=2 ^ (s[i.toNat]!).toNat:=by push_cast;rfl
  omega
 ·have e:((2 ^ (s[i.toNat]!).toNat:Nat):Int)=2 ^ (s[i.toNat]!).toNat:=by push_cast;rfl
  have:Nat.max i.toNat 1=max i.toNat 1:=rfl;rw[<-e];omega
def Dd(x n:Int):Prop:=0<=n/\x<2 ^ n.toNat/\(2:Int) ^ n.toNat<=2*max x 1
def sgn(x:Int):Int:=if 0<x then 1 else if x=0 then 0 else -1
theorem gS.i64n{n d:Int}{q:Rat}(h:gS n d q):i64 n:=by
 obtain⟨rfl,_,h1,h2,_⟩:=h;unfold i64;omega
theorem gS.i64d{n d:Int}{q:Rat}(h:gS n d q):i64 d:=by
 have:=h.den;obtain⟨_,rfl,_,_,h3⟩:=h;unfold i64;omega
theorem cG{a b:Int}(ha:u64 a)(hb:0<b):u64 (a / b):=by
 obtain⟨h0,h1⟩:=ha;have h2:a / b<=a:=Int.ediv_le_self b h0;exact⟨Int.ediv_nonneg h0 (by omega),by omega⟩
theorem iQ{x w K c:Int}{t k:Nat}(hx:0<=x)(hw:w=x / K)(hK:K=2 ^ k)(hz:k=0\/1<=w)(q1:w<2 ^ t)(q2:(2:Int) ^ t<=2*max w 1)(hc:c=t):Dd x (k+c):=by
 have e:((k:Int)+c).toNat=k+t:=by omega
 have hp:(0:Int)<2 ^ t:=Int.pow_pos (by omega);have hkp:(0:Int)<K:=by rw[hK];exact Int.pow_pos (by omega)
 refine⟨by omega,?_,?_⟩<;>rw[e,Int.pow_add,<-hK]
 ·have h1:w+1<=2 ^ t:=by omega
  have h2:=Int.mul_le_mul_of_nonneg_left h1 (Int.le_of_lt hkp);have h3:=Int.lt_mul_ediv_self_add (x:=x) hkp;rw[<-hw]at h3;have h4:K*(w+1)=K*w+K:=by grind
  omega
 ·rcases hz with rfl|hz
  ·have:K=1:=by rw[hK];rfl
   subst this;rw[Int.ediv_one]at hw;rw[Int.one_mul,<-hw];exact q2
  ·have h1:(2:Int) ^ t<=2*w:=by omega
   have h2:=Int.mul_le_mul_of_nonneg_left h1 (Int.le_of_lt hkp);have h3:=Int.mul_ediv_self_le (x:=x) (k:=K) (by omega);rw[<-hw]at h3;have h4:K*(2*w)=2*(K*w):=by grind
   omega
theorem KG{x n:Int}(hx:1<=x)(hx1:x<18446744073709551616)(h:Dd x n):∃s:Nat,64-n=s/\s<=63/\9223372036854775808<=x*2 ^ s/\x*2 ^ s<18446744073709551616:=by
 obtain⟨h0,h1,h2⟩:=h;have hn1:1<=n.toNat:=by
  by_cases c:n.toNat=0
  ·rw[c]at h1;simp at h1;omega
  ·omega
 have hn2:n.toNat<=64:=by
  by_cases c:n.toNat<=64
  ·exact c
  ·exfalso
   have h3:(2:Nat) ^ 65<=2 ^ n.toNat:=Nat.pow_le_pow_right (by omega) (by omega);have h4:(2:Int) ^ 65<=2 ^ n.toNat:=by exact_mod_cast h3
   have h5:(2:Int) ^ 65=36893488147419103232:=by rfl
   omega
 refine⟨64-n.toNat,by omega,by omega,?_⟩;have e:(2:Int) ^ n.toNat*2 ^ (64-n.toNat)=18446744073709551616:=by
  rw[<-Int.pow_add,show n.toNat+(64-n.toNat)=64 by omega];rfl
 have hp:(0:Int)<2 ^ (64-n.toNat):=Int.pow_pos (by omega);generalize (2:Int) ^ n.toNat=A at *;generalize (2:Int) ^ (64-n.toNat)=B at *;constructor
 ·have:=Int.mul_le_mul_of_nonneg_right (show A<=2*x by omega) (Int.le_of_lt hp)
  have e2:2*x*B=2*(x*B):=by grind
  omega
 ·have:=Int.mul_lt_mul_of_pos_right h1 hp
  omega
theorem Ae{U d q Y N V:Int}(hN:N=U*4294967296+d)(m:Y*q+V=N)(V0:0<=V)(V1:V<18446744073709551616):((U*4294967296 % 18446744073709551616+d) % 18446744073709551616-q*Y % 18446744073709551616) % 18446744073709551616=V:=by
 rw[Int.mul_comm q Y];generalize Y*q=z at *;omega
theorem F8{x y c:Int}(hx:0<=x)(hy:0<=y)(hc:0<=c/\c<=1)(h:af):fw 113 [.int .u64 x,.int .u64 y,.int .u64 c] h=some (.tuple #[.int .u64 ((x+y+c) % 18446744073709551616),.int .u64 ((x+y+c) / 18446744073709551616)],h):=by
 have e:uX [.int .u64 x,.int .u64 y,.int .u64 c]=some (.tuple #[.int .u64 ((x+y+c) % 18446744073709551616),.int .u64 ((x+y+c) / 18446744073709551616)]):=by
  show(if 0<=x/\0<=y/\0<=c/\c<=1 then some _ else none)=_;rw[if_pos ⟨hx,hy,hc.1,hc.2⟩]
 have p:fw 113 [.int .u64 x,.int .u64 y,.int .u64 c] h=jR 113 uX (jR 115 qX pU) 113 [.int .u64 x,.int .u64 y,.int .u64 c] h:=rfl;rw[p];unfold jR;rw[e];rfl
theorem Gx{x y c:Int}(hx:u64 x)(hy:u64 y)(hc:0<=c/\c<=1)(h:af):fw 115 [.int .u64 x,.int .u64 y,.int .u64 c] h=some (.tuple #[.int .u64 ((x-y-c) % 18446744073709551616),.int .u64 (if x<y+c then 1 else 0)],h):=by
 have e:qX [.int .u64 x,.int .u64 y,.int .u64 c]=some (.tuple #[.int .u64 ((x-y-c) % 18446744073709551616),.int .u64 (if x<y+c then 1 else 0)]):=by
  obtain⟨x0,x1⟩:=hx;obtain⟨y0,y1⟩:=hy;show(if 0<=x/\0<=y/\0<=c/\c<=1 then some _ else none)=_;rw[if_pos ⟨x0,y0,hc.1,hc.2⟩];have e1:Int.ofNat ((x.toNat+18446744073709551616-y.toNat-c.toNat) % 18446744073709551616)=(x-y-c) % 18446744073709551616:=by
   show(((x.toNat+18446744073709551616-y.toNat-c.toNat) % 18446744073709551616:Nat):Int)=_;omega
  have e2:Int.ofNat (if x.toNat<y.toNat+c.toNat then 1 else 0)=if x<y+c then 1 else 0:=by
   by_cases w:x<y+c
   ·rw[if_pos w,if_pos (by omega)];rfl
   ·rw[if_neg w,if_neg (by omega)];rfl
  rw[e1,e2]
 have p:fw 115 [.int .u64 x,.int .u64 y,.int .u64 c] h=jR 115 qX pU 115 [.int .u64 x,.int .u64 y,.int .u64 c] h:=rfl;rw[p];unfold jR;rw[e];rfl
variable{F:aM}{call head arith cmp c0 bnot bsame conv neg e0 f0 ofNat g0 i0 j0 nz k0 rd wr o0 next s0 t0 v0 z0 i1 j1 o1 i2 strAt j2 m2 o2 p2 u2 lowered bump d3 i3 lt ne j3 m3 o3 yn p3 r3 w3 x3 y3 d4:_}(hA:AP F ⟨call,head,arith,cmp,c0,bnot,bsame,conv,neg,e0,f0,ofNat,g0,i0,j0,nz,k0,rd,wr,o0,next,s0,t0,v0,z0,i1,j1,o1,i2,strAt,j2,m2,o2,p2,u2,lowered,bump,d3,i3,lt,ne,j3,m3,o3,yn,p3,r3,w3,x3,y3,d4⟩)
include hA
theorem gv{h:af}(hlow:h.low<=h.next){n:Int}(hn:i64 n){Q:Value->af->Prop}(hQ:∀s:Int,s=n.natAbs->Q (.int .u64 s) h):call 71 [.int .i64 n] h Q:=by
 obtain⟨h0,h1⟩:=hn;refine hA.bodyR Try.func71 r71_ok (hA.alike _ _ _ rfl) hlow (zc ?_);refine br (n<0) (by rw[au hA]) (fun c=>?_) (fun c=>?_)<;>refine zc ?_
 ·exact hQ _ (by rw[rY hA,oS hA,lQ,lQ];omega)
 ·exact hQ _ (by rw[oS hA,lQ];omega)
theorem Gd{h0:af}{Q:Exit->SS->Prop}:∀(m:Nat) (a b:Int) (h:af),b.toNat<=m->u64 a->u64 b->Ext h0 h->
  (∀g:Int,g=Int.gcd a b->∀e kn K h',Ext h0 h'->Q (.exit 0) ⟨(0,.int .u64 g) :: e,kn,K,h'⟩)->head 72 1 0 ⟨[(0,.int .u64 a),(1,.int .u64 b)],0,[],h⟩ Q:=by
 intro m
 induction m with
 |zero=>
  intro a b h hm ha hb he hQ;have hb0:b=0:=by unfold u64 at hb;omega
  refine hA.roundR Try.func72 r72_ok (zc ?_);refine br (b≠0) (by rw[bL hA]) (fun c=>absurd hb0 c) (fun c=>?_)<;>refine zc ?_;exact hQ a (by rw[hb0];unfold Int.gcd;unfold u64 at ha;simp;omega) _ _ _ h he
 |succ m ih=>
  intro a b h hm ha hb he hQ;refine hA.roundR Try.func72 r72_ok (zc ?_);refine br (b≠0) (by rw[bL hA]) (fun c=>?_) (fun c=>?_)<;>refine zc ?_
  ·obtain⟨h9,hh9⟩:∃z,z=bump h 6:=⟨_,rfl⟩
   have e9:Ext h h9:=by rw[hh9,iY hA];exact .bump _ _
   rw[<-hh9];refine⟨cY hA c,?_⟩;refine zc ?_;have h1:arith .rem .u64 a b=a % b:=IU hA ha.1;have hb1:0<b:=by have:=hb.1;omega
   have h2:0<=a % b:=Int.emod_nonneg _ c;have h3:a % b<b:=Int.emod_lt_of_pos _ hb1;rw[h1];refine ih b (a % b) h9 (by omega) hb ⟨h2,by have:=hb.2;omega⟩ (he.trans e9) (fun g hg=>hQ g ?_);rw[hg,Cx hb.1 ha.1]
  ·have hb0:b=0:=by omega
   exact hQ a (by rw[hb0];unfold Int.gcd;unfold u64 at ha;simp;omega) _ _ _ h he
theorem nB{h:af}(hlow:h.low<=h.next){a b:Int}(ha:u64 a)(hb:u64 b){Q:Value->af->Prop}(hQ:∀g:Int,g=Int.gcd a b->∀h',Ext h h'->Q (.int .u64 g) h'):call 72 [.int .u64 a,.int .u64 b] h Q:=by
 refine hA.bodyR Try.func72 r72_ok (hA.alike _ _ _ rfl) hlow (zc ?_);refine Gd hA b.toNat a b h (Nat.le_refl _) ha hb (.refl h) (fun g hg e kn K h' he=>?_);refine zc ?_;exact hQ g hg h' he
theorem DZ{h0:af}{Q:Exit->SS->Prop}:∀(m:Nat) (a b:Int) (h:af),b.toNat<=m->u64 a->u64 b->Ext h0 h->
  (∀g:Int,g=Int.gcd a b->∀e kn K h',Ext h0 h'->Q (.exit 0) ⟨(0,.int .u64 g) :: e,kn,K,h'⟩)->head 38 1 0 ⟨[(0,.int .u64 a),(1,.int .u64 b)],0,[],h⟩ Q:=by
 intro m
 induction m with
 |zero=>
  intro a b h hm ha hb he hQ;have hb0:b=0:=by unfold u64 at hb;omega
  refine hA.roundR Try.func38 r38_ok (zc ?_);refine br (b≠0) (by rw[bL hA]) (fun c=>absurd hb0 c) (fun c=>?_)<;>refine zc ?_;exact hQ a (by rw[hb0];unfold Int.gcd;unfold u64 at ha;simp;omega) _ _ _ h he
 |succ m ih=>
  intro a b h hm ha hb he hQ;refine hA.roundR Try.func38 r38_ok (zc ?_);refine br (b≠0) (by rw[bL hA]) (fun c=>?_) (fun c=>?_)<;>refine zc ?_
  ·obtain⟨h9,hh9⟩:∃z,z=bump h 6:=⟨_,rfl⟩
   have e9:Ext h h9:=by rw[hh9,iY hA];exact .bump _ _
   rw[<-hh9];refine⟨cY hA c,?_⟩;refine zc ?_;have h1:arith .rem .u64 a b=a % b:=IU hA ha.1;have hb1:0<b:=by have:=hb.1;omega
   have h2:0<=a % b:=Int.emod_nonneg _ c;have h3:a % b<b:=Int.emod_lt_of_pos _ hb1;rw[h1];refine ih b (a % b) h9 (by omega) hb ⟨h2,by have:=hb.2;omega⟩ (he.trans e9) (fun g hg=>hQ g ?_);rw[hg,Cx hb.1 ha.1]
  ·have hb0:b=0:=by omega
   exact hQ a (by rw[hb0];unfold Int.gcd;unfold u64 at ha;simp;omega) _ _ _ h he
theorem lu{h:af}(hlow:h.low<=h.next){a b:Int}(ha:u64 a)(hb:u64 b){Q:Value->af->Prop}(hQ:∀g:Int,g=Int.gcd a b->∀h',Ext h h'->Q (.int .u64 g) h'):call 38 [.int .u64 a,.int .u64 b] h Q:=by
 refine hA.bodyR Try.func38 r38_ok (hA.alike _ _ _ rfl) hlow (zc ?_);refine DZ hA b.toNat a b h (Nat.le_refl _) ha hb (.refl h) (fun g hg e kn K h' he=>?_);refine zc ?_;exact hQ g hg h' he
theorem mJ{h:af}(hlow:h.low<=h.next){q:Rat}{mi:Bool}{N D:Int}(hN:u64 N)(hD:u64 D)(h1:q.num=if mi=true then -N else N)(h2:(q.den:Int)=D){Q:Value->af->Prop}
  (hQ:∀n d e,mE q n d e->Q (.tuple #[.agg #[.int .i64 n,.int .i64 d],.int .i64 e]) h):call 73 [.bool mi,.int .u64 N,.int .u64 D] h Q:=by
 obtain⟨n0,n1⟩:=hN;obtain⟨d0,d1⟩:=hD;have hf:fits q↔N<=1000000000000000000/\D<=1000000000000000000:=by
  unfold fits;rw[h1,h2];split<;>omega
 refine hA.bodyR Try.func73 r73_ok (hA.alike _ _ _ rfl) hlow (zc ?_);refine br (1000000000000000000<N) (by rw[dc hA]) (fun c=>?_) (fun c=>?_)<;>refine zc ?_
 ·exact hQ _ _ _ (.inr ⟨fun w=>by have:=hf.1 w;omega,rfl,rfl,rfl⟩)
 refine br (1000000000000000000<D) (by rw[dc hA]) (fun c2=>?_) (fun c2=>?_)<;>refine zc ?_
 ·exact hQ _ _ _ (.inr ⟨fun w=>by have:=hf.1 w;omega,rfl,rfl,rfl⟩)
 have e1:conv .i64 N=N:=i6 hA (by omega) (by omega);have e2:conv .i64 D=D:=i6 hA (by omega) (by omega);have e3:neg .i64 N=-N:=by rw[rY hA,fX (by omega) (by omega)];omega
 have hfit:=hf.2 ⟨by omega,by omega⟩;rw[e1,e2];cases mi with
 |true=>
  refine zc ?_;rw[e3];exact hQ _ _ _ (.inl ⟨hfit,by rw[h1,if_pos rfl],by rw[h2],rfl⟩)
 |false=>
  refine zc ?_;exact hQ _ _ _ (.inl ⟨hfit,by rw[h1];simp,by rw[h2],rfl⟩)
theorem p8{h:af}(hlow:h.low<=h.next){n d:Int}(hn:i64 n)(hd:i64 d){Q:Value->af->Prop}
  (hQ:∀(e:Int) h',(e=0/\oN n d)\/(e=8/\¬oN n d)->Ext h h'->Q (.int .i64 e) h'):call 60 [.agg #[.int .i64 n,.int .i64 d]] h Q:=by
 have bad:¬(1<=d/\d<=1000000000000000000/\-1000000000000000000<=n/\n<=1000000000000000000/\Int.gcd n d=1)->¬oN n d:=fun w q=>w ((qr n d).1 q)
 refine hA.bodyR Try.func60 r60_ok (hA.alike _ _ _ rfl) hlow (zc ?_);refine br (d<1) (by rw[au hA]) (fun c1=>?_) (fun c1=>?_)<;>refine zc ?_
 ·exact hQ _ _ (.inr ⟨rfl,bad (by omega)⟩) (.refl h)
 refine br (1000000000000000000<d) (by rw[dc hA]) (fun c2=>?_) (fun c2=>?_)<;>refine zc ?_
 ·exact hQ _ _ (.inr ⟨rfl,bad (by omega)⟩) (.refl h)
 refine br (n < -1000000000000000000) (by rw[au hA]) (fun c3=>?_) (fun c3=>?_)<;>refine zc ?_
 ·exact hQ _ _ (.inr ⟨rfl,bad (by omega)⟩) (.refl h)
 refine br (1000000000000000000<n) (by rw[dc hA]) (fun c4=>?_) (fun c4=>?_)<;>refine zc ?_
 ·exact hQ _ _ (.inr ⟨rfl,bad (by omega)⟩) (.refl h)
 obtain⟨h9,hh9⟩:∃z,z=bump h 8:=⟨_,rfl⟩;have e9:Ext h h9:=by rw[hh9];exact aq hA _ _
 have l9:=e9.lowOK hlow;rw[<-hh9];refine zc ?_;refine gv hA (aw hA h9) hn (fun s hs=>⟨_,rfl,?_⟩);refine zc ?_;rw[bJ hA l9];refine gv hA (aw hA h9) hd (fun t ht=>⟨_,rfl,?_⟩);refine zc ?_;rw[bJ hA l9];refine nB hA (aw hA h9) (by unfold u64;omega) (by unfold u64;omega) (fun g hg hz ez=>⟨_,rfl,?_⟩);refine zc ?_;obtain⟨hX,hhX⟩:∃z,z=lowered h9 hz:=⟨_,rfl⟩;have eX:Ext h hX:=by rw[hhX];exact bP hA hlow e9 ez
 rw[<-hhX];have hgg:g=Int.gcd n d:=by
  rw[hg,hs,ht];rfl
 refine br (g≠1) (by rw[bL hA]) (fun c5=>?_) (fun c5=>?_)<;>refine zc ?_
 ·exact hQ _ _ (.inr ⟨rfl,bad (by omega)⟩) eX
 ·exact hQ _ _ (.inl ⟨rfl,(qr n d).2 (by omega)⟩) eX
theorem CS{h:af}(hlow:h.low<=h.next){n d:Int}(hn:i64 n)(hd:i64 d){Q:Value->af->Prop}
  (hQ:∀n' d' e,(d=0/\n'=0/\d'=0/\e=18)\/(d≠0/\mE ((n:Rat) / (d:Rat)) n' d' e)->∀h',Ext h h'->Q (.tuple #[.agg #[.int .i64 n',.int .i64 d'],.int .i64 e]) h'):call 50 [.int .i64 n,.int .i64 d] h Q:=by
 refine hA.bodyR Try.func50 r50_ok (hA.alike _ _ _ rfl) hlow (zc ?_);refine br (d=0) (by rw[cJ hA]) (fun c1=>?_) (fun c1=>?_)<;>refine zc ?_
 ·exact hQ _ _ _ (.inl ⟨c1,rfl,rfl,rfl⟩) h (.refl h)
 refine gv hA hlow hn (fun s hs=>⟨_,rfl,?_⟩);refine zc ?_;refine gv hA hlow hd (fun t ht=>⟨_,rfl,?_⟩);refine zc ?_;unfold i64 at hn hd;refine nB hA hlow (by unfold u64;omega) (by unfold u64;omega) (fun g hg h2 x2=>⟨_,rfl,?_⟩);refine zc ?_;obtain⟨mi,hmi⟩:∃z,z=bnot (bsame (cmp .lss n 0) (cmp .lss d 0)):=⟨_,rfl⟩;have hs2:=uM hA n d;rw[<-hmi]at hs2 ⊢;obtain⟨h9,hh9⟩:∃z,z=bump h2 16:=⟨_,rfl⟩;have e9:Ext h h9:=by rw[hh9];exact x2.trans (aq hA _ _)
 rw[<-hh9];have hgg:g=Int.gcd n d:=by rw[hg,hs,ht];rfl
 obtain⟨k1,k2,k3,k4⟩:=DD c1 hgg hs2;rw[<-hs]at k1;rw[<-ht]at k2 k4;refine⟨cY hA (by omega),?_⟩;refine zc ?_;refine⟨cY hA (by omega),?_⟩;refine zc ?_;rw[gX hA (by omega) (by omega) k3,gX hA (by omega) (by omega) k3];have b1:s / g<=s:=Int.ediv_le_self g (by omega);have b2:t / g<=t:=Int.ediv_le_self g (by omega);have b3:0<=s / g:=Int.ediv_nonneg (by omega) (by omega);have b4:0<=t / g:=Int.ediv_nonneg (by omega) (by omega);generalize s / g=sg at *;generalize t / g=tg at *;refine zc ?_;refine mJ hA (aw hA h9) (by unfold u64;omega) (by unfold u64;omega) k1 k2 (fun n' d' e ho=>⟨_,_,_,rfl,?_⟩);refine zc ?_;exact hQ n' d' e (.inr ⟨c1,ho⟩) _ (bP hA hlow e9 (.refl _))
theorem jN{h:af}(hlow:h.low<=h.next){x y:Int}(hx:u64 x)(hy:u64 y){Q:Value->af->Prop}
  (hQ:∀hi lo:Int,hi=x*y / 18446744073709551616->lo=x*y % 18446744073709551616->Q (.tuple #[.int .u64 hi,.int .u64 lo]) h):call 112 [.int .u64 x,.int .u64 y] h Q:=by
 obtain⟨x0,x1⟩:=hx;obtain⟨y0,y1⟩:=hy;obtain⟨k1,k2,k3,k4,k5,k6⟩:=GD x0 x1 y0 y1 rfl rfl rfl rfl rfl rfl;refine hA.bodyR Try.func112 r112_ok (hA.alike _ _ _ rfl) hlow (zc ?_);refine⟨geZ_ok hA (by omega),?_⟩;refine zc ?_;refine⟨geZ_ok hA (by omega),?_⟩;refine zc ?_;refine⟨geZ_ok hA (by omega),?_⟩;refine zc ?_;refine⟨geZ_ok hA (by omega),?_⟩;refine zc ?_;refine⟨geZ_ok hA (by omega),?_⟩;refine zc ?_;refine hQ _ _ ?_ (zd hA x y);rw[lF hA x0 x1,lF hA y0 y1,mS hA x0,mS hA y0];rw[kZ hA k1.1 (by omega),kZ hA k2.1 (by omega),kZ hA k3.1 (by omega),kZ hA k4.1 (by omega)];rw[mS hA k1.1];rw[ku hA (a:=x / 4294967296*(y % 4294967296)) (by omega) (by omega)];rw[lF hA (by omega) (by omega)];rw[ku hA (b:=x % 4294967296*(y / 4294967296)) (by omega) (by omega)];rw[mS hA (by omega),mS hA (by omega)];rw[ku hA (a:=x / 4294967296*(y / 4294967296)) (by omega) (by omega)];rw[ku hA (by omega) (by omega)];exact k6
theorem Hb{h:af}(hlow:h.low<=h.next){ah al bh bl:Int}(h2:u64 al)(h4:u64 bl){Q:Value->af->Prop}
  (hQ:∀c:Int,c=sgn (ah*18446744073709551616+al-(bh*18446744073709551616+bl))->Q (.int .i64 c) h):call 114 [.int .u64 ah,.int .u64 al,.int .u64 bh,.int .u64 bl] h Q:=by
 obtain⟨a0,a1⟩:=h2;obtain⟨b0,b1⟩:=h4;refine hA.bodyR Try.func114 r114_ok (hA.alike _ _ _ rfl) hlow (zc ?_);refine br (bh<ah) (by rw[dc hA]) (fun c1=>?_) (fun c1=>?_)<;>refine zc ?_
 ·exact hQ _ (by unfold sgn;rw[if_pos (by omega)])
 refine br (ah=bh) (by rw[cJ hA]) (fun c2=>?_) (fun c2=>?_)<;>refine zc ?_
 ·refine br (bl<al) (by rw[dc hA]) (fun c3=>?_) (fun c3=>?_)<;>refine zc ?_
  ·exact hQ _ (by unfold sgn;rw[if_pos (by omega)])
  refine br (ah=bh) (by rw[cJ hA]) (fun _=>?_) (fun q=>absurd c2 q)<;>refine zc ?_;refine br (al=bl) (by rw[cJ hA]) (fun c4=>?_) (fun c4=>?_)<;>refine zc ?_
  ·exact hQ _ (by unfold sgn;rw[if_neg (by omega),if_pos (by omega)])
  ·exact hQ _ (by unfold sgn;rw[if_neg (by omega),if_neg (by omega)])
 ·refine br (ah=bh) (by rw[cJ hA]) (fun q=>absurd q c2) (fun _=>?_)<;>refine zc ?_
  exact hQ _ (by unfold sgn;rw[if_neg (by omega),if_neg (by omega)])
theorem xF{h:af}(hlow:h.low<=h.next){n d m e:Int}(hn:i64 n)(hd:i64 d)(hm:i64 m)(he:i64 e){Q:Value->af->Prop}
  (hQ:∀(r:Int) h',(r=0/\oN n d/\oN m e)\/(r=8/\¬(oN n d/\oN m e))->Ext h h'->Q (.int .i64 r) h'):call 89 [.agg #[.int .i64 n,.int .i64 d],.agg #[.int .i64 m,.int .i64 e]] h Q:=by
 refine hA.bodyR Try.func89 r89_ok (hA.alike _ _ _ rfl) hlow (zc ?_);refine p8 hA hlow hn hd (fun r1 h1 k1 x1=>⟨_,rfl,?_⟩);refine zc ?_;refine br (r1≠0) (by rw[bL hA]) (fun c1=>?_) (fun c1=>?_)<;>refine zc ?_
 ·rcases k1 with ⟨q,_⟩|⟨rfl,q⟩
  ·exact absurd q c1
  ·exact hQ _ _ (.inr ⟨rfl,fun w=>q w.1⟩) x1
 refine p8 hA (x1.lowOK hlow) hm he (fun r2 h2 k2 x2=>⟨_,rfl,?_⟩);refine zc ?_;rcases k1 with ⟨_,q1⟩|⟨q,_⟩
 ·rcases k2 with ⟨rfl,q2⟩|⟨rfl,q2⟩
  ·exact hQ _ _ (.inl ⟨rfl,q1,q2⟩) (x1.trans x2)
  ·exact hQ _ _ (.inr ⟨rfl,fun w=>q2 w.2⟩) (x1.trans x2)
 ·omega
def Jq(n d m e c r:Int):Prop:=(¬(oN n d/\oN m e)/\c=0/\r=8)\/∃p q,gS n d p/\gS m e q/\c=JM p q/\r=0
theorem AZ{h:af}(hlow:h.low<=h.next){n d m e:Int}{p q:Rat}(hp:gS n d p)(hq:gS m e q){Q:Value->af->Prop}
  (hQ:∀a b r,mE (p*q) a b r->∀h',Ext h h'->Q (.tuple #[.agg #[.int .i64 a,.int .i64 b],.int .i64 r]) h'):call 90 [.agg #[.int .i64 n,.int .i64 d],.agg #[.int .i64 m,.int .i64 e]] h Q:=by
 have pd:=hp.den;have qd:=hq.den;have in64:=hp.i64n;have id64:=hp.i64d;have im64:=hq.i64n;have ie64:=hq.i64d;refine hA.bodyR Try.func90 r90_ok (hA.alike _ _ _ rfl) hlow (zc ?_);obtain⟨h9,hh9⟩:∃z,z=bump h 16:=⟨_,rfl⟩;have e9:Ext h h9:=by rw[hh9];exact aq hA _ _
 have l9:=e9.lowOK hlow;rw[<-hh9];refine zc ?_;refine gv hA (aw hA h9) in64 (fun s1 hs1=>⟨_,rfl,?_⟩);refine zc ?_;rw[bJ hA l9];refine gv hA (aw hA h9) id64 (fun s2 hs2=>⟨_,rfl,?_⟩);refine zc ?_;rw[bJ hA l9];refine gv hA (aw hA h9) im64 (fun s3 hs3=>⟨_,rfl,?_⟩);refine zc ?_;rw[bJ hA l9];refine gv hA (aw hA h9) ie64 (fun s4 hs4=>⟨_,rfl,?_⟩);refine zc ?_;rw[bJ hA l9];have z1:u64 s1:=by unfold u64;unfold i64 at in64;omega
 have z2:u64 s2:=by unfold u64;unfold i64 at id64;omega
 have z3:u64 s3:=by unfold u64;unfold i64 at im64;omega
 have z4:u64 s4:=by unfold u64;unfold i64 at ie64;omega
 have y2:s2=d:=by omega
 have y4:s4=e:=by omega
 refine nB hA l9 z1 z4 (fun g hg h10 x10=>⟨_,rfl,?_⟩);have e10:=e9.trans x10;have l10:=e10.lowOK hlow;refine zc ?_;refine nB hA l10 z3 z2 (fun k hk h11 x11=>⟨_,rfl,?_⟩);have e11:=e10.trans x11;have l11:=e11.lowOK hlow;obtain⟨mi,hmi⟩:∃z,z=bnot (bsame (cmp .lss n 0) (cmp .lss m 0)):=⟨_,rfl⟩;have hs2':=uM hA n m;rw[<-hmi]at hs2';obtain⟨k1,k2,k3,k4,k5,k6⟩:=yE hp hq (g:=g) (h:=k) (by rw[hg,hs1,y4]) (by rw[hk,hs3,y2]) hs2';rw[<-hs1,<-hs3]at k1;rw[<-y2,<-y4]at k2;refine zc ?_;obtain⟨h12,hh12⟩:∃z,z=bump h11 12:=⟨_,rfl⟩;have e12:Ext h h12:=by rw[hh12];exact e11.trans (aq hA _ _)
 have l12:=e12.lowOK hlow;rw[<-hh12];refine⟨cY hA (by omega),?_⟩;refine zc ?_;refine⟨cY hA (by omega),?_⟩;refine zc ?_;rw[gX hA z1.1 z1.2 k3,gX hA z3.1 z3.2 k5];have v1:=cG z1 k3;have v2:=cG z3 k5;have v3:=cG z2 k5;have v4:=cG z4 k3;have w2:arith .quo .u64 s2 k=s2 / k:=gX hA z2.1 z2.2 k5;have w4:arith .quo .u64 s4 g=s4 / g:=gX hA z4.1 z4.2 k3;generalize s1 / g=q1 at *;generalize s3 / k=q3 at *;generalize s2 / k=q2 at *;generalize s4 / g=q4 at *;refine zc ?_;refine jN hA (aw hA h12) v1 v2 (fun hi lo f1 f2=>⟨_,_,rfl,?_⟩);refine zc ?_;rw[bJ hA l12];obtain⟨h13,hh13⟩:∃z,z=bump h12 12:=⟨_,rfl⟩;have e13:Ext h h13:=by rw[hh13];exact e12.trans (aq hA _ _)
 have l13:=e13.lowOK hlow;rw[<-hh13];refine⟨cY hA (by omega),?_⟩;refine zc ?_;refine⟨cY hA (by omega),?_⟩;refine zc ?_;rw[w2,w4];refine jN hA (aw hA h13) v3 v4 (fun hi2 lo2 f3 f4=>⟨_,_,rfl,?_⟩);refine zc ?_;rw[bJ hA l13];obtain⟨N,hN⟩:∃z,z=q1*q3:=⟨_,rfl⟩;obtain⟨D,hD⟩:∃z,z=q2*q4:=⟨_,rfl⟩;have N0:0<=N:=by rw[hN];exact Int.mul_nonneg v1.1 v2.1
 have D0:0<=D:=by rw[hD];exact Int.mul_nonneg v3.1 v4.1
 rw[<-hN]at k1 f1 f2;rw[<-hD]at k2 f3 f4;have hf:fits (p*q)↔N<=1000000000000000000/\D<=1000000000000000000:=by
  unfold fits;rw[k1,k2];split<;>omega
 refine br (hi≠0) (by rw[bL hA]) (fun c1=>?_) (fun c1=>?_)<;>refine zc ?_
 ·exact hQ _ _ _ (.inr ⟨fun w=>by have:=hf.1 w;omega,rfl,rfl,rfl⟩) _ e13
 refine br (hi2≠0) (by rw[bL hA]) (fun c2=>?_) (fun c2=>?_)<;>refine zc ?_
 ·exact hQ _ _ _ (.inr ⟨fun w=>by have:=hf.1 w;omega,rfl,rfl,rfl⟩) _ e13
 rw[<-hmi];have hlo:lo=N:=by omega
 have hlo2:lo2=D:=by omega
 refine mJ hA l13 (q:=p*q) (by unfold u64;omega) (by unfold u64;omega) (by rw[hlo];exact k1) (by rw[hlo2];exact k2) (fun a b r ho=>⟨_,_,_,rfl,?_⟩);refine zc ?_;exact hQ a b r ho _ e13
def zP(f:Rat->Rat->Rat)(n d m e a b r:Int):Prop:=(¬(oN n d/\oN m e)/\a=0/\b=0/\r=8)\/∃p q,gS n d p/\gS m e q/\mE (f p q) a b r
def KD(n d m e a b r:Int):Prop:=(¬(oN n d/\oN m e)/\a=0/\b=0/\r=8)\/(oN n d/\oN m e/\m=0/\a=0/\b=0/\r=18)\/∃p q,gS n d p/\gS m e q/\m≠0/\mE (p / q) a b r
theorem Kq{h:af}(hlow:h.low<=h.next){n d m e:Int}(hn:i64 n)(hd:i64 d)(hm:i64 m)(he:i64 e){Q:Value->af->Prop}
  (hQ:∀a b r,zP (· * ·) n d m e a b r->∀h',Ext h h'->Q (.tuple #[.agg #[.int .i64 a,.int .i64 b],.int .i64 r]) h'):call 75 [.agg #[.int .i64 n,.int .i64 d],.agg #[.int .i64 m,.int .i64 e]] h Q:=by
 refine hA.bodyR Try.func75 r75_ok (hA.alike _ _ _ rfl) hlow (zc ?_);refine xF hA hlow hn hd hm he (fun r1 h1 k1 x1=>⟨_,rfl,?_⟩);refine zc ?_;refine br (r1≠0) (by rw[bL hA]) (fun c1=>?_) (fun c1=>?_)<;>refine zc ?_
 ·rcases k1 with ⟨q,_⟩|⟨rfl,q⟩
  ·exact absurd q c1
  ·exact hQ _ _ _ (.inl ⟨q,rfl,rfl,rfl⟩) _ x1
 rcases k1 with ⟨_,⟨p,hp⟩,q,hq⟩|⟨q,_⟩
 ·refine AZ hA (x1.lowOK hlow) hp hq (fun a b r ho h2 x2=>⟨_,_,_,rfl,?_⟩)
  refine zc ?_;exact hQ _ _ _ (.inr ⟨p,q,hp,hq,ho⟩) _ (x1.trans x2)
 ·omega
theorem gG{s:ByteArray}(ht:Hs s=true){w:Int}(h0:0<=w)(h1:w<256){C:Int->Prop}(hC:∀(t:Nat) (c:Int),c=t->w<2 ^ t->(2:Int) ^ t<=2*max w 1->t<=8->C c):strAt s w C:=by
 obtain⟨t,q1,q2,q3,q4,q5⟩:=JW ht h0 h1;exact GQ hA h0 (by omega) (fun c hc _ _=>hC t c (by rw[hc,q1]) q2 q3 q4)
theorem zj{h:af}(hlow:h.low<=h.next){x:Int}(hx:u64 x){Q:Value->af->Prop}(hQ:∀n:Int,Dd x n->Q (.int .i64 n) h):call 110 [.int .u64 x] h Q:=by
 obtain⟨x0,x1⟩:=hx;refine hA.bodyR Try.func110 r110_ok (hA.alike _ _ _ rfl) hlow (zc ?_);refine br (4294967296<=x) (by rw[bE hA]) (fun c32=>?_) (fun c32=>?_)<;>refine zc ?_
 ·refine⟨geZ_ok hA (by omega),?_⟩
  refine zc ?_;have hs32:arith .shr .u64 x 32=x / 4294967296:=th hA (by omega) 32 (by omega) (by rfl);rw[hs32];obtain⟨z,hz⟩:∃q,q=x / 4294967296:=⟨_,rfl⟩;rw[<-hz];refine zc ?_;refine br (65536<=z) (by rw[bE hA]) (fun c16=>?_) (fun c16=>?_)<;>refine zc ?_
  ·refine⟨geZ_ok hA (by omega),?_⟩
   refine zc ?_;have hs16:arith .shr .u64 z 16=z / 65536:=th hA (by omega) 16 (by omega) (by rfl);rw[hs16];obtain⟨y,hy⟩:∃q,q=z / 65536:=⟨_,rfl⟩;rw[<-hy];have en16:arith .add .i64 32 16=48:=aB hA (by omega) (by omega);refine zc ?_;rw[en16];refine zc ?_;refine br (256<=y) (by rw[bE hA]) (fun c8=>?_) (fun c8=>?_)<;>refine zc ?_
   ·refine⟨geZ_ok hA (by omega),?_⟩
    refine zc ?_;have hs8:arith .shr .u64 y 8=y / 256:=th hA (by omega) 8 (by omega) (by rfl);rw[hs8];obtain⟨w0,hw0⟩:∃q,q=y / 256:=⟨_,rfl⟩;rw[<-hw0];have en8:arith .add .i64 48 8=56:=aB hA (by omega) (by omega);refine zc ?_;rw[en8];refine zc ?_;obtain⟨w,hw⟩:∃q,q=w0:=⟨_,rfl⟩;rw[<-hw];refine zc ?_;have hw0:0<=w:=by omega
    have hw1:w<256:=by omega
    rw[rH hA hw0 hw1];refine gG hA (by kernel_rfl) hw0 hw1 (fun t c ht q1 q2 q3=>?_);refine zc ?_;have ec:conv .i64 c=c:=i6 hA (by omega) (by omega);have ea:arith .add .i64 56 c=56+c:=aB hA (by omega) (by omega);rw[ec,ea];refine hQ _ (iQ (k:=56) (K:=72057594037927936) (t:=t) x0 (w:=w) (by omega) (by rfl) (by omega) q1 q2 ht)
   ·obtain⟨w0,hw0⟩:∃q,q=y:=⟨_,rfl⟩
    rw[<-hw0];refine zc ?_;obtain⟨w,hw⟩:∃q,q=w0:=⟨_,rfl⟩;rw[<-hw];refine zc ?_;have hw0:0<=w:=by omega
    have hw1:w<256:=by omega
    rw[rH hA hw0 hw1];refine gG hA (by kernel_rfl) hw0 hw1 (fun t c ht q1 q2 q3=>?_);refine zc ?_;have ec:conv .i64 c=c:=i6 hA (by omega) (by omega);have ea:arith .add .i64 48 c=48+c:=aB hA (by omega) (by omega);rw[ec,ea];refine hQ _ (iQ (k:=48) (K:=281474976710656) (t:=t) x0 (w:=w) (by omega) (by rfl) (by omega) q1 q2 ht)
  ·obtain⟨y,hy⟩:∃q,q=z:=⟨_,rfl⟩
   rw[<-hy];refine zc ?_;refine br (256<=y) (by rw[bE hA]) (fun c8=>?_) (fun c8=>?_)<;>refine zc ?_
   ·refine⟨geZ_ok hA (by omega),?_⟩
    refine zc ?_;have hs8:arith .shr .u64 y 8=y / 256:=th hA (by omega) 8 (by omega) (by rfl);rw[hs8];obtain⟨w0,hw0⟩:∃q,q=y / 256:=⟨_,rfl⟩;rw[<-hw0];have en8:arith .add .i64 32 8=40:=aB hA (by omega) (by omega);refine zc ?_;rw[en8];refine zc ?_;obtain⟨w,hw⟩:∃q,q=w0:=⟨_,rfl⟩;rw[<-hw];refine zc ?_;have hw0:0<=w:=by omega
    have hw1:w<256:=by omega
    rw[rH hA hw0 hw1];refine gG hA (by kernel_rfl) hw0 hw1 (fun t c ht q1 q2 q3=>?_);refine zc ?_;have ec:conv .i64 c=c:=i6 hA (by omega) (by omega);have ea:arith .add .i64 40 c=40+c:=aB hA (by omega) (by omega);rw[ec,ea];refine hQ _ (iQ (k:=40) (K:=1099511627776) (t:=t) x0 (w:=w) (by omega) (by rfl) (by omega) q1 q2 ht)
   ·obtain⟨w0,hw0⟩:∃q,q=y:=⟨_,rfl⟩
    rw[<-hw0];refine zc ?_;obtain⟨w,hw⟩:∃q,q=w0:=⟨_,rfl⟩;rw[<-hw];refine zc ?_;have hw0:0<=w:=by omega
    have hw1:w<256:=by omega
    rw[rH hA hw0 hw1];refine gG hA (by kernel_rfl) hw0 hw1 (fun t c ht q1 q2 q3=>?_);refine zc ?_;have ec:conv .i64 c=c:=i6 hA (by omega) (by omega);have ea:arith .add .i64 32 c=32+c:=aB hA (by omega) (by omega);rw[ec,ea];refine hQ _ (iQ (k:=32) (K:=4294967296) (t:=t) x0 (w:=w) (by omega) (by rfl) (by omega) q1 q2 ht)
 ·obtain⟨z,hz⟩:∃q,q=x:=⟨_,rfl⟩
  rw[<-hz];refine zc ?_;refine br (65536<=z) (by rw[bE hA]) (fun c16=>?_) (fun c16=>?_)<;>refine zc ?_
  ·refine⟨geZ_ok hA (by omega),?_⟩
   refine zc ?_;have hs16:arith .shr .u64 z 16=z / 65536:=th hA (by omega) 16 (by omega) (by rfl);rw[hs16];obtain⟨y,hy⟩:∃q,q=z / 65536:=⟨_,rfl⟩;rw[<-hy];have en16:arith .add .i64 0 16=16:=aB hA (by omega) (by omega);refine zc ?_;rw[en16];refine zc ?_;refine br (256<=y) (by rw[bE hA]) (fun c8=>?_) (fun c8=>?_)<;>refine zc ?_
   ·refine⟨geZ_ok hA (by omega),?_⟩
    refine zc ?_;have hs8:arith .shr .u64 y 8=y / 256:=th hA (by omega) 8 (by omega) (by rfl);rw[hs8];obtain⟨w0,hw0⟩:∃q,q=y / 256:=⟨_,rfl⟩;rw[<-hw0];have en8:arith .add .i64 16 8=24:=aB hA (by omega) (by omega);refine zc ?_;rw[en8];refine zc ?_;obtain⟨w,hw⟩:∃q,q=w0:=⟨_,rfl⟩;rw[<-hw];refine zc ?_;have hw0:0<=w:=by omega
    have hw1:w<256:=by omega
    rw[rH hA hw0 hw1];refine gG hA (by kernel_rfl) hw0 hw1 (fun t c ht q1 q2 q3=>?_);refine zc ?_;have ec:conv .i64 c=c:=i6 hA (by omega) (by omega);have ea:arith .add .i64 24 c=24+c:=aB hA (by omega) (by omega);rw[ec,ea];refine hQ _ (iQ (k:=24) (K:=16777216) (t:=t) x0 (w:=w) (by omega) (by rfl) (by omega) q1 q2 ht)
   ·obtain⟨w0,hw0⟩:∃q,q=y:=⟨_,rfl⟩
    rw[<-hw0];refine zc ?_;obtain⟨w,hw⟩:∃q,q=w0:=⟨_,rfl⟩;rw[<-hw];refine zc ?_;have hw0:0<=w:=by omega
    have hw1:w<256:=by omega
    rw[rH hA hw0 hw1];refine gG hA (by kernel_rfl) hw0 hw1 (fun t c ht q1 q2 q3=>?_);refine zc ?_;have ec:conv .i64 c=c:=i6 hA (by omega) (by omega);have ea:arith .add .i64 16 c=16+c:=aB hA (by omega) (by omega);rw[ec,ea];refine hQ _ (iQ (k:=16) (K:=65536) (t:=t) x0 (w:=w) (by omega) (by rfl) (by omega) q1 q2 ht)
  ·obtain⟨y,hy⟩:∃q,q=z:=⟨_,rfl⟩
   rw[<-hy];refine zc ?_;refine br (256<=y) (by rw[bE hA]) (fun c8=>?_) (fun c8=>?_)<;>refine zc ?_
   ·refine⟨geZ_ok hA (by omega),?_⟩
    refine zc ?_;have hs8:arith .shr .u64 y 8=y / 256:=th hA (by omega) 8 (by omega) (by rfl);rw[hs8];obtain⟨w0,hw0⟩:∃q,q=y / 256:=⟨_,rfl⟩;rw[<-hw0];have en8:arith .add .i64 0 8=8:=aB hA (by omega) (by omega);refine zc ?_;rw[en8];refine zc ?_;obtain⟨w,hw⟩:∃q,q=w0:=⟨_,rfl⟩;rw[<-hw];refine zc ?_;have hw0:0<=w:=by omega
    have hw1:w<256:=by omega
    rw[rH hA hw0 hw1];refine gG hA (by kernel_rfl) hw0 hw1 (fun t c ht q1 q2 q3=>?_);refine zc ?_;have ec:conv .i64 c=c:=i6 hA (by omega) (by omega);have ea:arith .add .i64 8 c=8+c:=aB hA (by omega) (by omega);rw[ec,ea];refine hQ _ (iQ (k:=8) (K:=256) (t:=t) x0 (w:=w) (by omega) (by rfl) (by omega) q1 q2 ht)
   ·obtain⟨w0,hw0⟩:∃q,q=y:=⟨_,rfl⟩
    rw[<-hw0];refine zc ?_;obtain⟨w,hw⟩:∃q,q=w0:=⟨_,rfl⟩;rw[<-hw];refine zc ?_;have hw0:0<=w:=by omega
    have hw1:w<256:=by omega
    rw[rH hA hw0 hw1];refine gG hA (by kernel_rfl) hw0 hw1 (fun t c ht q1 q2 q3=>?_);refine zc ?_;have ec:conv .i64 c=c:=i6 hA (by omega) (by omega);have ea:arith .add .i64 0 c=0+c:=aB hA (by omega) (by omega);rw[ec,ea];refine hQ _ (iQ (k:=0) (K:=1) (t:=t) x0 (w:=w) (by omega) (by rfl) (by omega) q1 q2 ht)
theorem IL{h:af}(hlow:h.low<=h.next){x:Int}(hx:u64 x)(hx1:1<=x){Q:Value->af->Prop}(hQ:∀s:Nat,s<=63->9223372036854775808<=x*2 ^ s->x*2 ^ s<18446744073709551616->Q (.int .i64 s) h):call 125 [.int .u64 x] h Q:=by
 refine hA.bodyR Try.func125 r125_ok (hA.alike _ _ _ rfl) hlow (zc ?_);refine zj hA hlow hx (fun n hn=>⟨_,rfl,?_⟩);refine zc ?_;obtain⟨s,s1,s2,s3,s4⟩:=KG hx1 hx.2 hn;rw[bD hA (by omega) (by omega),s1];exact hQ s s2 s3 s4
theorem Ep{h:af}{y y1 y0 u d d0 s N:Int}(hy:y=y1*4294967296+y0)(b1:2147483648<=y1)(b2:y1<4294967296)(b3:0<=y0)(b4:y0<4294967296)(hyp:0<y)(hN:N=u*4294967296+d)(d1:0<=d)(d2:d<4294967296)(N0:0<=N)(Ns:N / y<4294967296){Q:Exit->SS->Prop}
  (hQ:Q (.exit 0) ⟨[(2,.int .u64 y),(8,.int .u64 s),(9,.int .u64 y1),(10,.int .u64 y0),(11,.int .u64 u),(13,.int .u64 d),(14,.int .u64 d0),(15,.int .u64 (N / y))],0,[],h⟩) :
  ∀(k:Nat) (q r:Int),q.toNat<=k->N / y<=q->q<=4294967297->0<=r->r<4294967296->r=u-q*y1->head 117 17 0 ⟨[(2,.int .u64 y),(8,.int .u64 s),(9,.int .u64 y1),(10,.int .u64 y0),(11,.int .u64 u),(13,.int .u64 d),(14,.int .u64 d0),(15,.int .u64 q),(16,.int .u64 r)],0,[],h⟩ Q:=by
 have Q0:0<=N / y:=Int.ediv_nonneg N0 (by omega);intro k
 induction k with
 |zero=>
  intro q r hk l1 l2 l3 l4 hr;have hq0:q=0:=by omega
  subst hq0;refine hA.roundR Try.func117 r117_ok (zc ?_);refine br (4294967296<=(0:Int)) (by rw[bE hA]) (fun c=>absurd c (by omega)) (fun c=>?_)<;>refine zc ?_;have e1:arith .mul .u64 0 y0=0:=by rw[kZ hA (by omega) (by omega)];omega
  have e2:arith .mul .u64 4294967296 r=4294967296*r:=kZ hA (by omega) (by omega);have e3:arith .add .u64 (4294967296*r) d=4294967296*r+d:=ku hA (by omega) (by omega);rw[e1,e2,e3];refine br (4294967296*r+d<0) (by rw[dc hA]) (fun c2=>absurd c2 (by omega)) (fun c2=>?_)<;>refine zc ?_;have:N / y=0:=by omega
  rw[this]at hQ;exact hQ
 |succ k ih=>
  intro q r hk l1 l2 l3 l4 hr;refine hA.roundR Try.func117 r117_ok (zc ?_);refine br (4294967296<=q) (by rw[bE hA]) (fun c=>?_) (fun c=>?_)<;>refine zc ?_
  ·have hlt:N / y<q:=by omega
   have e15:arith .sub .u64 q 1=q-1:=sh hA (by omega) (by omega);have e16:arith .add .u64 r y1=r+y1:=ku hA (by omega) (by omega);rw[e15,e16];obtain⟨q',hq'⟩:∃z,z=q-1:=⟨_,rfl⟩;obtain⟨r',hr'⟩:∃z,z=r+y1:=⟨_,rfl⟩;rw[<-hq',<-hr'];refine zc ?_;have hrr:r'=u-q'*y1:=by rw[hr',hr,hq',Int.sub_mul];omega
   refine br (4294967296<=r') (by rw[bE hA]) (fun c5=>?_) (fun c5=>?_)<;>refine zc ?_
   ·have h1:¬(q'*y0>4294967296*r'+d):=by
     have:=iX 4294967296 4294967295 (a:=q') (b:=y0) (by omega) (by omega) (by omega) (by omega);omega
    rw[iP hy hrr hN,nh hyp]at h1;have:q'=N / y:=by omega
    rw[this];exact hQ
   ·exact ih q' r' (by omega) (by omega) (by omega) (by omega) (by omega) hrr
  ·have m1:=iX 4294967296 4294967295 (a:=q) (b:=y0) (by omega) (by omega) (by omega) (by omega)
   have e1:arith .mul .u64 q y0=q*y0:=kZ hA m1.1 (by omega);have e2:arith .mul .u64 4294967296 r=4294967296*r:=kZ hA (by omega) (by omega);have e3:arith .add .u64 (4294967296*r) d=4294967296*r+d:=ku hA (by omega) (by omega);rw[e1,e2,e3];refine br (4294967296*r+d<q*y0) (by rw[dc hA]) (fun c2=>?_) (fun c2=>?_)<;>refine zc ?_
   ·have hlt:N / y<q:=by
     rw[<-nh hyp,<-iP hy hr hN];exact c2
    have e15:arith .sub .u64 q 1=q-1:=sh hA (by omega) (by omega);have e16:arith .add .u64 r y1=r+y1:=ku hA (by omega) (by omega);rw[e15,e16];obtain⟨q',hq'⟩:∃z,z=q-1:=⟨_,rfl⟩;obtain⟨r',hr'⟩:∃z,z=r+y1:=⟨_,rfl⟩;rw[<-hq',<-hr'];refine zc ?_;have hrr:r'=u-q'*y1:=by rw[hr',hr,hq',Int.sub_mul];omega
    refine br (4294967296<=r') (by rw[bE hA]) (fun c5=>?_) (fun c5=>?_)<;>refine zc ?_
    ·have h1:¬(q'*y0>4294967296*r'+d):=by
      have:=iX 4294967296 4294967295 (a:=q') (b:=y0) (by omega) (by omega) (by omega) (by omega);omega
     rw[iP hy hrr hN,nh hyp]at h1;have:q'=N / y:=by omega
     rw[this];exact hQ
    ·exact ih q' r' (by omega) (by omega) (by omega) (by omega) (by omega) hrr
   ·have hge:¬N / y<q:=by
     rw[<-nh hyp,<-iP hy hr hN];exact c2
    have:q=N / y:=by omega
    rw[this];exact hQ
theorem DQ{h:af}{y y1 y0 u d q1 s N:Int}(hy:y=y1*4294967296+y0)(b1:2147483648<=y1)(b2:y1<4294967296)(b3:0<=y0)(b4:y0<4294967296)(hyp:0<y)(hN:N=u*4294967296+d)(d1:0<=d)(d2:d<4294967296)(N0:0<=N)(Ns:N / y<4294967296){Q:Exit->SS->Prop}
  (hQ:Q (.exit 2) ⟨[(2,.int .u64 y),(8,.int .u64 s),(14,.int .u64 d),(15,.int .u64 q1),(17,.int .u64 u),(18,.int .u64 (N / y))],0,[],h⟩) :
  ∀(k:Nat) (q r:Int),q.toNat<=k->N / y<=q->q<=4294967297->0<=r->r<4294967296->r=u-q*y1->head 117 24 0 ⟨[(2,.int .u64 y),(8,.int .u64 s),(9,.int .u64 y1),(10,.int .u64 y0),(14,.int .u64 d),(15,.int .u64 q1),(16,.int .u64 r),(17,.int .u64 u),(18,.int .u64 q)],0,[],h⟩ Q:=by
 have Q0:0<=N / y:=Int.ediv_nonneg N0 (by omega);intro k
 induction k with
 |zero=>
  intro q r hk l1 l2 l3 l4 hr;have hq0:q=0:=by omega
  subst hq0;refine hA.roundR Try.func117 r117_ok (zc ?_);refine br (4294967296<=(0:Int)) (by rw[bE hA]) (fun c=>absurd c (by omega)) (fun c=>?_)<;>refine zc ?_;have e1:arith .mul .u64 0 y0=0:=by rw[kZ hA (by omega) (by omega)];omega
  have e2:arith .mul .u64 4294967296 r=4294967296*r:=kZ hA (by omega) (by omega);have e3:arith .add .u64 (4294967296*r) d=4294967296*r+d:=ku hA (by omega) (by omega);rw[e1,e2,e3];refine br (4294967296*r+d<0) (by rw[dc hA]) (fun c2=>absurd c2 (by omega)) (fun c2=>?_)<;>refine zc ?_;have:N / y=0:=by omega
  rw[this]at hQ;exact hQ
 |succ k ih=>
  intro q r hk l1 l2 l3 l4 hr;refine hA.roundR Try.func117 r117_ok (zc ?_);refine br (4294967296<=q) (by rw[bE hA]) (fun c=>?_) (fun c=>?_)<;>refine zc ?_
  ·have hlt:N / y<q:=by omega
   have e15:arith .sub .u64 q 1=q-1:=sh hA (by omega) (by omega);have e16:arith .add .u64 r y1=r+y1:=ku hA (by omega) (by omega);rw[e15,e16];obtain⟨q',hq'⟩:∃z,z=q-1:=⟨_,rfl⟩;obtain⟨r',hr'⟩:∃z,z=r+y1:=⟨_,rfl⟩;rw[<-hq',<-hr'];refine zc ?_;have hrr:r'=u-q'*y1:=by rw[hr',hr,hq',Int.sub_mul];omega
   refine br (4294967296<=r') (by rw[bE hA]) (fun c5=>?_) (fun c5=>?_)<;>refine zc ?_
   ·have h1:¬(q'*y0>4294967296*r'+d):=by
     have:=iX 4294967296 4294967295 (a:=q') (b:=y0) (by omega) (by omega) (by omega) (by omega);omega
    rw[iP hy hrr hN,nh hyp]at h1;have:q'=N / y:=by omega
    rw[this];exact hQ
   ·exact ih q' r' (by omega) (by omega) (by omega) (by omega) (by omega) hrr
  ·have m1:=iX 4294967296 4294967295 (a:=q) (b:=y0) (by omega) (by omega) (by omega) (by omega)
   have e1:arith .mul .u64 q y0=q*y0:=kZ hA m1.1 (by omega);have e2:arith .mul .u64 4294967296 r=4294967296*r:=kZ hA (by omega) (by omega);have e3:arith .add .u64 (4294967296*r) d=4294967296*r+d:=ku hA (by omega) (by omega);rw[e1,e2,e3];refine br (4294967296*r+d<q*y0) (by rw[dc hA]) (fun c2=>?_) (fun c2=>?_)<;>refine zc ?_
   ·have hlt:N / y<q:=by
     rw[<-nh hyp,<-iP hy hr hN];exact c2
    have e15:arith .sub .u64 q 1=q-1:=sh hA (by omega) (by omega);have e16:arith .add .u64 r y1=r+y1:=ku hA (by omega) (by omega);rw[e15,e16];obtain⟨q',hq'⟩:∃z,z=q-1:=⟨_,rfl⟩;obtain⟨r',hr'⟩:∃z,z=r+y1:=⟨_,rfl⟩;rw[<-hq',<-hr'];refine zc ?_;have hrr:r'=u-q'*y1:=by rw[hr',hr,hq',Int.sub_mul];omega
    refine br (4294967296<=r') (by rw[bE hA]) (fun c5=>?_) (fun c5=>?_)<;>refine zc ?_
    ·have h1:¬(q'*y0>4294967296*r'+d):=by
      have:=iX 4294967296 4294967295 (a:=q') (b:=y0) (by omega) (by omega) (by omega) (by omega);omega
     rw[iP hy hrr hN,nh hyp]at h1;have:q'=N / y:=by omega
     rw[this];exact hQ
    ·exact ih q' r' (by omega) (by omega) (by omega) (by omega) (by omega) hrr
   ·have hge:¬N / y<q:=by
     rw[<-nh hyp,<-iP hy hr hN];exact c2
    have:q=N / y:=by omega
    rw[this];exact hQ
theorem py{h:af}(hlow:h.low<=h.next){hi lo y:Int}(hhi:0<=hi)(hlo:u64 lo)(hy:u64 y)(hlt:hi<y){Q:Value->af->Prop}
  (hQ:∀q r:Int,q=(hi*18446744073709551616+lo) / y->r=(hi*18446744073709551616+lo) % y->∀h',Ext h h'->Q (.tuple #[.int .u64 q,.int .u64 r]) h'):call 117 [.int .u64 hi,.int .u64 lo,.int .u64 y] h Q:=by
 obtain⟨l0,l1⟩:=hlo;obtain⟨y0,y1⟩:=hy;refine hA.bodyR Try.func117 r117_ok (hA.alike _ _ _ rfl) hlow (zc ?_);refine br (y=0) (by rw[cJ hA]) (fun c=>absurd c (by omega)) (fun c1=>?_)<;>refine zc ?_;refine br (y<=hi) (by rw[iw hA]) (fun c=>absurd c (by omega)) (fun c2=>?_)<;>refine zc ?_;refine br (hi=0) (by rw[cJ hA]) (fun c3=>?_) (fun c3=>?_)<;>refine zc ?_
 ·obtain⟨h9,hh9⟩:∃z,z=bump h 8:=⟨_,rfl⟩
  have e9:Ext h h9:=by rw[hh9];exact aq hA _ _
  rw[<-hh9];refine⟨cY hA (by omega),?_⟩;refine zc ?_;refine⟨cY hA (by omega),?_⟩;refine zc ?_;exact hQ _ _ (by rw[c3,gX hA l0 l1 (by omega)];simp) (by rw[c3,IU hA l0];simp) h9 e9
 refine IL hA hlow ⟨y0,y1⟩ (by omega) (fun s s1 s2 s3=>⟨_,rfl,?_⟩);refine zc ?_;have ec:conv .u64 (Int.ofNat s)=(s:Int):=by
  show conv .u64 (s:Int)=_;exact ke hA (by omega) (by omega)
 rw[ec];obtain⟨σ,hσ⟩:∃z:Int,z=s:=⟨_,rfl⟩;rw[<-hσ];refine⟨geZ_ok hA (by omega),?_⟩;refine zc ?_;have hP:(0:Int)<2 ^ s:=Int.pow_pos (by omega);obtain⟨Y,hY⟩:∃z,z=y*2 ^ s:=⟨_,rfl⟩;rw[<-hY]at s2 s3;have Y0':0<=Y:=Int.le_trans (by decide) s2;have eY:arith .shl .u64 y σ=Y:=by rw[A7 hA y s (by omega) hσ,<-hY];exact Int.emod_eq_of_lt Y0' s3
 rw[eY];refine⟨geZ_ok hA (by omega),?_⟩;refine zc ?_;obtain⟨Y1,hY1⟩:∃z,z=Y / 4294967296:=⟨_,rfl⟩;obtain⟨Y0,hY0⟩:∃z,z=Y % 4294967296:=⟨_,rfl⟩;rw[mS hA (a:=Y) (by omega),lF hA (a:=Y) (by omega) (by omega),<-hY1,<-hY0];refine⟨geZ_ok hA (by omega),?_⟩;refine zc ?_;have eS:arith .sub .u64 64 σ=64-σ:=sh hA (by omega) (by omega);rw[eS];obtain⟨τ,hτ⟩:∃z:Int,z=64-σ:=⟨_,rfl⟩;rw[<-hτ];refine⟨geZ_ok hA (by omega),?_⟩;refine zc ?_;obtain⟨sh1,sh2⟩:=H7 l0 (s:=s) (by omega);have hlP:0<=lo / 2 ^ (64-s):=Int.ediv_nonneg l0 (Int.le_of_lt (Int.pow_pos (by omega)));have hlP2:lo / 2 ^ (64-s)<2 ^ s:=by
  rw[<-sh2,Int.ediv_lt_iff_lt_mul (by omega),Int.mul_comm];exact Int.mul_lt_mul_of_pos_left l1 hP
 have hiP:0<=hi*2 ^ s:=Int.mul_nonneg hhi (Int.le_of_lt hP);have hiY:hi*2 ^ s+2 ^ s<=Y:=by
  have h1:(hi+1)*2 ^ s<=y*2 ^ s:=Int.mul_le_mul_of_nonneg_right (by omega) (Int.le_of_lt hP);rw[Int.add_mul,Int.one_mul]at h1;omega
 obtain⟨U,hU⟩:∃z,z=hi*2 ^ s+lo / 2 ^ (64-s):=⟨_,rfl⟩;have eH:arith .shl .u64 hi σ=hi*2 ^ s:=by rw[A7 hA hi s (by omega) hσ,Int.emod_eq_of_lt hiP (by omega)]
 have eL:arith .shr .u64 lo τ=lo / 2 ^ (64-s):=th hA l0 (64-s) (by omega) (by omega);have eU:arith .or .u64 (hi*2 ^ s) (lo / 2 ^ (64-s))=U:=by rw[K7 hA s hhi hlP hlP2 (by omega),hU]
 rw[eH,eL,eU];refine⟨geZ_ok hA (by omega),?_⟩;refine zc ?_;obtain⟨L,hL⟩:∃z,z=lo*2 ^ s % 18446744073709551616:=⟨_,rfl⟩;have L0:0<=L:=by rw[hL];exact Int.emod_nonneg _ (by omega)
 have L1:L<18446744073709551616:=by rw[hL];exact Int.emod_lt_of_pos _ (by omega)
 rw[A7 hA lo s (by omega) hσ,<-hL];refine⟨geZ_ok hA (by omega),?_⟩;refine zc ?_;obtain⟨d1,hd1⟩:∃z,z=L / 4294967296:=⟨_,rfl⟩;obtain⟨d0,hd0⟩:∃z,z=L % 4294967296:=⟨_,rfl⟩;rw[mS hA (a:=L) L0,lF hA (a:=L) L0 L1,<-hd1,<-hd0];have U0:0<=U:=by omega
 have UY:U<Y:=by omega
 have Yp:0<Y:=by omega
 have hYs:Y=Y1*4294967296+Y0:=by omega
 refine⟨cY hA (by omega),?_⟩;refine zc ?_;obtain⟨q,hq⟩:∃z,z=U / Y1:=⟨_,rfl⟩;have q0:0<=q:=by rw[hq];exact Int.ediv_nonneg U0 (by omega)
 have eq:arith .quo .u64 U Y1=q:=by rw[gX hA U0 (by omega) (by omega),hq]
 rw[eq];have qm:q*Y1+U % Y1=U:=by rw[hq,Int.mul_comm];exact Int.mul_ediv_add_emod U Y1
 have qm0:0<=U % Y1:=Int.emod_nonneg _ (by omega);have qm1:U % Y1<Y1:=Int.emod_lt_of_pos _ (by omega);have em:arith .mul .u64 q Y1=q*Y1:=kZ hA (Int.mul_nonneg q0 (by omega)) (by omega);have es:arith .sub .u64 U (q*Y1)=U-q*Y1:=sh hA (by omega) (by omega);rw[em,es];obtain⟨N1,hN1⟩:∃z,z=U*4294967296+d1:=⟨_,rfl⟩;have n1:=wz hYs (by omega) (by omega) U0 (by omega) (by omega) hN1;have n2:=qp hYs (by omega) (by omega) UY U0;have n3:=vV Yp UY (by omega) hN1;rw[<-hq]at n1 n2;obtain⟨q1,hq1⟩:∃z,z=N1 / Y:=⟨_,rfl⟩;have N10:0<=N1:=by omega
 have q10:0<=q1:=by rw[hq1];exact Int.ediv_nonneg N10 (by omega)
 obtain⟨r0,hr0⟩:∃z,z=U-q*Y1:=⟨_,rfl⟩;rw[<-hr0];refine Ep hA hYs (by omega) (by omega) (by omega) (by omega) Yp hN1 (by omega) (by omega) N10 n3 ?_ q.toNat q r0 (Nat.le_refl _) n1 n2 (by omega) (by omega) hr0;rw[<-hq1];refine zc ?_;have mY:=Int.mul_ediv_add_emod N1 Y;rw[<-hq1]at mY;have rY0:0<=N1 % Y:=Int.emod_nonneg _ (by omega);have rY1:N1 % Y<Y:=Int.emod_lt_of_pos _ Yp;obtain⟨V,hV⟩:∃z,z=N1 % Y:=⟨_,rfl⟩;rw[<-hV]at mY rY0 rY1;have ev:arith .sub .u64 (arith .add .u64 (arith .mul .u64 U 4294967296) d1) (arith .mul .u64 q1 Y)=V:=by
  rw[Ju hA,Jj hA,zd hA,zd hA];exact Ae hN1 mY rY0 (Int.lt_trans rY1 s3)
 rw[ev];refine⟨cY hA (by omega),?_⟩;refine zc ?_;obtain⟨p,hp⟩:∃z,z=V / Y1:=⟨_,rfl⟩;have p0:0<=p:=by rw[hp];exact Int.ediv_nonneg rY0 (by omega)
 have ep:arith .quo .u64 V Y1=p:=by rw[gX hA rY0 (by omega) (by omega),hp]
 rw[ep];have pm:p*Y1+V % Y1=V:=by rw[hp,Int.mul_comm];exact Int.mul_ediv_add_emod V Y1
 have pm0:0<=V % Y1:=Int.emod_nonneg _ (by omega);have pm1:V % Y1<Y1:=Int.emod_lt_of_pos _ (by omega);have em2:arith .mul .u64 p Y1=p*Y1:=kZ hA (Int.mul_nonneg p0 (by omega)) (by omega);have es2:arith .sub .u64 V (p*Y1)=V-p*Y1:=sh hA (by omega) (by omega);rw[em2,es2];obtain⟨N2,hN2⟩:∃z,z=V*4294967296+d0:=⟨_,rfl⟩;have k1:=wz hYs (by omega) (by omega) rY0 (by omega) (by omega) hN2;have k2:=qp hYs (by omega) (by omega) rY1 rY0;have k3:=vV Yp rY1 (by omega) hN2;rw[<-hp]at k1 k2;obtain⟨p1,hp1⟩:∃z,z=N2 / Y:=⟨_,rfl⟩;have N20:0<=N2:=by omega
 have p10:0<=p1:=by rw[hp1];exact Int.ediv_nonneg N20 (by omega)
 obtain⟨r1,hr1⟩:∃z,z=V-p*Y1:=⟨_,rfl⟩;rw[<-hr1];refine DQ hA hYs (by omega) (by omega) (by omega) (by omega) Yp hN2 (by omega) (by omega) N20 k3 ?_ p.toNat p r1 (Nat.le_refl _) k1 k2 (by omega) (by omega) hr1;rw[<-hp1];refine zc ?_;refine⟨geZ_ok hA (by omega),?_⟩;refine zc ?_;have mZ:=Int.mul_ediv_add_emod N2 Y;rw[<-hp1]at mZ;have zR0:0<=N2 % Y:=Int.emod_nonneg _ (by omega);have zR1:N2 % Y<Y:=Int.emod_lt_of_pos _ Yp;have er:arith .sub .u64 (arith .add .u64 (arith .mul .u64 V 4294967296) d0) (arith .mul .u64 p1 Y)=N2 % Y:=by
  rw[Ju hA,Jj hA,zd hA,zd hA];exact Ae hN2 mZ zR0 (Int.lt_trans zR1 s3)
 have em3:arith .mul .u64 q1 4294967296=q1*4294967296:=kZ hA (by omega) (by omega);have ea3:arith .add .u64 (q1*4294967296) p1=q1*4294967296+p1:=ku hA (by omega) (by omega);obtain⟨t1,t2,t3⟩:=By (u1:=0) (N1:=N1) (y:=Y) (q1:=q1) (q0:=p1) (u0:=d0) (N:=N1*4294967296+d0) Yp hq1 (by rw[hp1,hN2,hV]) rfl;have hX:(hi*18446744073709551616+lo)*2 ^ s=N1*4294967296+d0:=by
  rw[Int.add_mul,sh1,<-hL,hN1];have:hi*18446744073709551616*2 ^ s=hi*2 ^ s*18446744073709551616:=by grind
  rw[this];omega
 rw[t1,hY]at hX;rw[hY]at t3;obtain⟨f1,f2⟩:=G5 hP (by omega) hX (by rw[hY]at t2;exact t2) t3;refine hQ _ _ ?_ ?_ h (.refl h)
 ·rw[em3,ea3];exact f1
 ·rw[er,th hA zR0 s (by omega) hσ,<-f2,hN2,hV,hY]
theorem u5{h:af}(hlow:h.low<=h.next){hi lo y:Int}(hhi:u64 hi)(hlo:u64 lo)(hy:u64 y)(hy0:0<y){Q:Value->af->Prop}
  (hQ:∀r:Int,r=(hi*18446744073709551616+lo) % y->∀h',Ext h h'->Q (.int .u64 r) h'):call 116 [.int .u64 hi,.int .u64 lo,.int .u64 y] h Q:=by
 refine hA.bodyR Try.func116 r116_ok (hA.alike _ _ _ rfl) hlow (zc ?_);refine⟨cY hA (by omega),?_⟩;refine zc ?_;rw[IU hA hhi.1];have m0:0<=hi % y:=Int.emod_nonneg _ (by omega);have m1:hi % y<y:=Int.emod_lt_of_pos _ hy0;obtain⟨k,hk⟩:∃z,z=hi % y:=⟨_,rfl⟩;rw[<-hk]at m0 m1 ⊢;refine py hA hlow m0 hlo hy m1 (fun q r hq hr h1 x1=>⟨_,_,rfl,?_⟩);refine zc ?_;refine hQ r ?_ h1 x1;rw[hr,hk,Int.add_emod,Int.mul_emod,Int.emod_emod_of_dvd _ (Int.dvd_refl y),<-Int.mul_emod,<-Int.add_emod]
theorem pV{h:af}{x y c:Int}(hx:0<=x)(hy:0<=y)(hc:0<=c/\c<=1){Q:Value->af->Prop}(hQ:∀s k:Int,s=(x+y+c) % 18446744073709551616->k=(x+y+c) / 18446744073709551616->Q (.tuple #[.int .u64 s,.int .u64 k]) h):call 113 [.int .u64 x,.int .u64 y,.int .u64 c] h Q:=
 hA.prim ((hA.alike _ _ _ rfl).trans (F8 hx hy hc h)) (hQ _ _ rfl rfl)
theorem kM{h:af}{x y c:Int}(hx:u64 x)(hy:u64 y)(hc:0<=c/\c<=1){Q:Value->af->Prop}(hQ:∀s k:Int,s=(x-y-c) % 18446744073709551616->k=(if x<y+c then 1 else 0)->Q (.tuple #[.int .u64 s,.int .u64 k]) h):call 115 [.int .u64 x,.int .u64 y,.int .u64 c] h Q:=
 hA.prim ((hA.alike _ _ _ rfl).trans (Gx hx hy hc h)) (hQ _ _ rfl rfl)
theorem J3(a:Int):cmp .lss a 0=true↔a<0:=by rw[au hA];simp
set_option maxHeartbeats 1000000 in
theorem FW{h:af}(hlow:h.low<=h.next){n d m e:Int}{p q:Rat}(hp:gS n d p)(hq:gS m e q){Q:Value->af->Prop}
  (hQ:∀a b r,mE (p+q) a b r->∀h',Ext h h'->Q (.tuple #[.agg #[.int .i64 a,.int .i64 b],.int .i64 r]) h'):call 91 [.agg #[.int .i64 n,.int .i64 d],.agg #[.int .i64 m,.int .i64 e]] h Q:=by
 have pd:=hp.den;have qd:=hq.den;have in64:=hp.i64n;have id64:=hp.i64d;have im64:=hq.i64n;have ie64:=hq.i64d;have pn:(n.natAbs:Int)<=1000000000000000000:=by obtain⟨rfl,_,h1,h2,_⟩:=hp;omega
 have qn:(m.natAbs:Int)<=1000000000000000000:=by obtain⟨rfl,_,h1,h2,_⟩:=hq;omega
 have pdl:d<=1000000000000000000:=by obtain⟨_,rfl,_,_,h3⟩:=hp;omega
 have qdl:e<=1000000000000000000:=by obtain⟨_,rfl,_,_,h3⟩:=hq;omega
 have ud:u64 d:=by unfold u64;omega
 have ue:u64 e:=by unfold u64;omega
 refine hA.bodyR Try.func91 r91_ok (hA.alike _ _ _ rfl) hlow (zc ?_);obtain⟨h9,hh9⟩:∃z,z=bump h 8:=⟨_,rfl⟩;have e9:Ext h h9:=by rw[hh9];exact aq hA _ _
 have l9:=e9.lowOK hlow;rw[<-hh9];refine zc ?_;refine gv hA (aw hA h9) id64 (fun s1 hs1=>⟨_,rfl,?_⟩);rw[show s1=d by omega];refine zc ?_;rw[bJ hA l9];refine gv hA (aw hA h9) ie64 (fun s2 hs2=>⟨_,rfl,?_⟩);rw[show s2=e by omega];refine zc ?_;rw[bJ hA l9];refine nB hA l9 ud ue (fun dd hdd h10 x10=>⟨_,rfl,?_⟩);have e10:=e9.trans x10;have l10:=e10.lowOK hlow;have dle:dd<=d:=by
  rw[hdd,qq ud.1 ue.1];have:=Nat.gcd_le_left e.toNat (m:=d.toNat) (by omega);omega
 have dp:0<dd:=by
  rw[hdd,qq ud.1 ue.1];have:=Nat.gcd_pos_of_pos_left e.toNat (m:=d.toNat) (by omega);omega
 have udd:u64 dd:=by unfold u64;omega
 refine zc ?_;obtain⟨h11,hh11⟩:∃z,z=bump h10 12:=⟨_,rfl⟩;have e11:Ext h h11:=by rw[hh11];exact e10.trans (aq hA _ _)
 have l11:=e11.lowOK hlow;rw[<-hh11];refine⟨cY hA (by omega),?_⟩;refine zc ?_;rw[gX hA ue.1 ue.2 dp];have v1:=cG ue dp;have v1l:e / dd<=e:=Int.ediv_le_self dd ue.1;have v2:=cG ud dp;have v2l:d / dd<=d:=Int.ediv_le_self dd ud.1;obtain⟨k1,hk1⟩:∃z,z=e / dd:=⟨_,rfl⟩;obtain⟨k2,hk2⟩:∃z,z=d / dd:=⟨_,rfl⟩;rw[<-hk1]at v1 v1l ⊢;rw[<-hk2]at v2 v2l;refine zc ?_;refine gv hA (aw hA h11) in64 (fun s3 hs3=>⟨_,rfl,?_⟩);refine zc ?_;rw[bJ hA l11];have u3:u64 s3:=by unfold u64;omega
 refine jN hA (aw hA h11) u3 v1 (fun ah al f1 f2=>⟨_,_,rfl,?_⟩);refine zc ?_;rw[bJ hA l11];obtain⟨A,hAe⟩:∃z,z=(n.natAbs:Int)*(e / dd):=⟨_,rfl⟩;obtain⟨B,hBe⟩:∃z,z=(m.natAbs:Int)*(d / dd):=⟨_,rfl⟩;have hAe2:A=s3*k1:=by rw[hAe,hs3,hk1]
 rw[<-hAe2]at f1 f2;have A0:=iX 1000000000000000000 1000000000000000000 (a:=(n.natAbs:Int)) (b:=k1) (by omega) pn v1.1 (by omega);rw[hk1,<-hAe]at A0;obtain⟨h12,hh12⟩:∃z,z=bump h11 12:=⟨_,rfl⟩;have e12:Ext h h12:=by rw[hh12];exact e11.trans (aq hA _ _)
 have l12:=e12.lowOK hlow;rw[<-hh12];refine⟨cY hA (by omega),?_⟩;refine zc ?_;rw[gX hA ud.1 ud.2 dp,<-hk2];refine zc ?_;refine gv hA (aw hA h12) im64 (fun s4 hs4=>⟨_,rfl,?_⟩);refine zc ?_;rw[bJ hA l12];have u4:u64 s4:=by unfold u64;omega
 refine jN hA (aw hA h12) u4 v2 (fun bh bl f3 f4=>⟨_,_,rfl,?_⟩);refine zc ?_;rw[bJ hA l12];have hBe2:B=s4*k2:=by rw[hBe,hs4,hk2]
 rw[<-hBe2]at f3 f4;have B0:=iX 1000000000000000000 1000000000000000000 (a:=(m.natAbs:Int)) (b:=k2) (by omega) qn v2.1 (by omega);rw[hk2,<-hBe]at B0;have e13:=e12;have l13:=l12;have lo0:u64 al/\u64 bl/\u64 ah/\u64 bh:=by unfold u64;omega
 obtain⟨ual,ubl,uah,ubh⟩:=lo0;have hA2:ah*18446744073709551616+al=A:=by omega
 have hB2:bh*18446744073709551616+bl=B:=by omega
 refine br ((n<0)↔(m<0)) (by rw[wY hA,au hA,au hA];by_cases z1:n<0<;>by_cases z2:m<0<;>simp[z1,z2]) (fun cs=>?_) (fun cs=>?_)<;>refine zc ?_
 ·refine pV hA ual.1 ubl.1 (by omega) (fun lo cy g1 g2=>⟨_,_,rfl,?_⟩)
  refine zc ?_;refine pV hA uah.1 ubh.1 (by unfold u64 at *;omega) (fun hi cz g3 g4=>⟨_,_,rfl,?_⟩);refine zc ?_;obtain⟨T,hTe⟩:∃z,z=A+B:=⟨_,rfl⟩;have hhl:hi*18446744073709551616+lo=T:=by unfold u64 at *;omega
  have hTT:((n<0↔m<0)/\T=A+B/\(cmp .lss n 0=true↔n<0))\/(¬(n<0↔m<0)/\B<=A/\T=A-B/\(cmp .lss n 0=true↔n<0))\/(¬(n<0↔m<0)/\A<B/\T=B-A/\(cmp .lss n 0=true↔m<0)):=.inl ⟨cs,hTe,J3 hA n⟩;have hib:0<=hi/\hi<18446744073709551616/\0<=lo/\lo<18446744073709551616:=by unfold u64 at *;omega
  have uhi:u64 hi:=by unfold u64;omega
  have ulo:u64 lo:=by unfold u64;omega
  refine u5 hA l13 uhi ulo udd dp (fun r hr h14 x14=>⟨_,rfl,?_⟩);have e14:=e13.trans x14;have l14:=e14.lowOK hlow;rw[hhl]at hr;refine zc ?_;have ur:u64 r:=by
   have:=Int.emod_nonneg T (b:=dd) (by omega);have:=Int.emod_lt_of_pos T dp;have:=udd.2;unfold u64;omega
  refine nB hA l14 udd ur (fun g hg h15 x15=>⟨_,rfl,?_⟩);have e15:=e14.trans x15;have l15:=e15.lowOK hlow;obtain⟨a1,a2,a3,a4,a5,a6,a7⟩:=kL hp hq (d:=dd) hdd hAe hBe (T:=T) (neg:=cmp .lss n 0) hTT (g:=g) (by rw[hg,hr]);refine zc ?_;have hq1:T / g=0+T / g:=by omega
  obtain⟨N,hN⟩:∃z,z=T / g:=⟨_,rfl⟩;obtain⟨D,hD⟩:∃z,z=d / dd*(e / g):=⟨_,rfl⟩;have N0:0<=N:=by rw[hN];exact Int.ediv_nonneg a5 (by omega)
  have D0:0<=D:=by rw[hD];exact Int.mul_nonneg (Int.ediv_nonneg (by omega) (by omega)) (Int.ediv_nonneg (by omega) (by omega))
  rw[<-hN]at a1;rw[<-hD]at a2;have hf:fits (p+q)↔N<=1000000000000000000/\D<=1000000000000000000:=by
   unfold fits;rw[a1,a2];split<;>omega
  refine br (g<=hi) (by rw[bE hA]) (fun c5=>?_) (fun c5=>?_)<;>refine zc ?_
  ·refine hQ _ _ _ (.inr ⟨fun w=>?_,rfl,rfl,rfl⟩) _ e15
   have w1:=(hf.1 w).1;have w2:18446744073709551616<=T / g:=by
    rw[Int.le_ediv_iff_mul_le a3,<-hhl];omega
   omega
  have ug:u64 g:=by have:=udd.2;unfold u64;omega
  refine py hA l15 uhi.1 ulo ug (by omega) (fun q1 r1 hq2 hr2 h16 x16=>⟨_,_,rfl,?_⟩);have e16:=e15.trans x16;have l16:=e16.lowOK hlow;rw[hhl,<-hN]at hq2;refine zc ?_;obtain⟨h17,hh17⟩:∃z,z=bump h16 12:=⟨_,rfl⟩;have e17:Ext h h17:=by rw[hh17];exact e16.trans (aq hA _ _)
  have l17:=e17.lowOK hlow;rw[<-hh17];refine⟨cY hA (by omega),?_⟩;refine zc ?_;refine⟨cY hA (by omega),?_⟩;refine zc ?_;rw[gX hA ud.1 ud.2 dp,gX hA ue.1 ue.2 a3];have v1:=cG ud dp;have v2:=cG ue a3;generalize d / dd=y1 at *;generalize e / g=y2 at *;refine zc ?_;refine jN hA (aw hA h17) v1 v2 (fun hi2 lo2 f3 f4=>⟨_,_,rfl,?_⟩);rw[<-hD]at f3 f4;refine zc ?_;rw[bJ hA l17];refine br (hi2≠0) (by rw[bL hA]) (fun c6=>?_) (fun c6=>?_)<;>refine zc ?_
  ·exact hQ _ _ _ (.inr ⟨fun w=>by have:=hf.1 w;omega,rfl,rfl,rfl⟩) _ e17
  have uN:u64 N:=by
   have:N<18446744073709551616:=by
    rw[hN,Int.ediv_lt_iff_lt_mul a3,<-hhl];omega
   exact⟨N0,this⟩
  refine mJ hA l17 (q:=p+q) (N:=q1) (D:=lo2) (by rw[hq2];exact uN) (by unfold u64;omega) (by rw[hq2];exact a1) (by rw[a2];omega) (fun a b r ho=>⟨_,_,_,rfl,?_⟩);refine zc ?_;exact hQ a b r ho _ e17
 ·refine Hb hA l12 ual ubl (fun cw hcw=>⟨_,rfl,?_⟩)
  rw[hA2,hB2]at hcw;refine zc ?_;refine br (0<=cw) (by rw[bE hA]) (fun cc=>?_) (fun cc=>?_)<;>refine zc ?_
  ·have hAB:B<=A:=by
    unfold sgn at hcw;by_cases z:B<=A
    ·exact z
    ·rw[if_neg (by omega),if_neg (by omega)]at hcw;omega
   refine kM hA ual ubl (by omega) (fun lo cy g1 g2=>⟨_,_,rfl,?_⟩);refine zc ?_;have hcy:0<=cy/\cy<=1:=by rw[g2];split<;>omega
   have hcy2:(al<bl/\cy=1)\/(bl<=al/\cy=0):=by
    by_cases z:al<bl
    ·rw[if_pos (by omega)]at g2;omega
    ·rw[if_neg (by omega)]at g2;omega
   refine kM hA uah ubh hcy (fun hi cz g3 g4=>⟨_,_,rfl,?_⟩);refine zc ?_;obtain⟨T,hTe⟩:∃z,z=A-B:=⟨_,rfl⟩;have hhl:hi*18446744073709551616+lo=T:=by unfold u64 at *;omega
   have hTT:((n<0↔m<0)/\T=A+B/\(cmp .lss n 0=true↔n<0))\/(¬(n<0↔m<0)/\B<=A/\T=A-B/\(cmp .lss n 0=true↔n<0))\/(¬(n<0↔m<0)/\A<B/\T=B-A/\(cmp .lss n 0=true↔m<0)):=.inr (.inl ⟨cs,hAB,hTe,J3 hA n⟩);have hib:0<=hi/\hi<18446744073709551616/\0<=lo/\lo<18446744073709551616:=by unfold u64 at *;omega
   have uhi:u64 hi:=by unfold u64;omega
   have ulo:u64 lo:=by unfold u64;omega
   refine u5 hA l13 uhi ulo udd dp (fun r hr h14 x14=>⟨_,rfl,?_⟩);have e14:=e13.trans x14;have l14:=e14.lowOK hlow;rw[hhl]at hr;refine zc ?_;have ur:u64 r:=by
    have:=Int.emod_nonneg T (b:=dd) (by omega);have:=Int.emod_lt_of_pos T dp;have:=udd.2;unfold u64;omega
   refine nB hA l14 udd ur (fun g hg h15 x15=>⟨_,rfl,?_⟩);have e15:=e14.trans x15;have l15:=e15.lowOK hlow;obtain⟨a1,a2,a3,a4,a5,a6,a7⟩:=kL hp hq (d:=dd) hdd hAe hBe (T:=T) (neg:=cmp .lss n 0) hTT (g:=g) (by rw[hg,hr]);refine zc ?_;have hq1:T / g=0+T / g:=by omega
   obtain⟨N,hN⟩:∃z,z=T / g:=⟨_,rfl⟩;obtain⟨D,hD⟩:∃z,z=d / dd*(e / g):=⟨_,rfl⟩;have N0:0<=N:=by rw[hN];exact Int.ediv_nonneg a5 (by omega)
   have D0:0<=D:=by rw[hD];exact Int.mul_nonneg (Int.ediv_nonneg (by omega) (by omega)) (Int.ediv_nonneg (by omega) (by omega))
   rw[<-hN]at a1;rw[<-hD]at a2;have hf:fits (p+q)↔N<=1000000000000000000/\D<=1000000000000000000:=by
    unfold fits;rw[a1,a2];split<;>omega
   refine br (g<=hi) (by rw[bE hA]) (fun c5=>?_) (fun c5=>?_)<;>refine zc ?_
   ·refine hQ _ _ _ (.inr ⟨fun w=>?_,rfl,rfl,rfl⟩) _ e15
    have w1:=(hf.1 w).1;have w2:18446744073709551616<=T / g:=by
     rw[Int.le_ediv_iff_mul_le a3,<-hhl];omega
    omega
   have ug:u64 g:=by have:=udd.2;unfold u64;omega
   refine py hA l15 uhi.1 ulo ug (by omega) (fun q1 r1 hq2 hr2 h16 x16=>⟨_,_,rfl,?_⟩);have e16:=e15.trans x16;have l16:=e16.lowOK hlow;rw[hhl,<-hN]at hq2;refine zc ?_;obtain⟨h17,hh17⟩:∃z,z=bump h16 12:=⟨_,rfl⟩;have e17:Ext h h17:=by rw[hh17];exact e16.trans (aq hA _ _)
   have l17:=e17.lowOK hlow;rw[<-hh17];refine⟨cY hA (by omega),?_⟩;refine zc ?_;refine⟨cY hA (by omega),?_⟩;refine zc ?_;rw[gX hA ud.1 ud.2 dp,gX hA ue.1 ue.2 a3];have v1:=cG ud dp;have v2:=cG ue a3;generalize d / dd=y1 at *;generalize e / g=y2 at *;refine zc ?_;refine jN hA (aw hA h17) v1 v2 (fun hi2 lo2 f3 f4=>⟨_,_,rfl,?_⟩);rw[<-hD]at f3 f4;refine zc ?_;rw[bJ hA l17];refine br (hi2≠0) (by rw[bL hA]) (fun c6=>?_) (fun c6=>?_)<;>refine zc ?_
   ·exact hQ _ _ _ (.inr ⟨fun w=>by have:=hf.1 w;omega,rfl,rfl,rfl⟩) _ e17
   have uN:u64 N:=by
    have:N<18446744073709551616:=by
     rw[hN,Int.ediv_lt_iff_lt_mul a3,<-hhl];omega
    exact⟨N0,this⟩
   refine mJ hA l17 (q:=p+q) (N:=q1) (D:=lo2) (by rw[hq2];exact uN) (by unfold u64;omega) (by rw[hq2];exact a1) (by rw[a2];omega) (fun a b r ho=>⟨_,_,_,rfl,?_⟩);refine zc ?_;exact hQ a b r ho _ e17
  ·have hAB:A<B:=by
    unfold sgn at hcw;by_cases z:A<B
    ·exact z
    ·by_cases z2:A=B
     ·rw[if_neg (by omega),if_pos (by omega)]at hcw;omega
     ·rw[if_pos (by omega)]at hcw;omega
   refine kM hA ubl ual (by omega) (fun lo cy g1 g2=>⟨_,_,rfl,?_⟩);refine zc ?_;have hcy:0<=cy/\cy<=1:=by rw[g2];split<;>omega
   have hcy2:(bl<al/\cy=1)\/(al<=bl/\cy=0):=by
    by_cases z:bl<al
    ·rw[if_pos (by omega)]at g2;omega
    ·rw[if_neg (by omega)]at g2;omega
   refine kM hA ubh uah hcy (fun hi cz g3 g4=>⟨_,_,rfl,?_⟩);refine zc ?_;obtain⟨T,hTe⟩:∃z,z=B-A:=⟨_,rfl⟩;have hhl:hi*18446744073709551616+lo=T:=by unfold u64 at *;omega
   have hTT:((n<0↔m<0)/\T=A+B/\(cmp .lss m 0=true↔n<0))\/(¬(n<0↔m<0)/\B<=A/\T=A-B/\(cmp .lss m 0=true↔n<0))\/(¬(n<0↔m<0)/\A<B/\T=B-A/\(cmp .lss m 0=true↔m<0)):=.inr (.inr ⟨cs,hAB,hTe,J3 hA m⟩);have hib:0<=hi/\hi<18446744073709551616/\0<=lo/\lo<18446744073709551616:=by unfold u64 at *;omega
   have uhi:u64 hi:=by unfold u64;omega
   have ulo:u64 lo:=by unfold u64;omega
   refine u5 hA l13 uhi ulo udd dp (fun r hr h14 x14=>⟨_,rfl,?_⟩);have e14:=e13.trans x14;have l14:=e14.lowOK hlow;rw[hhl]at hr;refine zc ?_;have ur:u64 r:=by
    have:=Int.emod_nonneg T (b:=dd) (by omega);have:=Int.emod_lt_of_pos T dp;have:=udd.2;unfold u64;omega
   refine nB hA l14 udd ur (fun g hg h15 x15=>⟨_,rfl,?_⟩);have e15:=e14.trans x15;have l15:=e15.lowOK hlow;obtain⟨a1,a2,a3,a4,a5,a6,a7⟩:=kL hp hq (d:=dd) hdd hAe hBe (T:=T) (neg:=cmp .lss m 0) hTT (g:=g) (by rw[hg,hr]);refine zc ?_;have hq1:T / g=0+T / g:=by omega
   obtain⟨N,hN⟩:∃z,z=T / g:=⟨_,rfl⟩;obtain⟨D,hD⟩:∃z,z=d / dd*(e / g):=⟨_,rfl⟩;have N0:0<=N:=by rw[hN];exact Int.ediv_nonneg a5 (by omega)
   have D0:0<=D:=by rw[hD];exact Int.mul_nonneg (Int.ediv_nonneg (by omega) (by omega)) (Int.ediv_nonneg (by omega) (by omega))
   rw[<-hN]at a1;rw[<-hD]at a2;have hf:fits (p+q)↔N<=1000000000000000000/\D<=1000000000000000000:=by
    unfold fits;rw[a1,a2];split<;>omega
   refine br (g<=hi) (by rw[bE hA]) (fun c5=>?_) (fun c5=>?_)<;>refine zc ?_
   ·refine hQ _ _ _ (.inr ⟨fun w=>?_,rfl,rfl,rfl⟩) _ e15
    have w1:=(hf.1 w).1;have w2:18446744073709551616<=T / g:=by
     rw[Int.le_ediv_iff_mul_le a3,<-hhl];omega
    omega
   have ug:u64 g:=by have:=udd.2;unfold u64;omega
   refine py hA l15 uhi.1 ulo ug (by omega) (fun q1 r1 hq2 hr2 h16 x16=>⟨_,_,rfl,?_⟩);have e16:=e15.trans x16;have l16:=e16.lowOK hlow;rw[hhl,<-hN]at hq2;refine zc ?_;obtain⟨h17,hh17⟩:∃z,z=bump h16 12:=⟨_,rfl⟩;have e17:Ext h h17:=by rw[hh17];exact e16.trans (aq hA _ _)
   have l17:=e17.lowOK hlow;rw[<-hh17];refine⟨cY hA (by omega),?_⟩;refine zc ?_;refine⟨cY hA (by omega),?_⟩;refine zc ?_;rw[gX hA ud.1 ud.2 dp,gX hA ue.1 ue.2 a3];have v1:=cG ud dp;have v2:=cG ue a3;generalize d / dd=y1 at *;generalize e / g=y2 at *;refine zc ?_;refine jN hA (aw hA h17) v1 v2 (fun hi2 lo2 f3 f4=>⟨_,_,rfl,?_⟩);rw[<-hD]at f3 f4;refine zc ?_;rw[bJ hA l17];refine br (hi2≠0) (by rw[bL hA]) (fun c6=>?_) (fun c6=>?_)<;>refine zc ?_
   ·exact hQ _ _ _ (.inr ⟨fun w=>by have:=hf.1 w;omega,rfl,rfl,rfl⟩) _ e17
   have uN:u64 N:=by
    have:N<18446744073709551616:=by
     rw[hN,Int.ediv_lt_iff_lt_mul a3,<-hhl];omega
    exact⟨N0,this⟩
   refine mJ hA l17 (q:=p+q) (N:=q1) (D:=lo2) (by rw[hq2];exact uN) (by unfold u64;omega) (by rw[hq2];exact a1) (by rw[a2];omega) (fun a b r ho=>⟨_,_,_,rfl,?_⟩);refine zc ?_;exact hQ a b r ho _ e17
theorem Ic{h:af}(hlow:h.low<=h.next){n d m e:Int}(hn:i64 n)(hd:i64 d)(hm:i64 m)(he:i64 e){Q:Value->af->Prop}
  (hQ:∀a b r,zP (· + ·) n d m e a b r->∀h',Ext h h'->Q (.tuple #[.agg #[.int .i64 a,.int .i64 b],.int .i64 r]) h'):call 76 [.agg #[.int .i64 n,.int .i64 d],.agg #[.int .i64 m,.int .i64 e]] h Q:=by
 refine hA.bodyR Try.func76 r76_ok (hA.alike _ _ _ rfl) hlow (zc ?_);refine xF hA hlow hn hd hm he (fun r1 h1 k1 x1=>⟨_,rfl,?_⟩);refine zc ?_;refine br (r1≠0) (by rw[bL hA]) (fun c1=>?_) (fun c1=>?_)<;>refine zc ?_
 ·rcases k1 with ⟨q,_⟩|⟨rfl,q⟩
  ·exact absurd q c1
  ·exact hQ _ _ _ (.inl ⟨q,rfl,rfl,rfl⟩) _ x1
 rcases k1 with ⟨_,⟨p,hp⟩,q,hq⟩|⟨q,_⟩
 ·refine FW hA (x1.lowOK hlow) hp hq (fun a b r ho h2 x2=>⟨_,_,_,rfl,?_⟩)
  refine zc ?_;exact hQ _ _ _ (.inr ⟨p,q,hp,hq,ho⟩) _ (x1.trans x2)
 ·omega
theorem Io{h:af}(hlow:h.low<=h.next){n d m e:Int}(hn:i64 n)(hd:i64 d)(hm:i64 m)(he:i64 e){Q:Value->af->Prop}
  (hQ:∀a b r,zP (· - ·) n d m e a b r->∀h',Ext h h'->Q (.tuple #[.agg #[.int .i64 a,.int .i64 b],.int .i64 r]) h'):call 78 [.agg #[.int .i64 n,.int .i64 d],.agg #[.int .i64 m,.int .i64 e]] h Q:=by
 refine hA.bodyR Try.func78 r78_ok (hA.alike _ _ _ rfl) hlow (zc ?_);refine xF hA hlow hn hd hm he (fun r1 h1 k1 x1=>⟨_,rfl,?_⟩);refine zc ?_;refine br (r1≠0) (by rw[bL hA]) (fun c1=>?_) (fun c1=>?_)<;>refine zc ?_
 ·rcases k1 with ⟨q,_⟩|⟨rfl,q⟩
  ·exact absurd q c1
  ·exact hQ _ _ _ (.inl ⟨q,rfl,rfl,rfl⟩) _ x1
 rcases k1 with ⟨_,⟨p,hp⟩,q,hq⟩|⟨q,_⟩
 ·have e1:neg .i64 m=-m:=by
   obtain⟨rfl,_,h1,h2,_⟩:=hq;rw[rY hA,fX (by omega) (by omega)];omega
  rw[e1];refine FW hA (x1.lowOK hlow) hp hq.neg (fun a b r ho h2 x2=>⟨_,_,_,rfl,?_⟩);refine zc ?_;exact hQ _ _ _ (.inr ⟨p,q,hp,hq,by show mE (p-q) _ _ _;rw[Rat.sub_eq_add_neg];exact ho⟩) _ (x1.trans x2)
 ·omega
