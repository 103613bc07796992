import Derived.Test.YtdpbiegfljmhmaaDetG
import Derived.Test.YtdpbiegfljmhmaaSmV
import Derived.Test.YtdpbiegfljmhmaaSmB
import Derived.Test.YtdpbiegfljmhmaaFracR
import Derived.Test.YtdpbiegfljmhmaaFracA
import Derived.Test.YtdpbiegfljmhmaaSmO
set_option linter.unusedSimpArgs false
set_option linter.unusedVariables false
namespace Go.Proofs.Ytdpbiegfljmhmaa
open Go.cL
set_option maxRecDepth 100000
structure I7(h:af)(es b n c:Nat)(cells:List Value):Prop where
 own:aJ h b es cells
 lt:b<h.next
 len:cells.length=n*es
 cap:c=n\/c=au es n
theorem I7.ext{h h':af}{es b n c:Nat}{cells:List Value}(p:I7 h es b n c cells)(e:Ext h h'):I7 h' es b n c cells:=⟨p.own.ext e p.lt,Nat.lt_of_lt_of_le p.lt e.next,p.len,p.cap⟩
theorem CK{P:Program}{t t2 e es:Nat}(hT:fW P t e es)(Jx:P.underlying t2=some (.slice e)){h:af}{b n n2 c2:Nat}{a2:Option Addr}{cells news:List Value}(ho:aJ h b es cells)(hb:b<h.next)(hl:cells.length=n*es)(hn:n<=1000)(hs:Cells h a2 n2 es news)(fz:cells.all aD=true)(rp:news.all aD=true)(h0:0<n2)(um:n2<=1000000) :
  cO P h [t,t2] [.slice (some ⟨b,0,none⟩) n n,.slice a2 n2 c2]=some (.slice (some ⟨h.next,0,none⟩) (n+n2) (au es (n+n2)),h.push es (cells++news)):=by
 obtain⟨by_,rF,nG⟩:=hT.bytes;obtain⟨z,hz,zG⟩:=hT.zero;have sM:=hs.length;have gP:jC P h e es false (.slice a2 n2 c2)=some (n2,news):=(uk.of (P:=P) (e:=e) c2 hs).1;have Jy:cM n=n:=Nat.mod_eq_of_lt (by unfold aS;omega);unfold cO;simp only[hT.wT,hT.size,rF,Jx,hz,cV,gP];rw[Jy,eQ om];simp only[cond_false];rw[bz (show n+n2<=1073741824 by omega),bz nG,rp,zG,sM];simp only[Bool.and_self,Nat.beq_refl,cond_true];have hr:h.aL ⟨b,0,none⟩ (n*es)=some cells:=by rw[ho.aL om];simp[<-hl]
 simp only[hr];rw[dU (show n<aS by unfold aS;omega),fz];simp only[cond_true]
theorem Ho{P:Program}{t t2 e es:Nat}(hT:fW P t e es)(Jx:P.underlying t2=some (.slice e)){h:af}{b n c n2 c2:Nat}{a2:Option Addr}{cells news:List Value}(hp:I7 h es b n c cells)(hn:n<=1000)(hs:Cells h a2 n2 es news)(fz:cells.all aD=true)(rp:news.all aD=true)(um:n2<=100000) :
  ∃b' c' h',cO P h [t,t2] [.slice (some ⟨b,0,none⟩) n c,.slice a2 n2 c2]=some (.slice (some ⟨b',0,none⟩) (n+n2) c',h')/\I7 h' es b' (n+n2) c' (cells++news)/\h.next<=h'.next/\(b'=b\/h.next<=b')/\(∀j,j<h.next->j≠b->h'.m.get j=h.m.get j)/\(∀h0,Ext h0 h->h0.next<=b->Ext h0 h'/\h0.next<=b'):=by
 have sM:=hs.length;rcases hp.cap with e|e
 ·subst e
  by_cases h2:n2=0
  ·subst h2
   have en:news=[]:=by simpa using sM
   subst en;obtain⟨by_,rF,nG⟩:=hT.bytes;obtain⟨z,hz,zG⟩:=hT.zero;have gP:jC P h e es false (.slice a2 0 c2)=some (0,[]):=(uk.of (P:=P) (e:=e) c2 hs).1;have Jy:cM c=c:=Nat.mod_eq_of_lt (by unfold aS;omega);obtain⟨h',hw,mD,pv⟩:=hp.own.write (o:=c*es) (vs:=[]) (by simp[hp.len]);have Wf:h.iu (fV ⟨b,0,none⟩ (c*es)) []=some h':=by
    unfold af.iu fV;simp only[List.all_nil,cond_true,Nat.zero_add];exact hw
   refine⟨b,c,h',?_,⟨?_,by rw[pv.next];exact hp.lt,by simpa using hp.len,.inl rfl⟩,by rw[pv.next];exact Nat.le_refl _,.inl rfl,fun j _ j1=>pv.get j j1,fun h0 e0 nE=>⟨pv.ext e0 nE,nE⟩⟩
   ·unfold cO
    simp only[hT.wT,hT.size,rF,Jx,hz,cV,gP];rw[Jy,bz (show c+0<=c by omega)];simp only[cond_true,Wf]
   ·have:List.take (c*es) cells++([]++List.drop (c*es+([]:List Value).length) cells)=cells++[]:=by
     simp[<-hp.len]
    rw[this]at mD;exact mD
  ·have:=CK hT Jx (c2:=c2) hp.own hp.lt hp.len hn hs fz rp om om
   refine⟨_,_,_,this,⟨aJ.push _ _ _,by simp[af.push],by rw[List.length_append,hp.len,sM,Nat.add_mul],.inr rfl⟩,(Ext.push _ _ _).next,.inr (Nat.le_refl _),fun j j0 _=>(Ext.push _ _ _).get j j0,fun h0 e0 nE=>⟨e0.trans (.push _ _ _),e0.next⟩⟩
 ·obtain⟨b',c',h',h1,⟨o1,o2,o3,o4⟩,h3,h4,h5,h6⟩:=Dq hT Jx (c2:=c2) (show Ge h es b n c cells from⟨hp.own,hp.lt,hp.len,.inr e⟩) (uk.of c2 hs) fz rp om
  exact⟨b',c',h',h1,⟨o1,o2,o3,by rcases o4 with ⟨q1,q2⟩|q;left;omega;exact .inr q⟩,h3,h4,h5,h6⟩
structure oX(g:List (List Int))(m n r:Nat):Prop where
 lm:r<=m
 ln:r<=n
 nz:∀k,k<r->Ext.Dv g m n (k+1)≠0
 fin:r=m\/r=n\/Ext.Dv g m n (r+1)=0
theorem oX.uniq{g:List (List Int)}{m n r s:Nat}(h:oX g m n r)(k:oX g m n s):r=s:=by
 have one:∀{r s:Nat},oX g m n r->oX g m n s->¬r<s:=fun {r s} h k q=>by
  rcases h.fin with e|e|e
  ·have:=k.lm;omega
  ·have:=k.ln;omega
  ·exact k.nz r q e
 have:=one h k;have:=one k h;omega
def Hp(g:List (List Int))(m n:Nat)(k:Nat):List Int:=kM (fun x=>(Ext.Dv g m n x:Int)) k
def Of(g:List (List Int))(m n:Nat)(r:Nat):List Int:=kM (fun x=>((Ext.Dv g m n (x+1) / Ext.Dv g m n x:Nat):Int)) r
def rq(n d:Int):Rat:=(n:Rat) / (d:Rat)
theorem okF.is{n d:Int}(h:okF n d):hH n d (rq n d):=by
 obtain⟨q,hq⟩:=h;have:=hq.val;unfold rq;rw[<-this];exact hq
theorem hH.rq{n d:Int}{q:Rat}(h:hH n d q):rq n d=q:=h.val.symm
theorem hH.ok{n d:Int}{q:Rat}(h:hH n d q):okF n d:=⟨q,h⟩
theorem wD{n:Int}(h0:-1000000000000000000<=n)(h1:n<=1000000000000000000):hH n 1 (n:Rat):=⟨(Rat.num_intCast n).symm,by rw[Rat.den_intCast];rfl,by rw[Rat.num_intCast];exact h0,by rw[Rat.num_intCast];exact h1,by rw[Rat.den_intCast];decide⟩
theorem CL{f:Rat->Rat->Rat}{n d m e a b r:Int}{p q:Rat}(hp:hH n d p)(hq:hH m e q)(hf:fits (f p q))(k:EW f n d m e a b r):hH a b (f p q)/\r=0:=by
 rcases k with ⟨w,_⟩|⟨p',q',sI,zJ,k⟩
 ·exact absurd ⟨⟨p,hp⟩,⟨q,hq⟩⟩ w
 ·obtain rfl:=hp.uniq sI
  obtain rfl:=hq.uniq zJ;rcases k with ⟨_,rfl,rfl,rfl⟩|⟨w,_⟩
  ·exact⟨⟨rfl,rfl,hf⟩,rfl⟩
  ·exact absurd hf w
theorem zi(a b:Int):rq a b=Rat.divInt a b:=by unfold rq;rw[Rat.divInt_eq_div]
theorem tM{a b:Int}(ha:a.natAbs<=1000000000000000000)(hb:b.natAbs<=1000000000000000000)(h0:b≠0):fits (rq a b):=by
 unfold fits;rw[zi,Rat.num_divInt,Rat.den_divInt,if_neg h0];have h1:(b.sign*a / (Int.gcd b a:Int)).natAbs<=a.natAbs:=by
  refine Nat.le_trans (Int.natAbs_ediv_le_natAbs _ _) ?_;rw[Int.natAbs_mul];have:b.sign.natAbs<=1:=by
   rcases Int.lt_trichotomy b 0 with q|q|q
   ·rw[Int.sign_eq_neg_one_of_neg q];decide
   ·omega
   ·rw[Int.sign_eq_one_of_pos q];decide
  calc b.sign.natAbs*a.natAbs<=1*a.natAbs:=Nat.mul_le_mul_right _ this
   _=a.natAbs:=Nat.one_mul _
 have h2:b.natAbs / Int.gcd b a<=b.natAbs:=Nat.div_le_self _ _;omega
theorem qw{b:Int}(h:b≠0):(b:Rat)≠0:=fun q=>h (Rat.intCast_eq_zero_iff.1 q)
theorem uS{a b d:Int}(hd:d≠0):rq a d+rq b d=rq (a+b) d:=by
 have:=qw hd;unfold rq;rw[Rat.intCast_add];grind
theorem Hq{a b d:Int}(hd:d≠0):rq a d-rq b d=rq (a-b) d:=by
 have:=qw hd;unfold rq;rw[Rat.intCast_sub];grind
theorem CM(l a d:Int):(l:Rat)*rq a d=rq (l*a) d:=by
 unfold rq;rw[Rat.intCast_mul];grind
theorem jQ{l d:Int}(hd:d≠0):(l:Rat)=rq (l*d) d:=by
 have:=qw hd;unfold rq;rw[Rat.intCast_mul];grind
theorem Hr(l:Int):rq l 1=(l:Rat):=by unfold rq;rw[Rat.intCast_one];grind
theorem CN{a d c:Int}(hc:c≠0):rq (a*c) (d*c)=rq a d:=by
 have:=qw hc;unfold rq;rw[Rat.intCast_mul,Rat.intCast_mul];by_cases h:(d:Rat)=0
 ·rw[h];simp[Rat.div_def,Rat.inv_zero]
 ·grind
theorem Fk{a b d e:Int}(hd:d≠0)(he:e≠0):rq a d=rq b e↔a*e=b*d:=by
 have h1:=qw hd;have h2:=qw he;rw[<-Rat.intCast_inj (a:=a*e),Rat.intCast_mul,Rat.intCast_mul];unfold rq;constructor<;>intro h<;>grind
theorem Hs{a b d:Int}(hd:d≠0):rq a d=rq b d↔a=b:=by
 rw[Fk hd hd];exact⟨fun h=>Int.eq_of_mul_eq_mul_right hd h,fun h=>by rw[h]⟩
theorem QW{n d z D:Int}(h:hH n d (rq z D))(hD:D≠0):n*D=z*d:=by
 have h1:=h.val;have hd:=h.den;exact(Fk (a:=n) (b:=z) om hD).1 h1.symm
theorem CO{n d z D:Int}(h:hH n d (rq z D))(hD:0<D):n / d=z / D:=by
 have hd:=h.den;have hc:=QW h om;rw[<-Int.mul_ediv_mul_of_pos_left n d hD,hc,Int.mul_comm d D,Int.mul_ediv_mul_of_pos_left z D om]
theorem UK{n d m e:Int}{p q:Rat}(h:hH n d p)(k:hH m e q):(n=m/\d=e)↔p=q:=by
 constructor
 ·rintro⟨rfl,rfl⟩;exact h.uniq k
 ·rintro rfl;exact⟨h.1.trans k.1.symm,h.2.1.trans k.2.1.symm⟩
theorem KM(g:List (List Int))(m n r:Nat):Of g m n (r+1)=Of g m n r++[((Ext.Dv g m n (r+1) / Ext.Dv g m n r:Nat):Int)]:=tJ _ _
theorem oX.pos{g:List (List Int)}{m n r:Nat}(h:oX g m n r){k:Nat}(hk:k<=r):Ext.Dv g m n k≠0:=by
 cases k with
 |zero=>rw[Ext.Cs];decide
 |succ k=>exact h.nz k om
structure sA(B:List Fc)(i:Nat)(W:Int):Prop where
 pos:0<W
 le:W<=((60 ^ i:Nat):Int)
 dvd:∀j:Nat,j<i->(gt B (j:Int)).d∣W
theorem sA.start(B:List Fc):sA B 0 1:=⟨by decide,by decide,fun j hj=>om⟩
theorem sA.step{B:List Fc}{i:Nat}{W d:Int}(w:sA B i W)(ed:d=(gt B (i:Int)).d)(d1:1<=d)(d60:d<=60):sA B (i+1) (W*(d / (Int.gcd W d:Int))):=by
 have hp:=w.pos;have g0:0<Int.gcd W d:=Int.gcd_pos_of_ne_zero_left d om;have gd:(Int.gcd W d:Int)∣d:=Int.gcd_dvd_right W d;have gw:(Int.gcd W d:Int)∣W:=Int.gcd_dvd_left W d;obtain⟨c,hc⟩:=gd;obtain⟨v,hv⟩:=gw;obtain⟨G,eG⟩:∃s:Int,s=(Int.gcd W d:Int):=⟨_,rfl⟩;rw[<-eG]at hc hv ⊢;have G0:0<G:=om
 have eq:d / G=c:=by rw[hc];exact Int.mul_ediv_cancel_left c om
 rw[eq];have c0:0<c:=by
  by_cases q:0<c
  ·exact q
  ·have:=Int.mul_le_mul_of_nonneg_left (show c<=0 by omega) (Int.le_of_lt G0)
   rw[Int.mul_zero]at this;omega
 have cd:c<=d:=by
  rw[hc];have:=Int.mul_le_mul_of_nonneg_right (show 1<=G by omega) (Int.le_of_lt c0);rw[Int.one_mul]at this;exact this
 refine⟨Int.mul_pos hp c0,?_,fun j hj=>?_⟩
 ·have h1:W*c<=((60 ^ i:Nat):Int)*60:=Int.mul_le_mul w.le om (Int.le_of_lt c0) (Int.natCast_nonneg _)
  rw[Nat.pow_succ];omega
 ·by_cases e:j=i
  ·rw[e,<-ed]
   exact⟨v,by rw[hc,hv,Int.mul_assoc,Int.mul_assoc,Int.mul_comm v c]⟩
  ·exact Int.dvd_mul_of_dvd_left (w.dvd j om)
def Au(B:List Fc)(W:Int)(k:Nat):List Int:=kM (fun i=>(gt B (i:Int)).n*(W / (gt B (i:Int)).d)) k
theorem QX{B:List Fc}{W:Int}{k i:Nat}(h:i<k):gt (Au B W k) (i:Int)=(gt B (i:Int)).n*(W / (gt B (i:Int)).d):=gm _ h
theorem sA.part{B:List Fc}{k:Nat}{W:Int}(w:sA B k W)(ht:∀i:Int,0<=i->i<k->cZ (gt B i)/\(gt B i).d<=60){i:Nat}(hi:i<k):hH (gt B (i:Int)).n (gt B (i:Int)).d (rq ((gt B (i:Int)).n*(W / (gt B (i:Int)).d)) W)/\0<=(gt B (i:Int)).n*(W / (gt B (i:Int)).d)/\(gt B (i:Int)).n*(W / (gt B (i:Int)).d)<W/\(gt B (i:Int)).n*(W / (gt B (i:Int)).d)<=W:=by
 obtain⟨⟨ok,n0,n1⟩,_⟩:=ht i om om;obtain⟨c,hc⟩:=w.dvd i hi;obtain⟨f,ef⟩:∃f,f=gt B (i:Int):=⟨_,rfl⟩;rw[<-ef]at ok n0 n1 hc ⊢;have f1:=ok.is.den;have wp:=w.pos;have ec:W / f.d=c:=by rw[hc];exact Int.mul_ediv_cancel_left c om
 rw[ec];have c0:0<c:=by
  by_cases q:0<c
  ·exact q
  ·have:=Int.mul_le_mul_of_nonneg_left (show c<=0 by omega) (show 0<=f.d by omega)
   rw[Int.mul_zero]at this;omega
 have h1:f.n*c<f.d*c:=Int.mul_lt_mul_of_pos_right n1 c0;refine⟨?_,Int.mul_nonneg n0 om,om,om⟩;have:=ok.is;rw[hc,CN om];exact this
variable{F:bg}{call head arith a0 b0 d0 f0 conv i0 k0 uv ofNat l0 place o0 nz q0 rd wr push next r0 s0 u0 v0 w0 x0 z0 g1 l1 part app s1 putAt u1 aw aH v1 bZ lt ne z1 b2 f2 yn i2 j2 l2 s2 bytes u2:_}(hA:AP F ⟨call,head,arith,a0,b0,d0,f0,conv,i0,k0,uv,ofNat,l0,place,o0,nz,q0,rd,wr,push,next,r0,s0,u0,v0,w0,x0,z0,g1,l1,part,app,s1,putAt,u1,aw,aH,v1,bZ,lt,ne,z1,b2,f2,yn,i2,j2,l2,s2,bytes,u2⟩)
include hA
theorem Og{m:Nat}(hm:m<=4){M:Int}(eM:M=m):arith .shl .i64 1 M=((2 ^ m:Nat):Int):=by
 rw[R2 hA,eM];have h1:m=0\/m=1\/m=2\/m=3\/m=4:=om
 rcases h1 with rfl|rfl|rfl|rfl|rfl<;>rfl
theorem Yd{h0:af}(gq:h0.low<=h0.next){m n ac k R g0 p2:Nat}{aa:Option Addr}{gA:List Hd}{g:List (List Int)}(hM:oD g m n)(hg:rC nC 1 h0 aa m gA g){K RI P W:Int}(eK:K=k)(eR:RI=R)(hR:R<2 ^ m)(hk:k<=4)(lR:(Ext.bl m R).length=k)(ZW:p2=2 ^ n)(eP:P=p2){Q:Exit->SS->Prop}
  (hQ:∀(h':af) (gg:Nat) (G:Int),Ext h0 h'->G=gg->gg<=157464->(∀d:Nat,d∣gg↔d∣g0/\∀C,C<p2->(Ext.bl n C).length=k->d∣(Ext.Cq g k (Ext.bl m R) (Ext.bl n C)).natAbs)->Q (.exit 2) ⟨[(0,.slice aa m ac),(1,.int .i64 K),(5,.int .i64 G),(10,.int .i64 W),(11,.int .i64 RI)],0,[],h'⟩) :
  ∀(d C gg:Nat) (CI G:Int) (h:af),p2-C<=d->C<=p2->CI=C->Ext h0 h->G=gg->gg<=157464->(∀d:Nat,d∣gg↔d∣g0/\∀x,x<C->(Ext.bl n x).length=k->d∣(Ext.Cq g k (Ext.bl m R) (Ext.bl n x)).natAbs)->
   head 53 7 0 ⟨[(0,.slice aa m ac),(1,.int .i64 K),(5,.int .i64 G),(6,.int .i64 RI),(10,.int .i64 W),(11,.int .i64 RI),(23,.int .i64 P),(24,.int .i64 CI)],0,[],h⟩ Q:=by
 intro d;have m4:=hM.m4;have n4:=hM.n4;have pw:∀x,x<=4->2 ^ x<=16:=fun x hx=>Nat.pow_le_pow_right (n:=2) om hx
 have pn:=pw n n4;have pm:=pw m m4
 induction d with
 |zero=>
  intro C gg CI G h hd hC eC x eG hb E9;refine hA.ar Try.func53 x53.2 (zc ?_);refine br (CI<P) (by rw[aB hA]) (fun q=>om) (fun _=>?_)<;>refine zc ?_;obtain rfl:C=p2:=om
  exact hQ h gg G x eG hb E9
 |succ d ih=>
 intro C gg CI G h hd hC eC x eG hb E9;by_cases cC:C<p2
 rotate_left
 ·refine hA.ar Try.func53 x53.2 (zc ?_)
  refine br (CI<P) (by rw[aB hA]) (fun q=>om) (fun _=>?_)<;>refine zc ?_;obtain rfl:C=p2:=om
  exact hQ h gg G x eG hb E9
 have aq:=x.az gq;have m1:conv .u64 CI=CI:=ml hA om om;have l4:=Ext.IL n C n4 om;refine hA.ar Try.func53 x53.2 (zc ?_);refine br (CI<P) (by rw[aB hA]) (fun _=>?_) (fun q=>om)<;>refine zc ?_
 (refine zq ?_;repeat ((first|rw[m1]);refine zq ?_))
 refine IP hA om om aq (fun v ev=>⟨v,rfl,?_⟩);rw[eC,Int.toNat_natCast,l4]at ev;refine zq ?_;refine br (v=K) (by rw[dg hA]) (fun c=>?_) (fun c=>?_)<;>refine zc ?_
 ·have lC:(Ext.bl n C).length=k:=om
  refine zq ?_;refine Oe hA aq hM (hg.ext x) eR eC om om (fun b h1 P1 t1 p1=>⟨_,_,rfl,?_⟩);rw[lR]at t1 p1;refine zq ?_;refine Hc hA aq t1 hk (fun i j hi hj=>by rw[p1 i j hi om];exact hM.nine _ _) (fun w h2 ew wb x2=>⟨w,rfl,?_⟩);have ed:Ext.dt k P1=Ext.Cq g k (Ext.bl m R) (Ext.bl n C):=by
   unfold Ext.Cq;exact Ext.fu (fun i j hi hj=>p1 i j hi om)
  rw[ed]at ew;refine zq ?_;refine IN hA (x2.az aq) (a:=G) (b:=w) om om (fun h3 x3=>⟨_,rfl,?_⟩);have eg2:Int.gcd G w=Nat.gcd gg (Ext.Cq g k (Ext.bl m R) (Ext.bl n C)).natAbs:=by
   rw[eG,ew];rfl
  rw[eg2];have xM:Nat.gcd gg (Ext.Cq g k (Ext.bl m R) (Ext.bl n C)).natAbs<=157464:=Ext.Um hb om;have UL:∀d:Nat,d∣Nat.gcd gg (Ext.Cq g k (Ext.bl m R) (Ext.bl n C)).natAbs↔d∣g0/\∀x,x<C+1->(Ext.bl n x).length=k->d∣(Ext.Cq g k (Ext.bl m R) (Ext.bl n x)).natAbs:=fun d=>by
   rw[Nat.dvd_gcd_iff,E9 d];constructor
   ·rintro⟨⟨a1,a2⟩,a3⟩
    refine⟨a1,fun y hy ly=>?_⟩;by_cases e:y=C
    ·rw[e];exact a3
    ·exact a2 y om ly
   ·rintro⟨a1,a2⟩
    exact⟨⟨a1,fun y hy ly=>a2 y om ly⟩,a2 C om lC⟩
  generalize Nat.gcd gg (Ext.Cq g k (Ext.bl m R) (Ext.bl n C)).natAbs=g2 at *;obtain⟨G2,ZX⟩:∃z:Int,z=g2:=⟨_,rfl⟩;rw[<-ZX];refine zq ?_;rw[aF hA om om];exact ih (C+1) g2 (CI+1) G2 h3 om om om ((x.trans x2).trans x3) ZX xM UL
 ·refine zq ?_
  rw[aF hA om om];refine ih (C+1) gg (CI+1) G h om om om x eG hb (fun d=>?_);rw[E9 d];refine and_congr Iff.rfl ⟨fun a y hy ly=>?_,fun a y hy ly=>a y om ly⟩;by_cases e:y=C
  ·rw[e]at ly;omega
  ·exact a y om ly
theorem UM{h0:af}(gq:h0.low<=h0.next){m n ac k pm:Nat}{aa:Option Addr}{gA:List Hd}{g:List (List Int)}(hM:oD g m n)(hg:rC nC 1 h0 aa m gA g){K W:Int}(eK:K=k)(hk:k<=4)(ZY:pm=2 ^ m)(eW:W=pm){Q:Exit->SS->Prop}
  (hQ:∀(h':af) (gg:Nat) (G:Int) (kn:Nat) (T:List (Nat×List Value)),Ext h0 h'->G=gg->(∀d:Nat,d∣gg↔∀R,R<pm->(Ext.bl m R).length=k->∀C,C<2 ^ n->(Ext.bl n C).length=k->d∣(Ext.Cq g k (Ext.bl m R) (Ext.bl n C)).natAbs)->Q (.exit 0) ⟨[(5,.int .i64 G)],kn,T,h'⟩) :
  ∀(d R gg:Nat) (RI G:Int) (h:af),pm-R<=d->R<=pm->RI=R->Ext h0 h->G=gg->gg<=157464->(∀d:Nat,d∣gg↔∀x,x<R->(Ext.bl m x).length=k->∀C,C<2 ^ n->(Ext.bl n C).length=k->d∣(Ext.Cq g k (Ext.bl m x) (Ext.bl n C)).natAbs)->
   head 53 3 0 ⟨[(0,.slice aa m ac),(1,.int .i64 K),(5,.int .i64 G),(10,.int .i64 W),(11,.int .i64 RI)],0,[],h⟩ Q:=by
 intro d;have m4:=hM.m4;have n4:=hM.n4;have pw:∀x,x<=4->2 ^ x<=16:=fun x hx=>Nat.pow_le_pow_right (n:=2) om hx
 have pm16:=pw m m4;have mpos:=hM.m1
 induction d with
 |zero=>
  intro R gg RI G h hd hR eR x eG hb E9;refine hA.ar Try.func53 x53.2 (zc ?_);refine br (RI<W) (by rw[aB hA]) (fun q=>om) (fun _=>?_)<;>refine zc ?_;obtain rfl:R=pm:=om
  exact hQ h gg G _ _ x eG E9
 |succ d ih=>
 intro R gg RI G h hd hR eR x eG hb E9;by_cases cR:R<pm
 rotate_left
 ·refine hA.ar Try.func53 x53.2 (zc ?_)
  refine br (RI<W) (by rw[aB hA]) (fun q=>om) (fun _=>?_)<;>refine zc ?_;obtain rfl:R=pm:=om
  exact hQ h gg G _ _ x eG E9
 have aq:=x.az gq;have m1:conv .u64 RI=RI:=ml hA om om;have l4:=Ext.IL m R m4 om;obtain⟨N,eN⟩:∃z:Int,z=n:=⟨_,rfl⟩;have e0:ofNat n=N:=by rw[eN];exact aR hA n
 obtain⟨p2,ZW⟩:∃z:Nat,z=2 ^ n:=⟨_,rfl⟩;obtain⟨P,eP⟩:∃z:Int,z=p2:=⟨_,rfl⟩;have m2:arith .shl .i64 1 N=P:=by rw[eP,ZW];exact Og hA hM.n4 eN
 obtain⟨ab,ao,rfl,Su,q1⟩:=(hg.ext x).uR (i:=0) om (by have:=hM.m1;omega);have row:=hg.row 0 om (by have:=hM.m1;omega);have KL:(gt g 0).length=n:=hM.row 0 om (by have:=hM.m1;omega);have yV:=row.len;rw[KL]at yV;rw[<-yV]at q1;obtain⟨ra,era⟩:∃z,z=(gt gA 0).a:=⟨_,rfl⟩;obtain⟨rc,KK⟩:∃z,z=(gt gA 0).c:=⟨_,rfl⟩;rw[<-era,<-KK]at q1;have r1:rd h ab (place ao 0 1) 1 [.slice ra n rc]:=aC hA q1;refine hA.ar Try.func53 x53.2 (zc ?_);refine br (RI<W) (by rw[aB hA]) (fun _=>?_) (fun q=>om)<;>refine zc ?_
 (refine zq ?_;repeat ((first|rw[m1]);refine zq ?_))
 refine IP hA om om aq (fun v ev=>⟨v,rfl,?_⟩);rw[eR,Int.toNat_natCast,l4]at ev;refine zq ?_;refine br (v≠K) (by rw[cD hA]) (fun c=>?_) (fun c=>?_)<;>refine zc ?_
 ·refine zq ?_
  rw[aF hA om om];refine ih (R+1) gg (RI+1) G h om om om x eG hb (fun d=>?_);rw[E9 d];refine⟨fun a y hy ly=>?_,fun a y hy ly=>a y om ly⟩;by_cases e:y=R
  ·rw[e]at ly;omega
  ·exact a y om ly
 ·have lR:(Ext.bl m R).length=k:=om
  (refine zq ?_;repeat ((first|rw[e0]|rw[m2]);refine zq ?_))
  refine Yd hA gq hM hg eK eR om hk lR ZW eP (g0:=gg) (fun h' g2 G2 x' ZX xM UL=>?_) p2 0 gg 0 G h om om rfl x eG hb (fun d=>⟨fun a=>⟨a,fun y hy=>om⟩,fun a=>a.1⟩);refine zq ?_;rw[aF hA om om];refine ih (R+1) g2 (RI+1) G2 h' om om om x' ZX xM (fun d=>?_);rw[UL d,E9 d,<-ZW];constructor
  ·rintro⟨a1,a2⟩ y hy ly
   by_cases e:y=R
   ·rw[e];exact a2
   ·exact a1 y om ly
  ·intro a
   exact⟨fun y hy ly=>a y om ly,a R om lR⟩
theorem Hu{h:af}(aq:h.low<=h.next){m n ac k:Nat}{aa:Option Addr}{gA:List Hd}{g:List (List Int)}(hM:oD g m n)(hg:rC nC 1 h aa m gA g){K:Int}(eK:K=k)(hk:k<=4){Q:Value->af->Prop}
  (hQ:∀(v:Int) h',v=Ext.Dv g m n k->Ext h h'->Q (.int .i64 v) h'):call 53 [.slice aa m ac,.int .i64 K] h Q:=by
 obtain⟨M,eM⟩:∃z:Int,z=m:=⟨_,rfl⟩;have e1:ofNat m=M:=by rw[eM];exact aR hA m
 obtain⟨pm,ZY⟩:∃z:Nat,z=2 ^ m:=⟨_,rfl⟩;obtain⟨W,eW⟩:∃z:Int,z=pm:=⟨_,rfl⟩;have m2:arith .shl .i64 1 M=W:=by rw[eW,ZY];exact Og hA hM.m4 eM
 refine hA.aQ Try.func53 x53.2 (hA.alike _ _ _ rfl) aq (zc ?_)
 (refine zq ?_;repeat ((first|rw[e1]|rw[m2]);refine zq ?_))
 refine UM hA aq hM hg eK hk ZY eW (fun h' gg G kn T x eG E9=>?_) pm 0 0 0 0 h om om rfl (.refl h) rfl om (fun d=>⟨fun _ y hy=>om,fun _=>Nat.dvd_zero d⟩);have:=Ext.Xr hM.m4 hM.n4 hk (fun d=>by rw[<-ZY];exact E9 d);refine zq ?_;exact hQ G h' (by rw[eG,this]) x
theorem QY{t e es:Nat}(hT:fW Try.prog t e es){h:af}{b n c n2 c2:Nat}{a2:Option Addr}{cells news:List Value}(hp:I7 h es b n c cells)(hn:n<=1000)(hs:Cells h a2 n2 es news)(fz:cells.all aD=true)(rp:news.all aD=true)(um:n2<=100000){C:Option Addr->Nat->Nat->af->Prop}
  (hC:∀b' c' h',I7 h' es b' (n+n2) c' (cells++news)->h.next<=h'.next->(b'=b\/h.next<=b')->(∀j,j<h.next->j≠b->h'.m.get j=h.m.get j)->(∀h0,Ext h0 h->h0.next<=b->Ext h0 h'/\h0.next<=b')->C (some ⟨b',0,none⟩) (n+n2) c' h') :
  app [t,t] [.slice (some ⟨b,0,none⟩) n c,.slice a2 n2 c2] h C:=by
 rw[u9 hA];obtain⟨b',c',h',h1,h2,h3,h4,h5,h6⟩:=Ho hT hT.wT (c2:=c2) hp hn hs fz rp um;exact⟨_,_,_,h',h1,hC b' c' h' h2 h3 h4 h5 h6⟩
theorem Oh{h X:af}{b n c nb:Nat}{l:List Int}{v:Int}(hp:I7 h 1 b n c (l.flatMap nC))(hn:n<=1000)(eX:X=push h 1 [.int .i64 v])(FX:nb=next h){C:Option Addr->Nat->Nat->af->Prop}
  (hC:∀b' c' h',I7 h' 1 b' (n+1) c' ((l++[v]).flatMap nC)->(∀h0,Ext h0 h->h0.next<=b->Ext h0 h'/\h0.next<=b')->(∀j,j<h.next->j≠b->h'.m.get j=h.m.get j)->h.next<=h'.next->C (some ⟨b',0,none⟩) (n+1) c' h') :
  app [27,27] [.slice (some ⟨b,0,none⟩) n c,.slice (some ⟨nb,0,none⟩) 1 1] X C:=by
 rw[aV hA]at eX;rw[aW hA]at FX;subst eX FX;have xp:Ext h (h.push 1 [.int .i64 v]):=Ext.push h 1 _;have hs:Cells (h.push 1 [.int .i64 v]) (some ⟨h.next,0,none⟩) 1 1 [.int .i64 v]:=⟨rfl,by simp[af.push],(aJ.push h 1 [.int .i64 v]).aL (o:=0) (n:=1*1) (by show 0+1*1<=1;omega)⟩;have dV:=hp.lt;have nx:(h.push 1 [.int .i64 v]).next=h.next+1:=rfl;refine QY hA SU (hp.ext xp) hn hs (ph Ff l) rfl om (fun b' c' h' k1 k2 k3 k4 k5=>hC b' c' h' ?_ (fun h0 e0 hb=>k5 h0 (e0.trans xp) hb) (fun j j0 j1=>(k4 j om j1).trans (xp.get j j0)) om);rw[List.flatMap_append];exact k1
theorem QZ{h0:af}(gq:h0.low<=h0.next){m n ac:Nat}{aa:Option Addr}{gA:List Hd}{g:List (List Int)}(hM:oD g m n)(hg:rC nC 1 h0 aa m gA g){Q:Exit->SS->Prop}
  (hQ:∀(h':af) (b k c r:Nat),k=r+1->oX g m n r->I7 h' 1 b k c ((Hp g m n k).flatMap nC)->h0.next<=b->Ext h0 h'->Q (.exit 0) ⟨[(3,.slice (some ⟨b,0,none⟩) k c)],0,[],h'⟩) :
  ∀(d k b c:Nat) (K:Int) (h:af),6-k<=d->1<=k->k<=m+1->k<=n+1->K=k->(∀x,x+1<k->Ext.Dv g m n (x+1)≠0)->I7 h 1 b k c ((Hp g m n k).flatMap nC)->h0.next<=b->Ext h0 h->
   head 27 3 0 ⟨[(0,.slice aa m ac),(3,.slice (some ⟨b,0,none⟩) k c),(4,.int .i64 K)],0,[],h⟩ Q:=by
 intro d;have m4:=hM.m4;have n4:=hM.n4;have m1:=hM.m1;have n1:=hM.n1;obtain⟨M,eM⟩:∃z:Int,z=m:=⟨_,rfl⟩;have e1:ofNat m=M:=by rw[eM];exact aR hA m
 obtain⟨N,eN⟩:∃z:Int,z=n:=⟨_,rfl⟩;have e2:ofNat n=N:=by rw[eN];exact aR hA n
 obtain⟨W,eW⟩:∃z:Int,z=if N<M then N else M:=⟨_,rfl⟩
 have e3:uv M N=W:=by rw[eW,Th hA]
 have hW:W=N/\N<=M\/W=M/\M<=N:=by rw[eW];split<;>omega
 have KL:(gt g 0).length=n:=hM.row 0 om om;have row:=hg.row 0 om om;have yV:=row.len;rw[KL]at yV
 induction d with
 |zero=>intro k b c K h hd k1 km kn;omega
 |succ d ih=>
 intro k b c K h hd k1 km kn eK hz B hb x;have aq:=x.az gq;obtain⟨ab,ao,rfl,Su,q1⟩:=(hg.ext x).uR (i:=0) om om;rw[<-yV]at q1;obtain⟨ra,era⟩:∃z,z=(gt gA 0).a:=⟨_,rfl⟩;obtain⟨rc,KK⟩:∃z,z=(gt gA 0).c:=⟨_,rfl⟩;rw[<-era,<-KK]at q1;have r1:rd h ab (place ao 0 1) 1 [.slice ra n rc]:=aC hA q1;refine hA.ar Try.func27 x27.2 (zc ?_)
 (refine zq ?_;repeat ((first|rw[e1]|rw[e2]|rw[e3]);refine zq ?_))
 refine br (K<=W) (by rw[jE hA]) (fun ck=>?_) (fun ck=>?_)<;>refine zc ?_
 rotate_left
 ·exact hQ h b k c (k-1) om ⟨om,om,fun y hy=>hz y om,om⟩ B hb x
 refine zq ?_;refine Hu hA aq hM (hg.ext x) eK om (fun v h1 ev x1=>⟨v,rfl,?_⟩);refine zq ?_;refine br (v=0) (by rw[dg hA]) (fun cz=>?_) (fun cz=>?_)<;>refine zc ?_
 ·refine hQ h1 b k c (k-1) om ⟨om,om,fun y hy=>hz y om,?_⟩ (B.ext x1) hb (x.trans x1)
  rw[show k-1+1=k by omega];omega
 obtain⟨nb,FX⟩:∃z,z=next h1:=⟨_,rfl⟩;obtain⟨X,eX⟩:∃z,z=push h1 1 [.int .i64 v]:=⟨_,rfl⟩;refine zc ?_;rw[<-FX,<-eX];refine zq ?_;refine Oh hA (B.ext x1) om eX FX (fun b' c' h' B2 k2 k3 k4=>?_);obtain⟨x2,xM⟩:=k2 h0 (x.trans x1) hb;have ed:Hp g m n k++[v]=Hp g m n (k+1):=by
  unfold Hp;rw[tJ,ev]
 rw[ed]at B2;obtain⟨ZZ,ek1⟩:∃z,z=k+1:=⟨_,rfl⟩;rw[<-ek1]at B2 ⊢;refine zq ?_;rw[aF hA om om];refine ih ZZ b' c' (K+1) h' om om om om om (fun y hy=>?_) B2 xM x2;by_cases e:y+1=k
 ·rw[e];omega
 ·exact hz y om
theorem vG{h:af}(aq:h.low<=h.next){m n ac:Nat}{aa:Option Addr}{gA:List Hd}{g:List (List Int)}(hM:oD g m n)(hg:rC nC 1 h aa m gA g){Q:Value->af->Prop}
  (hQ:∀(h':af) (b k c r:Nat),k=r+1->oX g m n r->I7 h' 1 b k c ((Hp g m n k).flatMap nC)->Ext h h'->Q (.slice (some ⟨b,0,none⟩) k c) h'):call 27 [.slice aa m ac] h Q:=by
 obtain⟨nb,FX⟩:∃z,z=next h:=⟨_,rfl⟩;obtain⟨X,eX⟩:∃z,z=push h 1 [.int .i64 1]:=⟨_,rfl⟩;refine hA.aQ Try.func27 x27.2 (hA.alike _ _ _ rfl) aq (zc ?_);rw[<-FX,<-eX];refine zq ?_;rw[aV hA]at eX;rw[aW hA]at FX;have xp:Ext h X:=by rw[eX];exact Ext.push h 1 _
 have B:I7 X 1 nb 1 1 ((Hp g m n 1).flatMap nC):=by
  have:(Hp g m n 1).flatMap nC=[.int .i64 1]:=by
   unfold Hp kM;simp[List.range_succ,nC,Ext.Cs]
  rw[this,eX,FX];exact⟨aJ.push h 1 _,by simp[af.push],rfl,.inl rfl⟩
 refine QZ hA aq hM hg (fun h' b k c r ek ir B' hb x=>?_) 5 1 nb 1 1 X om om om om rfl (fun y hy=>om) B om xp;refine zq ?_;exact hQ h' b k c r ek ir B' x
theorem KN{h:af}(aq:h.low<=h.next){n d:Int}(hn:i64 n)(n0:-9223372036854775808<n)(hd:0<d){Q:Value->af->Prop}(hQ:Q (.int .i64 (n / d)) h):call 92 [.int .i64 n,.int .i64 d] h Q:=by
 unfold i64 at hn;have t0:=Int.natAbs_tdiv_le_natAbs n d;refine hA.aQ Try.func92 x92.2 (hA.alike _ _ _ rfl) aq (zc ?_);have e1:arith .quo .i64 n d=n.tdiv d:=by rw[Dw hA,wrap64 om om]
 have e2:arith .rem .i64 n d=n.tmod d:=H2 hA _ _ _;have key:=Int.mul_tdiv_add_tmod n d;have lt1:-d<n.tmod d:=Int.lt_tmod_of_pos n hd;have lt2:n.tmod d<d:=Int.tmod_lt_of_pos n hd;generalize n.tdiv d=t at *;generalize n.tmod d=s at *;have ed:=Int.mul_ediv_add_emod n d;have m0:=Int.emod_nonneg n (show d≠0 by omega);have m1:=Int.emod_lt_of_pos n hd
 (refine zq ?_;repeat ((first|rw[e1]|rw[e2]);refine zq ?_))
 refine br (s<0) (by rw[aB hA]) (fun c=>?_) (fun c=>?_)<;>refine zc ?_
 ·have e3:t-1=n / d:=by
   have w:s+d+d*(t-1)=n:=by rw[Int.mul_sub,Int.mul_one];omega
   exact((Int.ediv_emod_unique hd).2 ⟨w,om,om⟩).1.symm
  have t1:-9223372036854775808<=t-1:=om
  rw[bR hA om om,e3];exact hQ
 ·have e3:t=n / d:=((Int.ediv_emod_unique (r:=s) hd).2 ⟨om,om,om⟩).1.symm
  rw[e3];exact hQ
theorem Oi{h:af}(aq:h.low<=h.next){n d:Int}{q:Rat}(hq:hH n d q){Q:Value->af->Prop}(hQ:∀h',Ext h h'->Q (.tuple #[.int .i64 (n / d),.int .i64 0]) h'):call 77 [.agg #[.int .i64 n,.int .i64 d]] h Q:=by
 have d1:=hq.den;have n1:=hq.2.2.1;rw[<-hq.1]at n1;refine hA.aQ Try.func77 x77.2 (hA.alike _ _ _ rfl) aq (zc ?_);refine qs hA aq hq.qo hq.rB (fun e h1 k1 x1=>⟨_,rfl,?_⟩);obtain rfl:e=0:=by
  rcases k1 with ⟨q,_⟩|⟨_,w⟩
  ·exact q
  ·exact absurd hq.ok w
 refine zc ?_;refine br False (by rw[cD hA];rfl) (fun q=>q.elim) (fun _=>?_)<;>refine zc ?_;refine KN hA (x1.az aq) hq.qo om om ⟨_,rfl,?_⟩;refine zc ?_;exact hQ _ x1
theorem Q1{h0:af}(gq:h0.low<=h0.next){m n r k b c n1 c1 n2 c2:Nat}{a1 a2:Option Addr}{g:List (List Int)}(hM:oD g m n)(ir:oX g m n r)(ek:k=r+1)(B:I7 h0 1 b k c ((Hp g m n k).flatMap nC)){N:Int}(eN:N=k){Q:Exit->SS->Prop}
  (hQ:∀(h':af) qa qc kn T,nK h' 1 qa r qc ((Of g m n r).flatMap nC)->jY h0.next qa->Ext h0 h'->Q (.exit 0) ⟨[(6,.slice qa r qc)],kn,T,h'⟩) :
  ∀(d i:Nat) (K:Int) (h:af) (qa:Option Addr) (qc:Nat),r-i<=d->i<=r->K=i+1->nK h 1 qa i qc ((Of g m n i).flatMap nC)->jY h0.next qa->Ext h0 h->
   head 8 7 1 ⟨[(5,.slice (some ⟨b,0,none⟩) k c),(6,.slice qa i qc),(7,.int .i64 K)],1,[(0,[.slice a1 n1 c1,.slice a2 n2 c2])],h⟩ Q:=by
 intro d;have rm:=ir.lm;have m4:=hM.m4;have e1:ofNat k=N:=by rw[eN];exact aR hA k
 induction d with
 |zero=>
  intro i K h qa qc hd hi eK t hf x;refine hA.ar Try.func8 x8.2 (zc ?_)
  (refine zq ?_;repeat ((first|rw[e1]);refine zq ?_))
  refine br (K<N) (by rw[aB hA]) (fun q=>om) (fun _=>?_)<;>refine zc ?_;obtain rfl:i=r:=om
  exact hQ h qa qc _ _ t hf x
 |succ d ih=>
 intro i K h qa qc hd hi eK t hf x;by_cases ci:i<r
 rotate_left
 ·refine hA.ar Try.func8 x8.2 (zc ?_)
  (refine zq ?_;repeat ((first|rw[e1]);refine zq ?_))
  refine br (K<N) (by rw[aB hA]) (fun q=>om) (fun _=>?_)<;>refine zc ?_;obtain rfl:i=r:=om
  exact hQ h qa qc _ _ t hf x
 obtain⟨h9,iB⟩:∃z,z=aH h 14:=⟨_,rfl⟩;have x9:Ext h h9:=by rw[iB];exact av hA _ _
 have e9:=x.trans x9;have B9:=B.ext e9;have R9:=aJ.rows B9.own fv om B9.lt;rw[show(Hp g m n k).length=k from bP _ _]at R9;have nzx:=ir.pos (k:=i+1) om;have nzy:=ir.pos (k:=i) om;have lx:=Ext.SB hM.nine m n (i+1);have ly:=Ext.SB hM.nine m n i;have es:=KM g m n i;obtain⟨x1,QD⟩:∃z:Int,z=Ext.Dv g m n (i+1):=⟨_,rfl⟩;obtain⟨y1,Xt⟩:∃z:Int,z=Ext.Dv g m n i:=⟨_,rfl⟩;obtain⟨q,eq⟩:∃z:Int,z=((Ext.Dv g m n (i+1) / Ext.Dv g m n i:Nat):Int):=⟨_,rfl⟩;rw[<-eq]at es;have ZT:q=x1 / y1:=by rw[eq,QD,Xt];push_cast;rfl
 obtain⟨K1,eK1⟩:∃z:Int,z=K-1:=⟨_,rfl⟩;have m0:arith .sub .i64 K 1=K1:=by rw[eK1];exact bR hA om om
 have m1:arith .quo .i64 x1 y1=q:=by rw[ZT];exact sQ hA om om om
 have gx:gt (Hp g m n k) K=x1:=by
  have:=gm (fun x=>(Ext.Dv g m n x:Int)) (n:=k) (i:=i+1) om;rw[QD,eK,show((i:Int)+1)=((i+1:Nat):Int) by omega];exact this
 have gy:gt (Hp g m n k) K1=y1:=by
  have:=gm (fun x=>(Ext.Dv g m n x:Int)) (n:=k) (i:=i) om;rw[Xt,eK1,eK,show((i:Int)+1-1)=(i:Int) by omega];exact this
 obtain⟨b',o',e',_,q1⟩:=R9.at (i:=K) om om;cases e';have q1:=q1 0 1 om om;obtain⟨b',o',e',_,q2⟩:=R9.at (i:=K1) om om;cases e';have q2:=q2 0 1 om om;rw[gx]at q1;rw[gy]at q2;have r1:rd h9 b (place 0 K 1) 1 [.int .i64 x1]:=aC hA q1;have r2:rd h9 b (place 0 K1 1) 1 [.int .i64 y1]:=aC hA q2;refine hA.ar Try.func8 x8.2 (zc ?_)
 (refine zq ?_;repeat ((first|rw[e1]);refine zq ?_))
 refine br (K<N) (by rw[aB hA]) (fun _=>?_) (fun q=>om)<;>refine zc ?_;refine zq ?_;rw[<-iB]
 (refine zq ?_;repeat ((first|rw[m0]|rw[m1]);refine zq ?_))
 refine H6 hA SU fv om Ff gq x om iB (v:=q) t hf om (fun a' c' h' sI Mh x'=>?_);obtain⟨hZ,SJ⟩:∃z,z=aw (putAt h9 (bZ (next h) 11) 1 (nC q)) h':=⟨_,rfl⟩;rw[<-SJ]at sI x';have UN:hZ=aw (putAt h9 (bZ (next h) 11) 1 [.int .i64 q]) h':=SJ;rw[<-es]at sI;obtain⟨i1,NT⟩:∃z,z=i+1:=⟨_,rfl⟩;rw[<-NT]at sI ⊢;refine zc ?_;rw[<-UN];refine zq ?_;rw[aF hA om om];exact ih i1 (K+1) hZ a' c' om om om sI Mh x'
theorem Av{h:af}(aq:h.low<=h.next){m ac k bc:Nat}{aa ba:Option Addr}{gA:List Hd}{g:List (List Int)}{B:List Fc}(hg:Da nC 1 h aa m gA g)(hB:Rows fC 2 h ba k B)(hi:∀i:Int,0<=i->i<k->i64 (gt B i).n/\i64 (gt B i).d){Q:Value->af->Prop}
  (UI:∀e h',dB g B e->e≠0->Ext h h'->Q (.tuple #[.slice none 0 0,.int .i64 e]) h')
  (QV:∀h' n r qa qc,dB g B 0->oD g m n->Ext h h'->oX g m n r->nK h' 1 qa r qc ((Of g m n r).flatMap nC)->Q (.tuple #[.slice qa r qc,.int .i64 0]) h'):call 8 [.agg #[.slice aa m ac,.slice ba k bc]] h Q:=by
 refine hA.aQ Try.func8 x8.2 (hA.alike _ _ _ rfl) aq (zc ?_);refine lS hA aq hg hB hi (fun e h1 he x1=>⟨e,rfl,?_⟩);refine zq ?_;refine br (e≠0) (by rw[cD hA]) (fun c=>?_) (fun c=>?_)<;>refine zc ?_
 ·refine zq ?_
  exact UI e h1 he c x1
 obtain rfl:e=0:=om
 obtain⟨gd,nm⟩:=he.rz;obtain⟨m',n,hM⟩:=gd.mat nm;obtain rfl:m=m':=by have:=hg.len;have:=hM.len;omega
 have GJ:=hg.full (fun y y0 y1=>by rw[hM.row y y0 y1];exact hM.n1);refine zq ?_;refine vG hA (x1.az aq) hM (GJ.ext x1) (fun h2 b k2 c2 r ek ir B2 x2=>⟨_,_,_,rfl,?_⟩);obtain⟨N,eN⟩:∃z:Int,z=k2:=⟨_,rfl⟩;refine zq ?_;refine Q1 hA (x2.az (x1.az aq)) hM ir ek B2 eN (fun h' qa qc kn T t hf x=>?_) r 0 1 h2 none 0 om om rfl (.nil _ _) (.none _) (.refl _);refine zq ?_;exact QV h' n r qa qc he hM ((x1.trans x2).trans x) ir t
theorem Oj{h:af}{n k nc kc:Nat}{ba pa:Option Addr}{b p:List Int}(hb:Rows nC 1 h ba n b)(hp:Rows nC 1 h pa k p)(hk:k<=n)(k4:k<=1000){B:Nat}(hB:∀i:Nat,i<k->(gt b (i:Int)*gt p (i:Int)).natAbs<=B)(ZF:k*B<=4000000000000000000){W M:Int}(eM:M=k){Q:Exit->SS->Prop}
  (hQ:∀t kn T,t=Ext.aT (fun i=>gt b (i:Int)*gt p (i:Int)) k->t.natAbs<=k*B->Q (.exit 0) ⟨[(2,.int .i64 W),(7,.int .i64 t)],kn,T,h⟩) :
  ∀(d i:Nat) (I t:Int),k-i<=d->i<=k->I=i->t=Ext.aT (fun i=>gt b (i:Int)*gt p (i:Int)) i->t.natAbs<=i*B->
   head 62 3 0 ⟨[(0,.slice ba n nc),(2,.int .i64 W),(7,.int .i64 t),(10,.slice pa k kc),(11,.int .i64 M),(12,.int .i64 I)],0,[],h⟩ Q:=by
 refine oR (fun d ih=>?_);intro i I t hd hi eI et bt;by_cases ci:i<k
 rotate_left
 ·refine hA.ar Try.func62 x62.2 (zc ?_)
  refine br (I<M) (by rw[aB hA]) (fun q=>om) (fun _=>?_)<;>refine zc ?_;obtain rfl:i=k:=om
  exact hQ t _ _ et bt
 obtain⟨d,rfl⟩:∃k,d=k+1:=⟨d-1,om⟩
 replace ih:=ih d rfl
 obtain⟨bb,bo,rfl,_,w1⟩:=hb.at (i:=I) om om;have w1:=w1 0 1 om om;obtain⟨pb,po,rfl,_,w2⟩:=hp.at (i:=I) om om;have w2:=w2 0 1 om om;have b1:=hB i ci;obtain⟨x,ex⟩:∃s,s=gt b (i:Int):=⟨_,rfl⟩;obtain⟨y,ey⟩:∃s,s=gt p (i:Int):=⟨_,rfl⟩;rw[eI,<-ex,<-eI]at w1;rw[eI,<-ey,<-eI]at w2;rw[<-ex,<-ey]at b1;have r1:rd h bb (place bo I 1) 1 [.int .i64 x]:=aC hA w1;have r2:rd h pb (place po I 1) 1 [.int .i64 y]:=aC hA w2;have h1:(i+1)*B<=k*B:=Nat.mul_le_mul_right _ ci;rw[Nat.add_mul]at h1;obtain⟨u,eu⟩:∃s,s=x*y:=⟨_,rfl⟩;rw[<-eu]at b1;have m1:arith .mul .i64 x y=u:=by rw[eu];exact jh hA (by rw[<-eu];omega) (by rw[<-eu];omega)
 obtain⟨t2,et2⟩:∃s,s=t+u:=⟨_,rfl⟩;have m2:arith .add .i64 t u=t2:=by clear et;rw[et2];exact aF hA om om
 have bt2:t2.natAbs<=(i+1)*B:=by clear et;rw[Nat.add_mul];omega
 have et3:t2=Ext.aT (fun i=>gt b (i:Int)*gt p (i:Int)) (i+1):=by
  show t2=Ext.aT (fun i=>gt b (i:Int)*gt p (i:Int)) i+gt b (i:Int)*gt p (i:Int);rw[et2,et,eu,ex,ey]
 refine hA.ar Try.func62 x62.2 (zc ?_);refine br (I<M) (by rw[aB hA]) (fun _=>?_) (fun q=>om)<;>refine zc ?_
 (refine zq ?_;repeat ((first|rw[m1]|rw[m2]);refine zq ?_))
 rw[aF hA om om];exact ih (i+1) (I+1) t2 om om om et3 bt2
theorem CQ{h:af}(aq:h.low<=h.next){n k nc kc:Nat}{ba pa:Option Addr}{b p:List Int}(hb:Rows nC 1 h ba n b)(hp:Rows nC 1 h pa k p)(hk:k<=n)(k4:k<=1000){B:Nat}(hB:∀i:Nat,i<k->(gt b (i:Int)*gt p (i:Int)).natAbs<=B)(ZF:k*B<=4000000000000000000){W:Int}(hW:0<W)(hW2:W<=4000000000000000000){Q:Value->af->Prop}
  (hQ:∀v,v=Ext.aT (fun i=>gt b (i:Int)*gt p (i:Int)) k % W->Q (.int .i64 v) h):call 62 [.slice ba n nc,.slice pa k kc,.int .i64 W] h Q:=by
 obtain⟨M,eM⟩:∃s:Int,s=k:=⟨_,rfl⟩;have e0:ofNat k=M:=by rw[eM];exact aR hA k
 refine hA.aQ Try.func62 x62.2 (hA.alike _ _ _ rfl) aq (zc ?_)
 (refine zq ?_;repeat ((first|rw[e0]);refine zq ?_))
 refine Oj hA hb hp hk k4 hB ZF eM (fun t kn T et bt=>?_) k 0 0 0 om om rfl rfl (by show(0:Int).natAbs<=_;exact Nat.zero_le _);have d1:=Int.mul_ediv_add_emod t W;have d2:=Int.emod_nonneg t (show W≠0 by omega);have d3:=Int.emod_lt_of_pos t hW;obtain⟨q,eq⟩:∃s,s=t / W:=⟨_,rfl⟩;obtain⟨r,er⟩:∃s,s=t % W:=⟨_,rfl⟩;obtain⟨u,eu⟩:∃s,s=W*q:=⟨_,rfl⟩;rw[<-eq,<-er,<-eu]at d1;rw[<-er]at d2 d3;have hv:r=Ext.aT (fun i=>gt b (i:Int)*gt p (i:Int)) k % W:=by rw[er,et]
 have hq:=hQ r hv;clear hv et;have m1:arith .mul .i64 W q=u:=by rw[eu];exact jh hA (by rw[<-eu];omega) (by rw[<-eu];omega)
 have m2:arith .sub .i64 t u=r:=by rw[bR hA om om];omega
 refine zq ?_;refine ri hA hW om om aq (fun q' XZ=>⟨q',rfl,?_⟩);obtain rfl:q'=q:=by rw[XZ,eq]
 (refine zq ?_;repeat ((first|rw[m1]|rw[m2]);refine zq ?_))
 exact hq
theorem UO{h0:af}(gq:h0.low<=h0.next){k bc:Nat}{ba:Option Addr}{B:List Fc}(hB:Rows fC 2 h0 ba k B)(k4:k<=4)(ht:∀i:Int,0<=i->i<k->cZ (gt B i)/\(gt B i).d<=60){M:Int}(eM:M=k){Q:Exit->SS->Prop}
  (hQ:∀W h' ,sA B k W->Ext h0 h'->Q (.exit 0) ⟨[(0,.slice ba k bc),(2,.slice none 0 0),(3,.int .i64 W)],0,[],h'⟩) :
  ∀(d i:Nat) (I W:Int) (h:af),k-i<=d->i<=k->I=i->sA B i W->Ext h0 h->
   head 48 3 0 ⟨[(0,.slice ba k bc),(2,.slice none 0 0),(3,.int .i64 W),(9,.slice ba k bc),(10,.int .i64 M),(11,.int .i64 I)],0,[],h⟩ Q:=by
 refine oR (fun d ih=>?_);intro i I W h hd hi eI w x;by_cases ci:i<k
 rotate_left
 ·refine hA.ar Try.func48 x48.2 (zc ?_)
  refine br (I<M) (by rw[aB hA]) (fun q=>om) (fun _=>?_)<;>refine zc ?_;obtain rfl:i=k:=om
  exact hQ W h w x
 obtain⟨d,rfl⟩:∃k,d=k+1:=⟨d-1,om⟩
 replace ih:=ih d rfl
 obtain⟨⟨ok,n0,n1⟩,d60⟩:=ht i om om;obtain⟨bb,bo,rfl,_,w1⟩:=(hB.ext x).at (i:=I) om om;have w1:=w1 0 2 om om;obtain⟨f,ef⟩:∃f,f=gt B (i:Int):=⟨_,rfl⟩;rw[eI,<-ef,<-eI]at w1;rw[<-ef]at ok n0 n1 d60;have f1:=ok.is.den;have w2:=w.step (d:=f.d) (by rw[ef]) f1 d60;have wp:=w.pos;have wl:=w.le;have p60:(60:Nat) ^ i<=60 ^ 4:=Nat.pow_le_pow_right om om;obtain⟨fn,fd⟩:=f;simp only at *;have r1:rd h bb (place bo I 2) 2 [.int .i64 fn,.int .i64 fd]:=aC hA w1;have w2l:=w2.le;have w2p:=w2.pos;have p61:(60:Nat) ^ (i+1)<=60 ^ 4:=Nat.pow_le_pow_right om om;have gpos:0<Int.gcd W fd:=Int.gcd_pos_of_ne_zero_left fd om;refine hA.ar Try.func48 x48.2 (zc ?_);refine br (I<M) (by rw[aB hA]) (fun _=>?_) (fun q=>om)<;>refine zc ?_;refine zq ?_;refine IN hA (x.az gq) (a:=W) (b:=fd) om om (fun h' x'=>⟨_,rfl,?_⟩);obtain⟨G,eG⟩:∃s:Int,s=(Int.gcd W fd:Int):=⟨_,rfl⟩;rw[<-eG]at w2 w2l w2p ⊢;have m1:arith .quo .i64 fd G=fd / G:=sQ hA om om om;obtain⟨c,ec⟩:∃s,s=fd / G:=⟨_,rfl⟩;rw[<-ec]at w2 w2l w2p m1;obtain⟨W2,Z0⟩:∃s,s=W*c:=⟨_,rfl⟩;rw[<-Z0]at w2 w2l w2p;have m2:arith .mul .i64 W c=W2:=by rw[Z0];exact jh hA (by rw[<-Z0];omega) (by rw[<-Z0];omega)
 (refine zq ?_;repeat ((first|rw[m1]|rw[m2]);refine zq ?_))
 rw[aF hA om om];exact ih (i+1) (I+1) W2 h' om om om w2 (x.trans x')
omit hA in
theorem KO(B:List Fc)(W:Int)(k:Nat):Au B W (k+1)=Au B W k++[(gt B (k:Int)).n*(W / (gt B (k:Int)).d)]:=tJ _ _
theorem UP{h0:af}(gq:h0.low<=h0.next){k bc:Nat}{ba:Option Addr}{B:List Fc}(hB:Rows fC 2 h0 ba k B)(k4:k<=4)(ht:∀i:Int,0<=i->i<k->cZ (gt B i)/\(gt B i).d<=60){M W:Int}(eM:M=k)(w:sA B k W){Q:Exit->SS->Prop}
  (hQ:∀h' qa qc,nK h' 1 qa k qc ((Au B W k).flatMap nC)->jY h0.next qa->Ext h0 h'->Q (.exit 2) ⟨[(2,.slice qa k qc),(3,.int .i64 W)],0,[],h'⟩) :
  ∀(d i:Nat) (I:Int) (h:af) (qa:Option Addr) (qc:Nat),k-i<=d->i<=k->I=i->nK h 1 qa i qc ((Au B W i).flatMap nC)->jY h0.next qa->Ext h0 h->
   head 48 9 0 ⟨[(2,.slice qa i qc),(3,.int .i64 W),(25,.slice ba k bc),(26,.int .i64 M),(27,.int .i64 I)],0,[],h⟩ Q:=by
 refine oR (fun d ih=>?_);intro i I h qa qc hd hi eI t hf x;by_cases ci:i<k
 rotate_left
 ·refine hA.ar Try.func48 x48.2 (zc ?_)
  refine br (I<M) (by rw[aB hA]) (fun q=>om) (fun _=>?_)<;>refine zc ?_;obtain rfl:i=k:=om
  exact hQ h qa qc t hf x
 obtain⟨d,rfl⟩:∃k,d=k+1:=⟨d-1,om⟩
 replace ih:=ih d rfl
 obtain⟨⟨ok,n0,n1⟩,d60⟩:=ht i om om;obtain⟨bb,bo,rfl,_,w1⟩:=(hB.ext x).at (i:=I) om om;have w1:=w1 0 2 om om;obtain⟨pq,p0,p1,_⟩:=w.part ht ci;have es:=KO B W i;have wp:=w.pos;have wl:=w.le;have p60:(60:Nat) ^ k<=60 ^ 4:=Nat.pow_le_pow_right om om;obtain⟨f,ef⟩:∃f,f=gt B (i:Int):=⟨_,rfl⟩;rw[eI,<-ef,<-eI]at w1;rw[<-ef]at ok n0 n1 d60 es p0 p1;have f1:=ok.is.den;obtain⟨fn,fd⟩:=f;simp only at *;have r1:rd h bb (place bo I 2) 2 [.int .i64 fn,.int .i64 fd]:=aC hA w1;have m1:arith .quo .i64 W fd=W / fd:=sQ hA om om om;obtain⟨c,ec⟩:∃s,s=W / fd:=⟨_,rfl⟩;rw[<-ec]at m1 es p0 p1;obtain⟨q,eq⟩:∃s,s=fn*c:=⟨_,rfl⟩;rw[<-eq]at es p0 p1;have m2:arith .mul .i64 fn c=q:=by rw[eq];exact jh hA (by rw[<-eq];omega) (by rw[<-eq];omega)
 obtain⟨h9,iB⟩:∃z,z=aH h 11:=⟨_,rfl⟩;refine hA.ar Try.func48 x48.2 (zc ?_);refine br (I<M) (by rw[aB hA]) (fun _=>?_) (fun q=>om)<;>refine zc ?_;refine zq ?_;rw[<-iB]
 (refine zq ?_;repeat ((first|rw[m1]|rw[m2]);refine zq ?_))
 refine H6 hA SU fv om Ff gq x om iB (v:=q) t hf om (fun a' c' h' sI Mh x'=>?_);obtain⟨hZ,SJ⟩:∃z,z=aw (putAt h9 (bZ (next h) 8) 1 (nC q)) h':=⟨_,rfl⟩;rw[<-SJ]at sI x';have UN:hZ=aw (putAt h9 (bZ (next h) 8) 1 [.int .i64 q]) h':=SJ;rw[<-es]at sI;obtain⟨i1,NT⟩:∃z,z=i+1:=⟨_,rfl⟩;rw[<-NT]at sI ⊢;refine zc ?_;rw[<-UN];refine zq ?_;rw[aF hA om om];exact ih i1 (I+1) hZ a' c' om om om sI Mh x'
theorem Bh{h:af}(aq:h.low<=h.next){k bc:Nat}{ba:Option Addr}{B:List Fc}(hB:Rows fC 2 h ba k B)(k4:k<=4)(ht:∀i:Int,0<=i->i<k->cZ (gt B i)/\(gt B i).d<=60){Q:Value->af->Prop}
  (hQ:∀W h' qa qc,sA B k W->nK h' 1 qa k qc ((Au B W k).flatMap nC)->Ext h h'->Q (.tuple #[.slice qa k qc,.int .i64 W]) h'):call 48 [.slice ba k bc] h Q:=by
 obtain⟨M,eM⟩:∃s:Int,s=k:=⟨_,rfl⟩;have e0:ofNat k=M:=by rw[eM];exact aR hA k
 refine hA.aQ Try.func48 x48.2 (hA.alike _ _ _ rfl) aq (zc ?_)
 (refine zq ?_;repeat ((first|rw[e0]);refine zq ?_))
 refine UO hA aq hB k4 ht eM (fun W h1 w x=>?_) k 0 0 1 h om om rfl (sA.start B) (.refl h)
 (refine zq ?_;repeat ((first|rw[e0]);refine zq ?_))
 refine UP hA aq hB k4 ht eM w (fun h2 qa qc t hf x2=>?_) k 0 0 h1 none 0 om om rfl (.nil _ _) (.none _) x;refine zq ?_;exact hQ W h2 qa qc w t x2
