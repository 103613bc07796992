import Derived.Test.YtdpbiegfljmhmaaSmB
import Derived.Test.YtdpbiegfljmhmaaFracT
import Derived.Test.YtdpbiegfljmhmaaFracA
import Derived.Test.YtdpbiegfljmhmaaFracR
import Derived.Test.YtdpbiegfljmhmaaSymSlc
set_option linter.unusedSimpArgs false
set_option linter.unusedVariables false
namespace Go.Proofs.Ytdpbiegfljmhmaa
open Go.Sim
set_option maxRecDepth 100000
def dU:List Int->List Int->Int
 | [],[]=>0
 | [],_ :: _=>-1
 |_ :: _,[]=>1
 |a :: x,b :: y=>if a<b then -1 else if b<a then 1 else dU x y
theorem mU:∀x y:List Int,dU y x=-dU x y
 | [],[]=>rfl
 | [],_ :: _=>rfl
 |_ :: _,[]=>rfl
 |a :: x,b :: y=>by
  have:=mU x y;unfold dU;by_cases c:a<b
  ·rw[if_neg (by omega),if_pos c,if_pos c];rfl
  ·by_cases d:b<a
   ·rw[if_pos d,if_neg c,if_pos d]
   ·rw[if_neg d,if_neg c,if_neg c,if_neg d];exact this
theorem Du(x:List Int):dU x x=0:=by have:=mU x x;omega
theorem CO:∀{x y:List Int},dU x y=0->x=y
 | [],[],_=>rfl
 | [],_ :: _,h=>by simp[dU]at h
 |_ :: _,[],h=>by simp[dU]at h
 |a :: x,b :: y,h=>by
  unfold dU at h;by_cases c:a<b
  ·rw[if_pos c]at h;omega
  ·by_cases d:b<a
   ·rw[if_neg c,if_pos d]at h;omega
   ·rw[if_neg c,if_neg d]at h
    rw[show a=b by omega,CO h]
theorem uY:∀{x y z:List Int},dU x y<=0->dU y z<=0->dU x z<=0
 | [],[],[],_,_=>by simp[dU]
 | [],[],_ :: _,_,_=>by simp[dU]
 | [],_ :: _,[],_,_=>by simp[dU]
 | [],_ :: _,_ :: _,_,_=>by simp[dU]
 |_ :: _,[],_,h,_=>by simp[dU]at h
 |_ :: _,_ :: _,[],_,h=>by simp[dU]at h
 |a :: x,b :: y,c :: z,h,k=>by
  unfold dU at h k ⊢;by_cases c1:a<b
  ·by_cases c2:b<c
   ·rw[if_pos (show a<c by omega)];omega
   ·by_cases c3:c<b
    ·rw[if_neg c2,if_pos c3]at k;omega
    ·rw[if_pos (show a<c by omega)];omega
  ·by_cases c4:b<a
   ·rw[if_neg c1,if_pos c4]at h;omega
   ·rw[if_neg c1,if_neg c4]at h
    by_cases c2:b<c
    ·rw[if_pos (show a<c by omega)];omega
    ·by_cases c3:c<b
     ·rw[if_neg c2,if_pos c3]at k;omega
     ·rw[if_neg c2,if_neg c3]at k
      rw[if_neg (by omega),if_neg (by omega)];exact uY h k
namespace LL
def lt(x y:List Int):Prop:=dU x y<0
def le(x y:List Int):Prop:=¬lt y x
theorem not_lt{x y:List Int}:¬lt x y↔le y x:=Iff.rfl
theorem not_le{x y:List Int}:¬le x y↔lt y x:=by unfold le;exact Classical.not_not
theorem nG{x y:List Int}:le x y↔dU x y<=0:=by unfold le lt;rw[mU];omega
theorem le_refl{x:List Int}:le x x:=by rw[nG,Du];omega
theorem le_trans{x y z:List Int}(h:le x y)(k:le y z):le x z:=nG.2 (uY (nG.1 h) (nG.1 k))
theorem le_total{x y:List Int}:le x y\/le y x:=by rw[nG,nG,mU x y];omega
theorem le_of_lt{x y:List Int}(h:lt x y):le x y:=by rw[nG];unfold lt at h;omega
theorem le_antisymm{x y:List Int}(h:le x y)(k:le y x):x=y:=by
 rw[nG]at h k;rw[mU]at k;exact CO (by omega)
end LL
theorem bZ{x y:List Int}:dU x y<0↔LL.lt x y:=Iff.rfl
structure LE where
 hd:Hd
 row:List Int
instance:Inhabited LE:=⟨⟨⟨none,0,0⟩,[]⟩⟩
def LE.cells(x:LE):List Value:=[.slice x.hd.a x.hd.n x.hd.c]
theorem AO(x:LE):x.cells.length=1:=rfl
def LE.q(x:LE):List Int:=x.row
def fu(x y:LE):Prop:=LL.le x.q y.q
theorem dn:EH fu:=⟨fun x=>LL.le_refl,fun x y z=>LL.le_trans,fun x y=>by unfold fu;exact LL.le_total⟩
def lC(x:Int):List Value:=[.int .i64 x]
def LR(h:af)(a:Option Addr)(n:Nat)(q:List Int):Prop:=Rows lC 1 h a n q/\n<=100000
theorem LR.ext{h h':af}{a:Option Addr}{n:Nat}{q:List Int}(t:LR h a n q)(e:Ext h h'):LR h' a n q:=⟨t.1.ext e,t.2⟩
def LE.OK(h:af)(x:LE):Prop:=LR h x.hd.a x.hd.n x.row
structure aV(h0 h:af)(b n:Nat)(L:List LE):Prop where
 ext:Ext h0 h
 own:bG h b 1 (L.flatMap LE.cells)
 old:h0.next<=b
 lt:b<h.next
 len:L.length=n
 base:h0.low<=h0.next
 ok:∀i:Int,0<=i->i<n->(gt L i).OK h0
 few:n<=100000
theorem aV.more{h0 h h':af}{b n:Nat}{L:List LE}(t:aV h0 h b n L)(e:Ext h h'):aV h0 h' b n L:=
 ⟨t.ext.trans e,t.own.ext e t.lt,t.old,Nat.lt_of_lt_of_le t.lt e.next,t.len,t.base,t.ok,t.few⟩
theorem aV.read{h0 h:af}{b n:Nat}{L:List LE}(t:aV h0 h b n L){i:Int}(i0:0<=i)(i1:i<n):∃a m c y,gt L i=⟨⟨a,m,c⟩,y⟩/\LR h a m (gt L i).q/\h.readG ⟨b,0+i.toNat*1,none⟩ 1=some [.slice a m c]:=by
 have r:Rows LE.cells 1 h (some ⟨b,0,none⟩) L.length L:=bG.rows t.own AO (by omega) t.lt;obtain⟨b',o',e,_,h3⟩:=r.at i0 (by rw[t.len];exact i1);cases e;exact⟨(gt L i).hd.a,(gt L i).hd.n,(gt L i).hd.c,(gt L i).row,rfl,(t.ok i i0 i1).ext t.ext,h3 0 1 (by omega) (by omega)⟩
theorem aV.put{h0 h:af}{b n:Nat}{L:List LE}(t:aV h0 h b n L){i:Int}(i0:0<=i)(i1:i<n){x:LE}(hx:x.OK h0):∃h',h.write b (i.toNat*1) x.cells=some h'/\aV h0 h' b n (L.set i.toNat x)/\gL h h' b:=by
 obtain⟨h',w1,w2,w3⟩:=bG.setRow t.own AO (i:=i.toNat) (by have:=t.len;omega) x;refine⟨h',w1,⟨w3.ext t.ext t.old,w2,t.old,by rw[w3.next];exact t.lt,by rw[List.length_set];exact t.len,t.base,fun j j0 j1=>?_,t.few⟩,w3⟩;rw[xL L i0 j0 (by have:=t.len;omega)];split
 ·exact hx
 ·exact t.ok j j0 j1
theorem sA:∀(x y:List Int) (k:Nat),(∀j:Int,0<=j->j<k->gt x j=gt y j)->k<=x.length->k<=y.length->dU x y=dU (x.drop k) (y.drop k)
 |_,_,0,_,_,_=>rfl
 | [],_,k+1,_,h,_=>by simp at h
 |_ :: _,[],k+1,_,_,h=>by simp at h
 |a :: x,b :: y,k+1,e,h1,h2=>by
  have e0:a=b:=e 0 (by omega) (by omega);have ih:=sA x y k (fun j j0 j1=>by
   have:=e (j+1) (by omega) (by omega);unfold gt at this ⊢;rw[show(j+1).toNat=j.toNat+1 by omega]at this;exact this) (by simpa using h1) (by simpa using h2)
  subst e0;show(if a<a then -1 else if a<a then 1 else dU x y)=_;rw[if_neg (by omega),if_neg (by omega),ih];rfl
theorem sG{x:List Int}{k:Int}(k0:0<=k)(h:k<x.length):∃r,x.drop k.toNat=gt x k :: r:=by
 refine⟨x.drop (k.toNat+1),?_⟩;rw[List.drop_eq_getElem_cons (by omega)];unfold gt;rw[List.getD_eq_getElem?_getD,List.getElem?_eq_getElem (by omega)];rfl
theorem Ag:Try.prog.follows .mixedOrders=true:=by kernel_rfl
theorem KS : Try.prog.funcs.toList.all (fun fn => !(fn.name == "runtime.NumGoroutine")) = true := by kernel_rfl
theorem named(g : FuncId)(fn : Func)(h : Try.prog.funcs[g]? = some fn) : (fn.name == "runtime.NumGoroutine") = false := by
 have:=List.all_eq_true.1 KS fn (List.mem_of_getElem? (by simpa using h));simpa using this
noncomputable def JU:Code:=Try.f100.body.getD .skip
theorem sX:Try.f100.body=some JU:=by kernel_rfl
theorem vp:dB Try.prog 22 27 1:=⟨by kernel_rfl,by kernel_rfl,⟨24,by kernel_rfl,by omega⟩,⟨.slice none 0 0,by kernel_rfl,rfl⟩⟩
theorem Lu:fS Try.prog 27=some (.slice none 0 0):=by kernel_rfl
theorem uI:Try.prog.underlying 3=some (.int .i64):=by kernel_rfl
theorem oU(v:Value):∀n,aZ [v] n=List.replicate n v
 |0=>rfl
 |n+1=>by simp only[aZ,List.replicate_succ,oU v n];rfl
theorem yv{h:af}{b i n M:Nat}{J:Int}(eJ:J=M){cs:List Value}(hm:bG h b 1 cs)(hl:cs.length=n)(hi:i<n)(hM:i+M=n+1)(hn:n<=1000)(hok:cs.all aA=true) :
  bO Try.prog h [22,3] [.slice (some ⟨b,0,none⟩) i n,.int .i64 J]=some (.slice (some ⟨h.next,0,none⟩) (n+1) (ar 1 (n+1)),h.push 1 (cs.take i++List.replicate M (.slice none 0 0))):=by
 subst eJ;have hT:=vp;obtain⟨by_,hby,hby2⟩:=hT.bytes;have hs:n<aI:=by unfold aI;omega
 have hnews:gI Try.prog h 27 1 true (.int .i64 (M:Int))=some (M,List.replicate M (.slice none 0 0)):=by
  unfold gI;simp only[Lu,hby,cond_true];rw[if_pos ⟨by omega,by omega,hby2,rfl⟩];show some (_,aZ [.slice none 0 0] _)=_;rw[oU];rfl
 have hr:h.readG ⟨b,0,none⟩ i=some (cs.take i):=by rw[hm.readG (by omega)];simp
 have hall:(List.replicate M (Value.slice none 0 0)).all aA=true:=by simp[aA]
 have hall2:(cs.take i).all aA=true:=by
  rw[List.all_eq_true]at hok ⊢;exact fun v hv=>hok v (List.mem_of_mem_take hv)
 unfold bO;simp only[hT.und,hT.size,hby,uI,Lu,ct,hnews,dE hs];rw[dl (by omega),aS (show i+M<=1073741824 by omega),aS hby2];simp only[cond_false,cond_true,hr,hall,hall2,da hs,Bool.and_self,Bool.true_and,hM,List.length_replicate,Nat.mul_one,Nat.beq_refl,show(Value.slice none 0 0).cells.toList.length.beq 1=true from rfl]
theorem pH{h:af}{b o m k c ns cp:Nat}{xs l:List Value}{a:Addr}(ho:bG h b 1 xs)(hk:Nat.min ns m=k)(hr:h.readG a k=some l)(hl:l.length=k)(hox:o+k<=xs.length)(hok:l.all aA=true) :
  ∃h',pE Try.prog h [22,22] [.slice (some ⟨b,o,none⟩) m c,.slice (some a) ns cp]=some (.int .i64 (k:Nat),h')/\bG h' b 1 (xs.take o++(l++xs.drop (o+k)))/\gL h h' b:=by
 obtain⟨h',w1,w2,w3⟩:=ho.write (o:=o) (vs:=l) (by omega);rw[hl]at w2;refine⟨h',?_,w2,w3⟩;unfold pE;simp only[vp.und,vp.size,hk,Nat.mul_one,hr];unfold af.writeG;simp only[hok,cond_true,w1]
variable{F:aM}{call head arith cmp b0 bnot c0 d0 g0 m0 n0 ofNat o0 place s0 nz t0 rd wr push next u0 nat v0 w0 x0 y0 slc z0 a1 b1 d1 n1 u1 fresh lowered bump a2 d2 lt ne l2 n2 u2 yn a3 d3 l3 n3 bytes o3:_}(hA:AP F ⟨call,head,arith,cmp,b0,bnot,c0,d0,g0,m0,n0,ofNat,o0,place,s0,nz,t0,rd,wr,push,next,u0,nat,v0,w0,x0,y0,slc,z0,a1,b1,d1,n1,u1,fresh,lowered,bump,a2,d2,lt,ne,l2,n2,u2,yn,a3,d3,l3,n3,bytes,o3⟩)
include hA
theorem cW{h:af}{a:Option Addr}{n:Nat}{q:List Int}(t:LR h a n q):LR (fresh h) a n q:=t.ext (fN hA h)
theorem cF{h0 h:af}{b n:Nat}{L:List LE}(t:aV h0 h b n L){i j:Int}(i0:0<=i)(i1:i<n)(j0:0<=j)(j1:j<n){ax ay:Option Addr}{nx cx ny cy:Nat}{x2 y2:List Int}(g1:gt L i=⟨⟨ax,nx,cx⟩,x2⟩)(g2:gt L j=⟨⟨ay,ny,cy⟩,y2⟩) :
  ∃h1 h2,wr h b (place 0 i 1) [.slice ay ny cy] h1/\wr h1 b (place 0 j 1) [.slice ax nx cx] h2/\aV h0 h2 b n (cV L i j):=by
 have o1:=t.ok i i0 i1;have o2:=t.ok j j0 j1;rw[g1]at o1;rw[g2]at o2;obtain⟨h1,w1,t1,_⟩:=t.put i0 i1 (x:=⟨⟨ay,ny,cy⟩,y2⟩) o2;obtain⟨h2,w2,t2,_⟩:=t1.put j0 j1 (x:=⟨⟨ax,nx,cx⟩,x2⟩) o1;refine⟨h1,h2,pZ hA (by rw[Nat.zero_add];exact w1),pZ hA (by rw[Nat.zero_add];exact w2),?_⟩;unfold cV;rw[g1,g2];exact t2
theorem de{h0 h h':af}(hlow:h0.low<=h0.next){b n:Nat}{L:List LE}(t:aV h0 h b n L)(x:Ext (fresh h) h'):aV h0 (lowered h h') b n L:=
 t.more (bP hA (t.ext.lowOK hlow) (.refl h) x)
theorem HF{h:af}(hlow:h.low<=h.next){x y:Int}{Q:Value->af->Prop}(hQ:∀c:Int,c=(if x<y then -1 else if y<x then 1 else 0)->Q (.int .i64 c) h):call 88 [.int .i64 x,.int .i64 y] h Q:=by
 have nan:∀{z:Int} {R:Value->af->Prop},R (.bool false) h->call 111 [.int .i64 z] h R:=fun {z R} hR=>by
  refine hA.bodyR Try.func111 r111_ok (hA.alike _ _ _ rfl) hlow (zc ?_);rw[show cmp .neq z z=false by rw[bL hA];simp];exact hR
 refine hA.bodyR Try.func88 r88_ok (hA.alike _ _ _ rfl) hlow (zc ?_);refine nan ⟨_,rfl,?_⟩;refine zq ?_;refine nan ⟨_,rfl,?_⟩;refine zq ?_;refine br (x<y) (by rw[au hA]) (fun c=>?_) (fun c=>?_)<;>refine zc ?_
 ·refine zq ?_
  exact hQ _ (by rw[if_pos c])
 refine zq ?_;refine br (y<x) (by rw[dc hA]) (fun d=>?_) (fun d=>?_)<;>refine zc ?_
 ·refine zq ?_
  exact hQ _ (by rw[if_neg c,if_pos d])
 refine zq ?_;exact hQ _ (by rw[if_neg c,if_neg d])
theorem JS{h:af}(hlow:h.low<=h.next){a a':Option Addr}{n n' c c':Nat}{p q:List Int}(hp:LR h a n p)(hq:LR h a' n' q){N Z:Int}(eN:N=n)(eZ:Z=dU p q){Q:Exit->SS->Prop}
  (hret:∀env,Q .ret ⟨(4,.int .i64 Z) :: env,0,[],h⟩)
  (hend:dU p q=(if n<n' then -1 else 0)->Q (.exit 0) ⟨[(0,.slice a n c),(1,.slice a' n' c')],0,[],h⟩) :
  ∀(d k:Nat) (I:Int),n-k<=d->k<=n->k<=n'->I=k->(∀j:Int,0<=j->j<k->gt p j=gt q j)->
   head 70 2 0 ⟨[(0,.slice a n c),(1,.slice a' n' c'),(9,.slice a n c),(10,.int .i64 N),(11,.int .i64 I)],0,[],h⟩ Q:=by
 have lp:p.length=n:=hp.1.len;have lq:q.length=n':=hq.1.len;have np:=hp.2;have nq:=hq.2;have fin:∀k:Nat,n=k->k<=n'->(∀j:Int,0<=j->j<k->gt p j=gt q j)->dU p q=(if n<n' then -1 else 0):=fun k e hk hs=>by
  rw[sA p q k hs (by omega) (by omega),List.drop_eq_nil_of_le (by omega)];by_cases w:n<n'
  ·obtain⟨r,e⟩:=sG (x:=q) (k:=k) (by omega) (by omega)
   rw[Int.toNat_natCast]at e;rw[e,if_pos w];rfl
  ·rw[List.drop_eq_nil_of_le (by omega),if_neg w];rfl
 refine oD (fun d ih=>?_);intro k I hd hk hk' eI hs;by_cases ci:k<n
 rotate_left
 ·refine hA.roundR Try.func70 r70_ok (zc ?_)
  refine br (I<N) (by rw[au hA]) (fun q=>by omega) (fun _=>?_)<;>refine zc ?_;exact hend (fin k (by omega) hk' hs)
 obtain⟨d,rfl⟩:∃k,d=k+1:=⟨d-1,by omega⟩
 replace ih:=ih d rfl
 obtain⟨b,o,rfl,_,q1⟩:=hp.1.at (i:=I) (by omega) (by omega);have q2:=q1 0 1 (by omega) (by omega);obtain⟨x,ex⟩:∃z,z=gt p I:=⟨_,rfl⟩;rw[<-ex]at q2;have r1:rd h b (place o I 1) 1 [.int .i64 x]:=az hA q2;obtain⟨M,eM⟩:∃z:Int,z=n':=⟨_,rfl⟩;have e1:ofNat n'=M:=by rw[eM];exact aF hA n'
 refine hA.roundR Try.func70 r70_ok (zc ?_);refine br (I<N) (by rw[au hA]) (fun _=>?_) (fun q=>by omega)<;>refine zc ?_
 (refine zq ?_;repeat ((first|rw[e1]);refine zq ?_))
 refine br (M<=I) (by rw[bE hA]) (fun c4=>?_) (fun c4=>?_)<;>refine zc ?_
 ·refine zq ?_
  have e:dU p q=1:=by
   rw[sA p q k hs (by omega) (by omega),show q.drop k=[]from List.drop_eq_nil_of_le (by omega)];obtain⟨r,e⟩:=sG (x:=p) (k:=k) (by omega) (by omega);rw[Int.toNat_natCast]at e;rw[e];rfl
  have:=hret [];rw[eZ,e]at this;exact this
 obtain⟨b',o',rfl,_,q3⟩:=hq.1.at (i:=I) (by omega) (by omega);have q4:=q3 0 1 (by omega) (by omega);obtain⟨y,ey⟩:∃z,z=gt q I:=⟨_,rfl⟩;rw[<-ey]at q4;have r2:rd h b' (place o' I 1) 1 [.int .i64 y]:=az hA q4;refine zq ?_;refine HF hA hlow (fun u hu=>⟨_,rfl,?_⟩);refine zq ?_;have e:dU p q=if x<y then -1 else if y<x then 1 else dU (p.drop (k+1)) (q.drop (k+1)):=by
  rw[sA p q k hs (by omega) (by omega)];obtain⟨r1,e1⟩:=sG (x:=p) (k:=k) (by omega) (by omega);obtain⟨r2,e2⟩:=sG (x:=q) (k:=k) (by omega) (by omega);rw[Int.toNat_natCast,<-eI,<-ex]at e1;rw[Int.toNat_natCast,<-eI,<-ey]at e2;rw[<-List.drop_drop (l:=p),<-List.drop_drop (l:=q),e1,e2];rfl
 refine br (u≠0) (by rw[bL hA]) (fun c5=>?_) (fun c5=>?_)<;>refine zc ?_
 ·refine zq ?_
  have:=hret [(29,.int .i64 u),(8,.int .i64 u)];rw[eZ,e]at this;rw[hu]at c5 this ⊢;by_cases w:x<y
  ·simp only[if_pos w]at this ⊢;exact this
  ·simp only[if_neg w]at this c5 ⊢
   by_cases w2:y<x
   ·simp only[if_pos w2]at this ⊢;exact this
   ·rw[if_neg w2]at c5;exact absurd rfl c5
 have exy:x=y:=by
  rw[hu]at c5;by_cases w:x<y
  ·rw[if_pos w]at c5;omega
  ·rw[if_neg w]at c5
   by_cases w2:y<x
   ·rw[if_pos w2]at c5;omega
   ·omega
 refine zq ?_;rw[aB hA (by omega) (by omega)];exact ih (k+1) (I+1) (by omega) (by omega) (by omega) (by omega) (fun j j0 j1=>by
  by_cases e:j=I
  ·rw[e,<-ex,<-ey];exact exy
  ·exact hs j j0 (by omega))
theorem dH{h:af}(hlow:h.low<=h.next){a a':Option Addr}{n n' c c':Nat}{p q:List Int}(hp:LR h a n p)(hq:LR h a' n' q){Q:Value->af->Prop}
  (hQ:∀(u:Int) h',u=dU p q->Ext h h'->Q (.int .i64 u) h'):call 70 [.slice a n c,.slice a' n' c'] h Q:=by
 have lp:p.length=n:=hp.1.len;have lq:q.length=n':=hq.1.len;have np:=hp.2;have nq:=hq.2;obtain⟨N,eN⟩:∃z:Int,z=n:=⟨_,rfl⟩;have e1:ofNat n=N:=by rw[eN];exact aF hA n
 obtain⟨M,eM⟩:∃z:Int,z=n':=⟨_,rfl⟩;have e2:ofNat n'=M:=by rw[eM];exact aF hA n'
 obtain⟨Z,eZ⟩:∃z:Int,z=dU p q:=⟨_,rfl⟩;refine hA.bodyR Try.func70 r70_ok (hA.alike _ _ _ rfl) hlow (zc ?_)
 (refine zq ?_;repeat ((first|rw[e1]);refine zq ?_))
 refine JS hA hlow hp hq eN eZ (fun env=>?_) (fun e=>?_) n 0 0 (by omega) (by omega) (by omega) rfl (fun j j0 j1=>by omega)
 ·refine zq ?_
  exact hQ _ _ eZ (.refl h)
 ·(refine zq ?_;repeat ((first|rw[e1]|rw[e2]);refine zq ?_))
  refine br (N<M) (by rw[au hA]) (fun c=>?_) (fun c=>?_)<;>refine zc ?_
  ·refine zq ?_
   exact hQ _ _ (by rw[e,if_pos (by omega)]) (.refl h)
  ·refine zq ?_
   exact hQ _ _ (by rw[e,if_neg (by omega)]) (.refl h)
theorem wW{t:TypeId}{e es:Nat}(hT:dB Try.prog t e es){b o n:Nat}(hn:n<=1000000){k:IntKind}{i:Int}(i0:0<=i)(i1:i<n){C:Option Addr->Nat->Nat->Prop}
  (h:∀c',C (some ⟨b,o+i.toNat*es,none⟩) (n-i.toNat) c'):slc t (.slice (some ⟨b,o,none⟩) n (ar es n)) (some (.int k i)) none none C:=by
 by_cases c:1<=i
 ·exact JN hA hT hn c i1 (h _)
 obtain rfl:i=0:=by omega
 have e_slc:slc t (.slice (some ⟨b,o,none⟩) n (ar es n)) (some (.int k 0)) none none C = ∃a' n' c',fx Try.prog t (.slice (some ⟨b,o,none⟩) n (ar es n)) (some (.int k 0)) none none=some (.slice a' n' c')/\C a' n' c':=by have:=hA.eq;injections;subst_vars;rfl
 rw[e_slc];have h:=h (ar es n);rw[show o+(0:Int).toNat*es=o by simp,show n-(0:Int).toNat=n by simp]at h;refine⟨_,_,_,?_,h⟩;have hs:n<aI:=by unfold aI;omega
 unfold fx;simp only[hT.und,hT.size];unfold jA;simp only[fg,gq,fO,bound];rw[if_pos ⟨by omega,by omega⟩];simp only[];rw[bM hs,aS (Nat.le_refl _),bT (cS es n),iJ hs];simp
theorem Ak{t:TypeId}{e es:Nat}(hT:dB Try.prog t e es){b o n c:Nat}(ec:c=ar es n)(hn:n<=1000000){k:IntKind}{i:Int}(i0:0<=i)(i1:i<n){C:Option Addr->Nat->Nat->Prop}
  (h:∀c',C (some ⟨b,o+i.toNat*es,none⟩) (n-i.toNat) c'):slc t (.slice (some ⟨b,o,none⟩) n c) (some (.int k i)) none none C:=by
 subst ec;exact wW hA hT hn i0 i1 h
theorem DG{h0:af}(hlow:h0.low<=h0.next){b n c:Nat}{L0:List LE}{A B i:Int}(a0:0<=A)(ab:B<=n)(ai:A<i)(ib:i<B){Q:Exit->SS->Prop}
  (hQ:∀h' L kn,aV h0 h' b n L->aD A B L0 L->aC fu L A (i+1)->Q (.exit 2) ⟨[(0,.slice (some ⟨b,0,none⟩) n c),(1,.int .i64 A),(2,.int .i64 B),(3,.func (.func 70) #[] #[]),(8,.int .i64 i)],kn,[],h'⟩) :
  ∀(m:Nat) (j:Int) (h:af) (L:List LE),(j-A).toNat<=m->A<=j->j<=i->aV h0 h b n L->aD A B L0 L->mB fu L A i j->
   head 101 4 0 ⟨[(0,.slice (some ⟨b,0,none⟩) n c),(1,.int .i64 A),(2,.int .i64 B),(3,.func (.func 70) #[] #[]),(8,.int .i64 i),(9,.int .i64 j)],0,[],h⟩ Q:=by
 intro m
 induction m with
 |zero=>
  intro j h L hm j0 j1 t hp hI;obtain rfl:j=A:=by omega
  refine hA.roundR Try.func101 r101_ok (zc ?_);refine br (j<j) (by rw[dc hA]) (fun q=>by omega) (fun _=>?_)<;>refine zc ?_;exact hQ _ _ _ (t.more (aq hA _ _)) hp hI.first
 |succ m ih=>
  intro j h L hm j0 j1 t hp hI;by_cases cj:A<j
  rotate_left
  ·obtain rfl:j=A:=by omega
   refine hA.roundR Try.func101 r101_ok (zc ?_);refine br (j<j) (by rw[dc hA]) (fun q=>by omega) (fun _=>?_)<;>refine zc ?_;exact hQ _ _ _ (t.more (aq hA _ _)) hp hI.first
  have few:=t.few;have e1:arith .sub .i64 j 1=j-1:=bD hA (by omega) (by omega);obtain⟨j',hj'⟩:∃z,z=j-1:=⟨_,rfl⟩;rw[<-hj']at e1;obtain⟨h9,hh9⟩:∃z,z=bump h 17:=⟨_,rfl⟩;have x9:Ext h h9:=by rw[hh9];exact aq hA _ _
  have t9:=t.more x9;have l9:=t9.ext.lowOK hlow;obtain⟨x1x,x1y,x1z,y1,g1,f1,r1⟩:=t9.read (i:=j) (by omega) (by omega);obtain⟨x2x,x2y,x2z,y2,g2,f2,r2⟩:=t9.read (i:=j') (by omega) (by omega);have q1:=az hA r1;have q2:=az hA r2;refine hA.roundR Try.func101 r101_ok (zc ?_);refine br (A<j) (by rw[dc hA]) (fun _=>?_) (fun q=>absurd cj q)<;>refine zc ?_;rw[<-hh9]
  (refine zq ?_;repeat ((first|rw[e1]);refine zq ?_))
  refine dH hA (aw hA h9) (cW hA f1) (cW hA f2) (fun u h10 hu x10=>⟨_,rfl,?_⟩);refine zc ?_;obtain⟨h11,hh11⟩:∃z,z=lowered h9 h10:=⟨_,rfl⟩;have e11:Ext h9 h11:=by rw[hh11];exact bP hA l9 (.refl h9) x10
  have t11:=t9.more e11;rw[<-hh11];refine br (u<0) (by rw[au hA]) (fun c1=>?_) (fun c1=>?_)<;>refine zc ?_
  rotate_left
  ·refine hQ _ _ _ t11 hp (hI.stop dn cj ?_)
   rw[<-hj'];rw[hu]at c1;exact LL.not_lt.1 (fun w=>c1 (bZ.2 w))
  have w:¬fu (gt L (j-1)) (gt L j):=by
   rw[<-hj'];rw[hu]at c1;exact LL.not_le.2 (bZ.1 c1)
  obtain⟨h12,hh12⟩:∃z,z=bump h11 18:=⟨_,rfl⟩;have x12:Ext h11 h12:=by rw[hh12];exact aq hA _ _
  have t12:=t11.more x12;obtain⟨x1'x,x1'y,x1'z,y1',g1',_,r1'⟩:=t12.read (i:=j) (by omega) (by omega);obtain⟨x2'x,x2'y,x2'z,y2',g2',_,r2'⟩:=t12.read (i:=j') (by omega) (by omega);rw[g1]at g1';rw[g2]at g2';cases g1';cases g2';have q1':=az hA r1';have q2':=az hA r2';obtain⟨h13,h14,p1,p2,t14⟩:=cF hA t12 (i:=j) (j:=j') (by omega) (by omega) (by omega) (by omega) g1 g2;rw[<-hh12]
  (refine zq ?_;repeat ((first|rw[e1]);refine zq ?_))
  refine ih j' h14 _ (by omega) (by omega) (by omega) t14 (hp.trans (aD.swap L (by omega) (by rw[t.len];exact ab) (by omega) (by omega) (by omega) (by omega))) ?_;have:=hI.step dn (by omega) (by rw[t.len];omega) cj j1 w;rw[<-hj']at this;exact this
theorem Dm{h0:af}(hlow:h0.low<=h0.next){b n c:Nat}{L0:List LE}{A B:Int}(a0:0<=A)(ab:B<=n){Q:Exit->SS->Prop}
  (hQ:∀h' L e kn,aV h0 h' b n L->aD A B L0 L->aC fu L A B->Q (.exit 0) ⟨e,kn,[],h'⟩) :
  ∀(m:Nat) (i:Int) (h:af) (L:List LE),(B-i).toNat<=m->A<i->aV h0 h b n L->aD A B L0 L->aC fu L A i->
   head 101 1 0 ⟨[(0,.slice (some ⟨b,0,none⟩) n c),(1,.int .i64 A),(2,.int .i64 B),(3,.func (.func 70) #[] #[]),(8,.int .i64 i)],0,[],h⟩ Q:=by
 intro m
 induction m with
 |zero=>
  intro i h L hm i0 t hp hs;refine hA.roundR Try.func101 r101_ok (zc ?_);refine br (i<B) (by rw[au hA]) (fun q=>by omega) (fun _=>?_)<;>refine zc ?_;exact hQ _ _ _ _ t hp (fun p q p0 pq q1=>hs p q p0 pq (by omega))
 |succ m ih=>
  intro i h L hm i0 t hp hs;have few:=t.few;refine hA.roundR Try.func101 r101_ok (zc ?_);refine br (i<B) (by rw[au hA]) (fun ci=>?_) (fun _=>?_)<;>refine zc ?_
  rotate_left
  ·exact hQ _ _ _ _ t hp (fun p q p0 pq q1=>hs p q p0 pq (by omega))
  refine DG hA hlow (L0:=L0) a0 ab i0 ci (fun h' L' kn t' hp' hs'=>?_) (i-A).toNat i h L (Nat.le_refl _) (by omega) (by omega) t hp (.start hs);refine zc ?_;rw[aB hA (by omega) (by omega)];exact ih (i+1) h' L' (by omega) (by omega) t' hp' hs'
theorem tE{h0 h:af}(hlow:h0.low<=h0.next){b n c:Nat}{L:List LE}{A B:Int}(a0:0<=A)(an:A<=n)(ab:B<=n)(t:aV h0 h b n L){Q:Value->af->Prop}
  (hQ:∀h' L',aV h0 h' b n L'->aD A B L L'->aC fu L' A B->Q (.tuple #[]) h'):call 101 [.slice (some ⟨b,0,none⟩) n c,.int .i64 A,.int .i64 B,.func (.func 70) #[] #[]] h Q:=by
 have hlow':=hlow
 replace hlow:=t.ext.lowOK hlow
 have few:=t.few;refine hA.bodyR Try.func101 r101_ok (hA.alike _ _ _ rfl) hlow (zc ?_);rw[aB hA (by omega) (by omega)];refine Dm hA hlow' (L0:=L) a0 ab (fun h' L' e kn t' hp hs=>?_) (B-(A+1)).toNat (A+1) h L (Nat.le_refl _) (by omega) t (.refl _ _ _) (.one (by omega));refine zc ?_;exact hQ h' L' t' hp hs
theorem Cg{t:TypeId}{e es:Nat}(hT:dB Try.prog t e es){b o n:Nat}(hn:n<=1000000){k:IntKind}{I:Int}{i:Nat}(eI:I=i)(i1:i<n){C:Option Addr->Nat->Nat->Prop}
  (h:C (some ⟨b,o+i*es,none⟩) (n-i) (n-i)):slc t (.slice (some ⟨b,o,none⟩) n n) (some (.int k I)) none none C:=by
 subst eI;have e_slc:slc t (.slice (some ⟨b,o,none⟩) n n) (some (.int k i)) none none C = ∃a' n' c',fx Try.prog t (.slice (some ⟨b,o,none⟩) n n) (some (.int k i)) none none=some (.slice a' n' c')/\C a' n' c':=by have:=hA.eq;injections;subst_vars;rfl
 rw[e_slc];refine⟨_,_,_,?_,h⟩;have hs:n<aI:=by unfold aI;omega
 unfold fx;simp only[hT.und,hT.size];unfold jA;simp only[fg,gq,fO,bound,dE hs];rw[if_pos ⟨by omega,by omega⟩];simp only[aS (Nat.le_refl n),da hs,cond_true,Bool.true_or];rw[DB (show n≠(i:Int).toNat by omega)];rfl
set_option maxHeartbeats 1000000 in
theorem FH(hF:cU Try.prog F){h:af}(hlow:h.low=h.next){b vb n i:Nat}{I:Int}(eI:I=i){cs:List Value}{v:Value}(hb:b<h.next)(hm:bG h b 1 cs)(hl:cs.length=n)(hvb:vb<h.next)(hv:bG h vb 1 [v])(hi:i<n)(hn:n<=1000)(hok:cs.all aA=true)(hokv:aA v=true){R:Value->af->Prop}
  (hR:∀b2 h',bG h' b2 1 (cs.take i++v :: cs.drop i)->h.next<=b2->b2<h'.next->h.next<=h'.low->R (.slice (some ⟨b2,0,none⟩) (n+1) (ar 1 (n+1))) h') :
  oB wu Try.f100.ntmps JU ⟨oM [.slice (some ⟨b,0,none⟩) n n,.int .i64 I,.slice (some ⟨vb,0,none⟩) 1 1] 0 [],0,[],h⟩ (fun e s'=>(e=.normal\/e=.ret)/\∃v,lk s'.env 6=some v/\cP v=true/\R v s'.h):=by
 have run:=fun {c:Code} {s:SS} {Q:Exit->SS->Prop} (hl:be c=[]) (hr:bk c=[])=>oB.run hA.toAOK live Ag hF named Try.func100 sX (c:=c) hl hr (s:=s) (Q:=Q)
 have e1:ofNat 1=1:=aF hA 1;obtain⟨N,eN⟩:∃z:Int,z=n:=⟨_,rfl⟩;have e2:ofNat n=N:=by rw[eN];exact aF hA n
 refine run rfl rfl (zc ?_);refine Cg hA vp (by omega) eI hi ?_;refine zc ?_;rw[e1,show cmp .eql 1 0=false by rw[cJ hA];rfl];refine zc ?_;rw[e2,show cmp .eql I N=false by rw[cJ hA];simp;omega];refine zc ?_;have e3:arith .add .i64 N 1=N+1:=aB hA (by omega) (by omega);refine⟨(show lt n 9223372036854775808=(n<9223372036854775808) by have:=hA.eq;injections;subst_vars;rfl) ▸ (by omega),?_⟩;refine zc ?_;rw[e2,e3,show cmp .gtr (N+1) N=true by rw[dc hA];simp;omega];refine zc ?_;refine⟨by rw[EZ hA,dE (by unfold aI;omega)];omega,?_⟩;refine zc ?_;have e4:arith .sub .i64 (N+1) I=N+1-I:=bD hA (by omega) (by omega);rw[e3,e4];rw[oI hA];obtain⟨M,eM⟩:∃z:Int,z=N+1-I:=⟨_,rfl⟩;rw[<-eM];have en:nat I=i:=by rw[CB hA];omega
 rw[en];refine⟨_,_,_,_,yv (M:=n+1-i) (by omega) hm hl hi (by omega) hn hok,?_⟩;obtain⟨xs,exs⟩:∃z,z=cs.take i++List.replicate (n+1-i) (Value.slice none 0 0):=⟨_,rfl⟩;have hxl:xs.length=n+1:=by rw[exs];simp;omega
 have o1:bG (h.push 1 xs) h.next 1 xs:=.push _ _ _;have x1:Ext h (h.push 1 xs):=.push _ _ _;rw[<-exs];obtain⟨h1,eh1⟩:∃z,z=h.push 1 xs:=⟨_,rfl⟩;rw[<-eh1]at o1 x1 ⊢;obtain⟨q,eq⟩:∃z,z=n+1:=⟨_,rfl⟩;rw[<-eq];obtain⟨nx,enx⟩:∃z,z=h.next:=⟨_,rfl⟩;rw[<-enx]at o1 ⊢;obtain⟨cq,ecq⟩:∃z,z=ar 1 q:=⟨_,rfl⟩;rw[<-ecq];refine zc ?_;refine Ak hA vp (n:=q) ecq (by omega) (i:=I) (by omega) (by omega) (fun c'=>?_);rw[show 0+I.toNat*1=i by omega,show q-I.toNat=q-i by omega];obtain⟨m1,em1⟩:∃z,z=q-i:=⟨_,rfl⟩;rw[<-em1];refine zc ?_;rw[CD hA];have hv1:=hv.ext x1 hvb;obtain⟨h2,k1,k2,k3⟩:=pH (m:=m1) (c:=c') (cp:=1) (ns:=1) (o:=i) (k:=1) (l:=[v]) (a:=⟨vb,0,none⟩) o1 (by show min 1 m1=1;omega) (hv1.readG (o:=0) (n:=1) (by simp)) rfl (by omega) (by simp[hokv]);refine⟨_,h2,k1,?_⟩;refine zc ?_;have e5:arith .add .i64 I 1=I+1:=aB hA (by omega) (by omega);rw[e5];refine Ak hA vp (n:=q) ecq (by omega) (i:=I+1) (by omega) (by omega) (fun c2=>?_);rw[show 0+(I+1).toNat*1=i+1 by omega,show q-(I+1).toNat=n-i by omega];obtain⟨m2,em2⟩:∃z,z=n-i:=⟨_,rfl⟩;obtain⟨i1,ei1⟩:∃z,z=i+1:=⟨_,rfl⟩;rw[<-em2,<-ei1];refine zc ?_;refine Cg hA vp (by omega) eI hi ?_;rw[show 0+i*1=i by omega,<-em2];refine zc ?_;rw[CD hA,fM hA,iY hA];have hm2:bG (h2.bump 9).freshed b 1 cs:=k3.own (hm.ext x1 hb) (by omega);have o2:bG (h2.bump 9).freshed nx 1 (xs.take i++([v]++xs.drop (i+1))):=k2;obtain⟨h3,p1,p2,p3⟩:=pH (m:=m2) (c:=c2) (cp:=m2) (ns:=m2) (o:=i1) (k:=m2) (l:=cs.drop i) (a:=⟨b,i,none⟩) o2 (Nat.min_self _) (by rw[hm2.readG (by omega),List.take_of_length_le (by simp;omega)]) (by simp;omega) (by simp;omega) (by rw[List.all_eq_true]at hok ⊢;exact fun v hv=>hok v (List.mem_of_mem_drop hv));refine⟨_,h3,p1,?_⟩;obtain⟨k,ek⟩:∃z:Int,z=m2:=⟨_,rfl⟩;rw[<-ek];refine zc ?_;refine⟨.inr trivial,_,rfl,rfl,?_⟩;rw[ecq,eq];have hxt:xs.take i=cs.take i:=by rw[exs,List.take_append_of_le_length (by simp;omega),List.take_take,Nat.min_self]
 have hys:(xs.take i++([v]++xs.drop (i+1))).take i1++(cs.drop i++(xs.take i++([v]++xs.drop (i+1))).drop (i1+m2))=cs.take i++v :: cs.drop i:=by
  have z1:(xs.take i++([v]++xs.drop (i+1))).drop (i1+m2)=[]:=List.drop_eq_nil_of_le (by simp[hxl];omega);have z2:(xs.take i++([v]++xs.drop (i+1))).take i1=cs.take i++[v]:=by
   rw[<-List.append_assoc,List.take_append_of_le_length (by simp[hxl];omega),List.take_of_length_le (by simp[hxl];omega),hxt]
  rw[z1,z2];simp
 rw[hys]at p2;refine hR nx _ ?_ (by omega) ?_ ?_
 ·rw[cT hA];exact p2
 ·rw[cT hA]
  show nx<h3.next;rw[p3.next];show nx<h2.next+9;rw[k3.next,eh1];show nx<h.next+1+9;omega
 ·rw[cT hA]
  show h.next<=Nat.min h2.low h3.low;have q1:h.next<=h2.low:=by rw[k3.low,eh1];show h.next<=Nat.min h.low nx;exact Nat.le_min.2 ⟨by omega,by omega⟩
  have q2:h.next<=h3.low:=by
   rw[p3.low];show h.next<=Nat.min (h2.next+9) nx;have:h2.next=h.next+1:=by rw[k3.next,eh1];rfl
   exact Nat.le_min.2 ⟨by omega,by omega⟩
  exact Nat.le_min.2 ⟨q1,q2⟩
theorem qi{t:TypeId}{e es:Nat}(hT:dB Try.prog t e es){b o n m c:Nat}(ec:c=ar es m)(hn:m<=1000000)(hnm:n<=m){k:IntKind}{I:Int}{i:Nat}(eI:I=i)(i1:i<n){C:Option Addr->Nat->Nat->Prop}
  (h:∀c',C (some ⟨b,o+i*es,none⟩) (n-i) c'):slc t (.slice (some ⟨b,o,none⟩) n c) (some (.int k I)) none none C:=by
 subst eI;subst ec;have e_slc:slc t (.slice (some ⟨b,o,none⟩) n (ar es m)) (some (.int k i)) none none C = ∃a' n' c',fx Try.prog t (.slice (some ⟨b,o,none⟩) n (ar es m)) (some (.int k i)) none none=some (.slice a' n' c')/\C a' n' c':=by have:=hA.eq;injections;subst_vars;rfl
 rw[e_slc];have hs:m<aI:=by unfold aI;omega
 by_cases c:i=0
 ·subst c
  have h:=h (ar es m);rw[show o+0*es=o by simp,Nat.sub_zero]at h;refine⟨_,_,_,?_,h⟩;unfold fx;simp only[hT.und,hT.size];unfold jA;simp only[fg,gq,fO,bound,bM hs];rw[if_pos ⟨by omega,by omega⟩];simp only[aS hnm,bT (cS es m),cond_true,cond_false,Option.isSome_none,Bool.or_false];rfl
 ·refine⟨_,_,_,?_,h (ar es (m-i))⟩
  unfold fx;simp only[hT.und,hT.size];unfold jA;simp only[fg,gq,fO,bound,bM hs];rw[if_pos ⟨by omega,by omega⟩];simp only[aS hnm,bT (cS es m),cond_true,cond_false,Option.isSome_none,Bool.or_false,iJ hs];rw[DB (show(i:Int).toNat≠0 by omega),da (show(i:Int).toNat<m by omega)];simp[dP]
set_option maxHeartbeats 1000000 in
theorem Fm(hF:cU Try.prog F)(hov:∀a b h',iA a b=some h'->F 118 a b=some h'){h:af}(hlow:h.low=h.next){b vb n i:Nat}{I:Int}(eI:I=i){cs:List Value}{v:Value}(hb:b<h.next)(hm:bG h b 1 (cs++[.chan none]))(hl:cs.length=n)(hvb:vb<h.next)(hne:b≠vb)(hv:bG h vb 1 [v])(hi:i<n)(hn:n<=1000)(hok:cs.all aA=true)(hokv:aA v=true){R:Value->af->Prop}
  (hR:∀h',bG h' b 1 (cs.take i++v :: cs.drop i)->h.next<=h'.next->(∀k,k≠b->h'.m.get k=h.m.get k)->b<=h'.low->R (.slice (some ⟨b,0,none⟩) (n+1) (ar 1 (n+1))) h') :
  oB wu Try.f100.ntmps JU ⟨oM [.slice (some ⟨b,0,none⟩) n (ar 1 (n+1)),.int .i64 I,.slice (some ⟨vb,0,none⟩) 1 1] 0 [],0,[],h⟩ (fun e s'=>(e=.normal\/e=.ret)/\∃v,lk s'.env 6=some v/\cP v=true/\R v s'.h):=by
 have run:=fun {c:Code} {s:SS} {Q:Exit->SS->Prop} (hl:be c=[]) (hr:bk c=[])=>oB.run hA.toAOK live Ag hF named Try.func100 sX (c:=c) hl hr (s:=s) (Q:=Q)
 have e1:ofNat 1=1:=aF hA 1;obtain⟨N,eN⟩:∃z:Int,z=n:=⟨_,rfl⟩;have e2:ofNat n=N:=by rw[eN];exact aF hA n
 obtain⟨q,eq⟩:∃z,z=n+1:=⟨_,rfl⟩;obtain⟨cq,ecq⟩:∃z,z=ar 1 q:=⟨_,rfl⟩;rw[<-eq,<-ecq];refine oB.seq (run rfl rfl (zc ?_));refine oB.seq (run rfl rfl (zc ?_));refine qi hA vp (m:=q) ecq (by omega) (by omega) eI hi (fun c'=>?_);refine zc ?_;refine oB.seq (run rfl rfl (zc ?_));rw[e1];refine oB.seq (run rfl rfl (zc ?_));rw[show cmp .eql 1 0=false by rw[cJ hA];rfl];refine zc ?_;refine oB.seq (run rfl rfl (zc ?_));rw[e2];refine oB.seq (run rfl rfl (zc ?_));rw[show cmp .eql I N=false by rw[cJ hA];simp;omega];refine zc ?_;refine oB.lessE (env0:=[(0,.slice (some ⟨b,0,none⟩) n cq),(1,.int .i64 I),(2,.slice (some ⟨vb,0,none⟩) 1 1),(7,.int .i64 1),(8,.int .i64 N)]) (fun p hp=>?_) ?_
 ·simp only[List.mem_cons,List.not_mem_nil,or_false]at hp
  rcases hp with rfl|rfl|rfl|rfl|rfl<;>rfl
 refine oB.seq (oB.seq (oB.room (n:=n) (b:=b) (off:=0) (k:=cq) (by decide) rfl rfl rfl rfl rfl rfl rfl rfl rfl rfl rfl rfl rfl rfl rfl rfl rfl rfl rfl vp.und (by rw[eN];rfl) rfl rfl (fun p hp=>?_) hn (by rw[ecq,bM (by unfold aI;omega)];omega) ?_))
 ·simp only[List.mem_cons,List.not_mem_nil,or_false]at hp
  rcases hp with rfl|rfl|rfl|rfl|rfl<;>simp
 refine run rfl rfl (zc ?_);refine run rfl rfl (zc ?_);have e3:arith .add .i64 N 1=q:=by rw[aB hA (by omega) (by omega)];omega
 rw[e3];obtain⟨qI,eqI⟩:∃z:Int,z=q:=⟨_,rfl⟩;rw[<-eqI];refine⟨by rw[EZ hA,ecq,bM (by unfold aI;omega)];omega,?_⟩;refine zc ?_;rw[show nat qI=q by rw[CB hA];omega];have e5:arith .add .i64 I 1=I+1:=aB hA (by omega) (by omega);rw[e5];obtain⟨I1,eI1⟩:∃z:Int,z=I+1:=⟨_,rfl⟩;rw[<-eI1];refine qi hA vp (n:=q) (m:=q) ecq (by omega) (by omega) (i:=i+1) (by omega) (by omega) (fun c2=>?_);rw[show 0+(i+1)*1=i+1 by omega,show q-(i+1)=n-i by omega];obtain⟨m2,em2⟩:∃z,z=n-i:=⟨_,rfl⟩;obtain⟨i1,ei1⟩:∃z,z=i+1:=⟨_,rfl⟩;rw[<-em2,<-ei1];refine zc ?_;have ov:F 118 [.slice (some ⟨vb,0,none⟩) 1 1,.slice (some ⟨b,i1,none⟩) m2 c2] h=some (.bool false,h):=by
  refine hov _ _ _ ?_;unfold iA;have q1:h.m.get vb=some (.live true 1 [v]):=hv;obtain⟨z,zs,hz⟩:∃z zs,cs++[.chan none]=z :: zs:=by
   cases cs with
   |nil=>exact⟨_,_,rfl⟩
   |cons z zs=>exact⟨_,_,rfl⟩
  have q2:h.m.get b=some (.live true 1 (z :: zs)):=by rw[<-hz];exact hm
  simp only[q1,q2];rw[DB (fun e=>hne e.symm)];rfl
 refine hA.prim ov ?_;refine⟨false,rfl,?_⟩;refine zc ?_;rw[show bnot false=true by rw[cI hA];rfl];refine zc ?_;rw[e5,<-eI1];refine qi hA vp (n:=q) (m:=q) ecq (by omega) (by omega) (i:=i1) (by omega) (by omega) (fun c3=>?_);rw[show 0+i1*1=i1 by omega,show q-i1=m2 by omega];refine zc ?_;refine qi hA vp (n:=q) (m:=q) ecq (by omega) (by omega) (i:=i) eI (by omega) (fun c4=>?_);obtain⟨m3,em3⟩:∃z,z=q-i:=⟨_,rfl⟩;rw[show 0+i*1=i by omega,<-em3];refine zc ?_;have al:∀l:List Value,(∀v∈l,v∈cs)->l.all aA=true:=fun l q=>by rw[List.all_eq_true]at hok ⊢;exact fun v hv=>hok v (q v hv)
 rw[CD hA,fM hA,iY hA];have hm2:bG (h.bump 9).freshed b 1 (cs++[.chan none]):=hm;have hrd:(cs++[Value.chan none]).length=n+1:=by simp[hl]
 obtain⟨h3,p1,p2,p3⟩:=pH (m:=m2) (c:=c3) (cp:=c4) (ns:=m3) (o:=i1) (k:=m2) (l:=cs.drop i) (a:=⟨b,i,none⟩) hm2 (by show min m3 m2=m2;omega) (by rw[hm2.readG (by omega),List.drop_append_of_le_length (by omega),List.take_append_of_le_length (by simp;omega),List.take_of_length_le (by simp;omega)]) (by simp;omega) (by omega) (al _ (fun v hv=>List.mem_of_mem_drop hv));refine⟨_,h3,p1,?_⟩;obtain⟨k,ek⟩:∃z:Int,z=m2:=⟨_,rfl⟩;rw[<-ek];obtain⟨ys,eys⟩:∃z,z=(cs++[Value.chan none]).take i1++(cs.drop i++(cs++[Value.chan none]).drop (i1+m2)):=⟨_,rfl⟩;rw[<-eys]at p2;have yl:ys.length=n+1:=by rw[eys];simp;omega
 refine zc ?_;rw[cT hA];generalize eh4:h3.lowered _=h4;have o4:bG h4 b 1 ys:=by rw[<-eh4];exact p2
 have n4:h4.next=h.next+9:=by rw[<-eh4];show h3.next=_;rw[p3.next];rfl
 have g4:∀k,k≠b->h4.m.get k=h.m.get k:=fun k hk=>by rw[<-eh4];exact p3.get k hk
 have l4:b<=h4.low:=by
  rw[<-eh4];show b<=Nat.min h.low h3.low;rw[p3.low];show b<=Nat.min h.low (Nat.min (h.next+9) b);exact Nat.le_min.2 ⟨by omega,Nat.le_min.2 ⟨by omega,Nat.le_refl _⟩⟩
 refine qi hA vp (n:=q) (m:=q) ecq (by omega) (by omega) (i:=i) eI (by omega) (fun c5=>?_);rw[show 0+i*1=i by omega,<-em3];refine zc ?_;rw[CD hA];obtain⟨h5,r1,r2,r3⟩:=pH (m:=m3) (c:=c5) (cp:=1) (ns:=1) (o:=i) (k:=1) (l:=[v]) (a:=⟨vb,0,none⟩) o4 (by show min 1 m3=1;omega) ((hv.of_get (g4 vb (fun e=>hne e.symm))).readG (o:=0) (n:=1) (by simp)) rfl (by omega) (by simp[hokv]);refine⟨_,h5,r1,?_⟩;refine zc ?_;refine⟨.inr trivial,_,rfl,rfl,?_⟩;rw[ecq,eq];have hxt:ys.take i=cs.take i:=by rw[eys,List.take_append_of_le_length (by simp;omega),List.take_take,Nat.min_eq_left (by omega),List.take_append_of_le_length (by omega)]
 have hyd:ys.drop (i+1)=cs.drop i:=by
  have z1:(cs++[Value.chan none]).drop (i1+m2)=[]:=List.drop_eq_nil_of_le (by simp;omega);rw[eys,z1,List.append_nil,List.drop_append_of_le_length (by simp;omega),List.drop_eq_nil_of_le (by simp;omega),List.nil_append]
 rw[hxt,hyd]at r2;refine hR h5 r2 (by rw[r3.next,n4];omega) (fun k hk=>by rw[r3.get k hk,g4 k hk]) ?_;rw[r3.low];exact Nat.le_min.2 ⟨l4,Nat.le_refl _⟩
set_option maxHeartbeats 4000000 in
theorem DL{h0:af}(hlow:h0.low<=h0.next){b n c':Nat}{L0:List LE}{f lo hi:Int}(f0:0<=f)(l0:0<=lo)(hn:f+hi<=n){Q:Exit->SS->Prop}
  (hQ:∀h' L x e kn,(x=.exit 0\/x=.ret)->aV h0 h' b n L->aD f (f+hi) L0 L->kx fu L f lo hi->Q x ⟨e,kn,[],h'⟩) :
  ∀(m:Nat) (r:Int) (h:af) (L:List LE),(hi-r).toNat<=m->lo<=r->r<=100000->aV h0 h b n L->aD f (f+hi) L0 L->mu fu L f lo hi r->
   head 120 1 0 ⟨[(0,.slice (some ⟨b,0,none⟩) n c'),(2,.int .i64 hi),(3,.int .i64 f),(4,.func (.func 70) #[] #[]),(10,.int .i64 r)],0,[],h⟩ Q:=by
 intro m
 induction m with
 |zero=>
  intro r h L hm r0 r1 t hp hX;have few:=t.few;have e1:arith .mul .i64 2 r=2*r:=iq hA (by omega) (by omega);obtain⟨c,hc⟩:∃z,z=2*r+1:=⟨_,rfl⟩;have e2:arith .add .i64 (2*r) 1=c:=by rw[hc];exact aB hA (by omega) (by omega)
  refine hA.roundR Try.func120 r120_ok (zc ?_);rw[e1,e2];refine br (hi<=c) (by rw[bE hA]) (fun _=>?_) (fun q=>by omega)<;>refine zc ?_;exact hQ _ L _ _ _ (.inl rfl) t hp (hX.leaf (by omega))
 |succ m ih=>
  intro r h L hm r0 r1 t hp hX;have few:=t.few;have e1:arith .mul .i64 2 r=2*r:=iq hA (by omega) (by omega);obtain⟨k,hk⟩:∃z,z=2*r+1:=⟨_,rfl⟩;have e2:arith .add .i64 (2*r) 1=k:=by rw[hk];exact aB hA (by omega) (by omega)
  refine hA.roundR Try.func120 r120_ok (zc ?_);rw[e1,e2];refine br (hi<=k) (by rw[bE hA]) (fun _=>?_) (fun ck=>?_)<;>refine zc ?_
  ·exact hQ _ L _ _ _ (.inl rfl) t hp (hX.leaf (by omega))
  obtain⟨k1,hk1⟩:∃z,z=k+1:=⟨_,rfl⟩;have e3:arith .add .i64 k 1=k1:=by rw[hk1];exact aB hA (by omega) (by omega)
  rw[e3];refine br (k1<hi) (by rw[au hA]) (fun ck1=>?_) (fun ck1=>?_)<;>refine zc ?_
  rotate_left
  ·obtain⟨hT,hhT⟩:∃z,z=bump h 22:=⟨_,rfl⟩
   have tT:=t.more (show Ext h hT by rw[hhT];exact aq hA _ _);rw[<-hhT];obtain⟨c,hcd⟩:∃z,z=k:=⟨_,rfl⟩;rw[<-hcd];have hcc:c=2*r+1\/c=2*r+2:=by omega
   have hch:c<hi:=by omega
   have hc:∀k:Int,0<k->k<hi->qV k=r->fu (gt L (f+k)) (gt L (f+c)):=fun k' k0 k1' k2=>by
    have:=wU k2 k0;rw[show k'=c by omega];exact dn.refl _
   have efr:arith .add .i64 f r=f+r:=aB hA (by omega) (by omega);have efc:arith .add .i64 f c=f+c:=aB hA (by omega) (by omega);obtain⟨fr,hfr⟩:∃z,z=f+r:=⟨_,rfl⟩;obtain⟨fc,hfc⟩:∃z,z=f+c:=⟨_,rfl⟩;rw[<-hfr]at efr;rw[<-hfc]at efc;obtain⟨h3,hh3⟩:∃z,z=bump hT 16:=⟨_,rfl⟩;have x3:Ext hT h3:=by rw[hh3];exact aq hA _ _
   have t3:=tT.more x3;obtain⟨a3x,a3y,a3z,b3,g3,f3,r3⟩:=t3.read (i:=fr) (by omega) (by omega);obtain⟨a3'x,a3'y,a3'z,b3',g3',f3',r3'⟩:=t3.read (i:=fc) (by omega) (by omega);have q3:=az hA r3;have q3':=az hA r3';rw[<-hh3]
   (refine zq ?_;repeat ((first|rw[efr]|rw[efc]);refine zq ?_))
   refine dH hA (aw hA h3) (cW hA f3) (cW hA f3') (fun v h3a hv x3a=>⟨_,rfl,?_⟩);have t3b:=de hA hlow t3 x3a;refine zc ?_;generalize lowered h3 h3a=h3b at *;refine br (0<=v) (by rw[cI hA,au hA];by_cases z:v<0<;>simp[z]<;>omega) (fun cv=>?_) (fun cv=>?_)<;>refine zc ?_
   ·refine hQ _ L _ _ _ (.inr rfl) t3b hp (hX.stop dn hc ?_)
    rw[hv]at cv;rw[<-hfr,<-hfc];exact LL.not_lt.1 (fun w=>by have:=bZ.2 w;omega)
   have w:fu (gt L (f+r)) (gt L (f+c)):=by
    rw[hv]at cv;rw[<-hfr,<-hfc];exact LL.le_of_lt (bZ.1 (by omega))
   obtain⟨h4,hh4⟩:∃z,z=bump h3b 24:=⟨_,rfl⟩;have x4:Ext h3b h4:=by rw[hh4];exact aq hA _ _
   have t4:=t3b.more x4;obtain⟨a4x,a4y,a4z,b4,g4,f4,r4⟩:=t4.read (i:=fr) (by omega) (by omega);obtain⟨a4'x,a4'y,a4'z,b4',g4',f4',r4'⟩:=t4.read (i:=fc) (by omega) (by omega);have q4:=az hA r4;have q4':=az hA r4';rw[<-hh4];obtain⟨h4c,h4d,p4,p4',t4d⟩:=cF hA t4 (i:=fr) (j:=fc) (by omega) (by omega) (by omega) (by omega) g4 g4'
   (refine zq ?_;repeat ((first|rw[efr]|rw[efc]);refine zq ?_))
   refine ih c h4d _ (by omega) (by omega) (by omega) t4d (hp.trans (aD.swap L (by omega) (by have:=t.len;omega) (by omega) (by omega) (by omega) (by omega))) ?_;rw[hfr,hfc];exact hX.step dn (by omega) l0 (by have:=t.len;omega) r0 hcc hch hc w
  have efk:arith .add .i64 f k=f+k:=aB hA (by omega) (by omega);obtain⟨fk,hfk⟩:∃z,z=f+k:=⟨_,rfl⟩;rw[<-hfk]at efk;obtain⟨fk1,hfk1⟩:∃z,z=fk+1:=⟨_,rfl⟩;have efk1:arith .add .i64 fk 1=fk1:=by rw[hfk1];exact aB hA (by omega) (by omega)
  obtain⟨h2,hh2⟩:∃z,z=bump h 22:=⟨_,rfl⟩;have x2:Ext h h2:=by rw[hh2];exact aq hA _ _
  have t2:=t.more x2;obtain⟨a2x,a2y,a2z,b2,g2,f2,r2⟩:=t2.read (i:=fk) (by omega) (by omega);obtain⟨a2'x,a2'y,a2'z,b2',g2',f2',r2'⟩:=t2.read (i:=fk1) (by omega) (by omega);have q2:=az hA r2;have q2':=az hA r2';rw[<-hh2]
  (refine zq ?_;repeat ((first|rw[efk]|rw[efk1]);refine zq ?_))
  refine dH hA (aw hA h2) (cW hA f2) (cW hA f2') (fun u h2a hu x2a=>⟨_,rfl,?_⟩);have t2b:=de hA hlow t2 x2a;refine zc ?_;generalize lowered h2 h2a=h2b at *;have tT:=t2b;generalize h2b=hT at *;refine br (u<0) (by rw[au hA]) (fun cu=>?_) (fun cu=>?_)<;>refine zc ?_
  ·rw[hu]at cu
   rw[e3];obtain⟨c,hcd⟩:∃z,z=k1:=⟨_,rfl⟩;rw[<-hcd];have hcc:c=2*r+1\/c=2*r+2:=by omega
   have hch:c<hi:=by omega
   have hc:∀k:Int,0<k->k<hi->qV k=r->fu (gt L (f+k)) (gt L (f+c)):=fun k' k0 k1' k2=>by
    rcases wU k2 k0 with e|e
    ·rw[show f+k'=fk by omega,show f+c=fk1 by omega]
     exact LL.le_of_lt (bZ.1 cu)
    ·rw[show k'=c by omega]
     exact dn.refl _
   have efr:arith .add .i64 f r=f+r:=aB hA (by omega) (by omega);have efc:arith .add .i64 f c=f+c:=aB hA (by omega) (by omega);obtain⟨fr,hfr⟩:∃z,z=f+r:=⟨_,rfl⟩;obtain⟨fc,hfc⟩:∃z,z=f+c:=⟨_,rfl⟩;rw[<-hfr]at efr;rw[<-hfc]at efc;obtain⟨h3,hh3⟩:∃z,z=bump hT 16:=⟨_,rfl⟩;have x3:Ext hT h3:=by rw[hh3];exact aq hA _ _
   have t3:=tT.more x3;obtain⟨a3x,a3y,a3z,b3,g3,f3,r3⟩:=t3.read (i:=fr) (by omega) (by omega);obtain⟨a3'x,a3'y,a3'z,b3',g3',f3',r3'⟩:=t3.read (i:=fc) (by omega) (by omega);have q3:=az hA r3;have q3':=az hA r3';rw[<-hh3]
   (refine zq ?_;repeat ((first|rw[efr]|rw[efc]);refine zq ?_))
   refine dH hA (aw hA h3) (cW hA f3) (cW hA f3') (fun v h3a hv x3a=>⟨_,rfl,?_⟩);have t3b:=de hA hlow t3 x3a;refine zc ?_;generalize lowered h3 h3a=h3b at *;refine br (0<=v) (by rw[cI hA,au hA];by_cases z:v<0<;>simp[z]<;>omega) (fun cv=>?_) (fun cv=>?_)<;>refine zc ?_
   ·refine hQ _ L _ _ _ (.inr rfl) t3b hp (hX.stop dn hc ?_)
    rw[hv]at cv;rw[<-hfr,<-hfc];exact LL.not_lt.1 (fun w=>by have:=bZ.2 w;omega)
   have w:fu (gt L (f+r)) (gt L (f+c)):=by
    rw[hv]at cv;rw[<-hfr,<-hfc];exact LL.le_of_lt (bZ.1 (by omega))
   obtain⟨h4,hh4⟩:∃z,z=bump h3b 24:=⟨_,rfl⟩;have x4:Ext h3b h4:=by rw[hh4];exact aq hA _ _
   have t4:=t3b.more x4;obtain⟨a4x,a4y,a4z,b4,g4,f4,r4⟩:=t4.read (i:=fr) (by omega) (by omega);obtain⟨a4'x,a4'y,a4'z,b4',g4',f4',r4'⟩:=t4.read (i:=fc) (by omega) (by omega);have q4:=az hA r4;have q4':=az hA r4';rw[<-hh4];obtain⟨h4c,h4d,p4,p4',t4d⟩:=cF hA t4 (i:=fr) (j:=fc) (by omega) (by omega) (by omega) (by omega) g4 g4'
   (refine zq ?_;repeat ((first|rw[efr]|rw[efc]);refine zq ?_))
   refine ih c h4d _ (by omega) (by omega) (by omega) t4d (hp.trans (aD.swap L (by omega) (by have:=t.len;omega) (by omega) (by omega) (by omega) (by omega))) ?_;rw[hfr,hfc];exact hX.step dn (by omega) l0 (by have:=t.len;omega) r0 hcc hch hc w
  ·rw[hu]at cu
   obtain⟨c,hcd⟩:∃z,z=k:=⟨_,rfl⟩;rw[<-hcd];have hcc:c=2*r+1\/c=2*r+2:=by omega
   have hch:c<hi:=by omega
   have hc:∀k:Int,0<k->k<hi->qV k=r->fu (gt L (f+k)) (gt L (f+c)):=fun k' k0 k1' k2=>by
    rcases wU k2 k0 with e|e
    ·rw[show k'=c by omega]
     exact dn.refl _
    ·rw[show f+k'=fk1 by omega,show f+c=fk by omega]
     exact LL.not_lt.1 (fun w=>cu (bZ.2 w))
   have efr:arith .add .i64 f r=f+r:=aB hA (by omega) (by omega);have efc:arith .add .i64 f c=f+c:=aB hA (by omega) (by omega);obtain⟨fr,hfr⟩:∃z,z=f+r:=⟨_,rfl⟩;obtain⟨fc,hfc⟩:∃z,z=f+c:=⟨_,rfl⟩;rw[<-hfr]at efr;rw[<-hfc]at efc;obtain⟨h3,hh3⟩:∃z,z=bump hT 16:=⟨_,rfl⟩;have x3:Ext hT h3:=by rw[hh3];exact aq hA _ _
   have t3:=tT.more x3;obtain⟨a3x,a3y,a3z,b3,g3,f3,r3⟩:=t3.read (i:=fr) (by omega) (by omega);obtain⟨a3'x,a3'y,a3'z,b3',g3',f3',r3'⟩:=t3.read (i:=fc) (by omega) (by omega);have q3:=az hA r3;have q3':=az hA r3';rw[<-hh3]
   (refine zq ?_;repeat ((first|rw[efr]|rw[efc]);refine zq ?_))
   refine dH hA (aw hA h3) (cW hA f3) (cW hA f3') (fun v h3a hv x3a=>⟨_,rfl,?_⟩);have t3b:=de hA hlow t3 x3a;refine zc ?_;generalize lowered h3 h3a=h3b at *;refine br (0<=v) (by rw[cI hA,au hA];by_cases z:v<0<;>simp[z]<;>omega) (fun cv=>?_) (fun cv=>?_)<;>refine zc ?_
   ·refine hQ _ L _ _ _ (.inr rfl) t3b hp (hX.stop dn hc ?_)
    rw[hv]at cv;rw[<-hfr,<-hfc];exact LL.not_lt.1 (fun w=>by have:=bZ.2 w;omega)
   have w:fu (gt L (f+r)) (gt L (f+c)):=by
    rw[hv]at cv;rw[<-hfr,<-hfc];exact LL.le_of_lt (bZ.1 (by omega))
   obtain⟨h4,hh4⟩:∃z,z=bump h3b 24:=⟨_,rfl⟩;have x4:Ext h3b h4:=by rw[hh4];exact aq hA _ _
   have t4:=t3b.more x4;obtain⟨a4x,a4y,a4z,b4,g4,f4,r4⟩:=t4.read (i:=fr) (by omega) (by omega);obtain⟨a4'x,a4'y,a4'z,b4',g4',f4',r4'⟩:=t4.read (i:=fc) (by omega) (by omega);have q4:=az hA r4;have q4':=az hA r4';rw[<-hh4];obtain⟨h4c,h4d,p4,p4',t4d⟩:=cF hA t4 (i:=fr) (j:=fc) (by omega) (by omega) (by omega) (by omega) g4 g4'
   (refine zq ?_;repeat ((first|rw[efr]|rw[efc]);refine zq ?_))
   refine ih c h4d _ (by omega) (by omega) (by omega) t4d (hp.trans (aD.swap L (by omega) (by have:=t.len;omega) (by omega) (by omega) (by omega) (by omega))) ?_;rw[hfr,hfc];exact hX.step dn (by omega) l0 (by have:=t.len;omega) r0 hcc hch hc w
theorem C5{h0 h:af}(hlow:h0.low<=h0.next){b n c:Nat}{L:List LE}{f lo hi:Int}(f0:0<=f)(l0:0<=lo)(l1:lo<=100000)(hn:f+hi<=n)(t:aV h0 h b n L)(hX:mu fu L f lo hi lo){Q:Value->af->Prop}
  (hQ:∀h' L',aV h0 h' b n L'->aD f (f+hi) L L'->kx fu L' f lo hi->Q (.tuple #[]) h'):call 120 [.slice (some ⟨b,0,none⟩) n c,.int .i64 lo,.int .i64 hi,.int .i64 f,.func (.func 70) #[] #[]] h Q:=by
 have hlow':=hlow
 replace hlow:=t.ext.lowOK hlow
 refine hA.bodyR Try.func120 r120_ok (hA.alike _ _ _ rfl) hlow (zc ?_);refine DL hA hlow' (L0:=L) f0 l0 hn (fun h' L' x e kn hx t' hp hh=>?_) (hi-lo).toNat lo h L (Nat.le_refl _) (Int.le_refl _) l1 t (.refl _ _ _) hX;rcases hx with rfl|rfl
 ·refine zc ?_
  exact hQ h' L' t' hp hh
 ·refine zc ?_
  exact hQ h' L' t' hp hh
theorem Bh{h0:af}(hlow:h0.low<=h0.next){b n c:Nat}{L0:List LE}{f hi:Int}(f0:0<=f)(hn:f+hi<=n){Q:Exit->SS->Prop}
  (hQ:∀h' L,aV h0 h' b n L->aD f (f+hi) L0 L->kx fu L f 0 hi->Q (.exit 0) ⟨[(0,.slice (some ⟨b,0,none⟩) n c),(3,.func (.func 70) #[] #[]),(8,.int .i64 f),(9,.int .i64 0),(10,.int .i64 hi)],0,[],h'⟩) :
  ∀(m:Nat) (i:Int) (h:af) (L:List LE),(i+1).toNat<=m->-1<=i->i<=100000->aV h0 h b n L->aD f (f+hi) L0 L->kx fu L f (i+1) hi->
   head 102 4 0 ⟨[(0,.slice (some ⟨b,0,none⟩) n c),(3,.func (.func 70) #[] #[]),(8,.int .i64 f),(9,.int .i64 0),(10,.int .i64 hi),(11,.int .i64 i)],0,[],h⟩ Q:=by
 intro m
 induction m with
 |zero=>
  intro i h L hm i0 i1 t hp hh;obtain rfl:i=-1:=by omega
  refine hA.roundR Try.func102 r102_ok (zc ?_);refine br False (by rw[bE hA];rfl) (fun q=>q.elim) (fun _=>?_)<;>refine zc ?_;exact hQ h L t hp hh
 |succ m ih=>
  intro i h L hm i0 i1 t hp hh;refine hA.roundR Try.func102 r102_ok (zc ?_);refine br (0<=i) (by rw[bE hA]) (fun ci=>?_) (fun ci=>?_)<;>refine zc ?_
  rotate_left
  ·obtain rfl:i=-1:=by omega
   exact hQ h L t hp hh
  refine C5 hA hlow f0 ci i1 hn t (.start ci hh) (fun h' L' t' hp' hh'=>?_);refine zc ?_;rw[bD hA (by omega) (by omega)];exact ih (i-1) h' L' (by omega) (by omega) (by omega) t' (hp.trans hp') (by rw[show i-1+1=i by omega];exact hh')
theorem Hi{h0:af}(hlow:h0.low<=h0.next){b n c:Nat}{L0:List LE}{f B:Int}(f0:0<=f)(hn:B<=n){Q:Exit->SS->Prop}
  (hQ:∀h' L e kn,aV h0 h' b n L->aD f B L0 L->aC fu L f B->Q (.exit 2) ⟨e,kn,[],h'⟩) :
  ∀(m:Nat) (i:Int) (h:af) (L:List LE),(i+1).toNat<=m->-1<=i->f+i<B->aV h0 h b n L->aD f B L0 L->Gk fu L f (f+i+1) B->
   head 102 8 0 ⟨[(0,.slice (some ⟨b,0,none⟩) n c),(3,.func (.func 70) #[] #[]),(8,.int .i64 f),(9,.int .i64 0),(12,.int .i64 i)],0,[],h⟩ Q:=by
 intro m
 induction m with
 |zero=>
  intro i h L hm i0 i1 t hp hh;obtain rfl:i=-1:=by omega
  refine hA.roundR Try.func102 r102_ok (zc ?_);refine br False (by rw[bE hA];rfl) (fun q=>q.elim) (fun _=>?_)<;>refine zc ?_;exact hQ h L _ _ t hp (by have:=hh.up;rw[show f + -1+1=f by omega]at this;exact this)
 |succ m ih=>
  intro i h L hm i0 i1 t hp hh;have few:=t.few;refine hA.roundR Try.func102 r102_ok (zc ?_);refine br (0<=i) (by rw[bE hA]) (fun ci=>?_) (fun ci=>?_)<;>refine zc ?_
  rotate_left
  ·obtain rfl:i=-1:=by omega
   exact hQ h L _ _ t hp (by have:=hh.up;rw[show f + -1+1=f by omega]at this;exact this)
  have efi:arith .add .i64 f i=f+i:=aB hA (by omega) (by omega);obtain⟨fi,hfi⟩:∃z,z=f+i:=⟨_,rfl⟩;rw[<-hfi]at efi hh;obtain⟨h2,hh2⟩:∃z,z=bump h 20:=⟨_,rfl⟩;have x2:Ext h h2:=by rw[hh2];exact aq hA _ _
  have t2:=t.more x2;obtain⟨a2x,a2y,a2z,b2,g2,f2,r2⟩:=t2.read (i:=f) (by omega) (by omega);obtain⟨a2'x,a2'y,a2'z,b2',g2',f2',r2'⟩:=t2.read (i:=fi) (by omega) (by omega);have q2:=az hA r2;have q2':=az hA r2';rw[<-hh2];obtain⟨h2c,h2d,p2,p2',t2d⟩:=cF hA t2 (i:=f) (j:=fi) (by omega) (by omega) (by omega) (by omega) g2 g2'
  (refine zq ?_;repeat ((first|rw[efi]);refine zq ?_))
  obtain⟨k1,k2,k3⟩:=hh.swap dn f0 (by have:=t.len;omega) (by omega) (by omega);rw[show fi-f=i by omega]at k1;have hsw:=aD.swap (a:=f) (b:=B) L (i:=f) (j:=fi) f0 (by have:=t.len;omega) (by omega) (by omega) (by omega) (by omega);refine C5 hA hlow f0 (by omega) (by omega) (by omega) t2d k1 (fun h' L' t' hp' hh'=>?_);refine zc ?_;rw[bD hA (by omega) (by omega)];rw[<-hfi]at hp';obtain⟨k4,k5⟩:=hp'.keep f0 (by omega) k2 k3;refine ih (i-1) h' L' (by omega) (by omega) (by omega) t' ((hp.trans hsw).trans (hp'.wide f0 (by omega) (by omega))) ?_;rw[show f+(i-1)+1=fi by omega];exact⟨by rw[show fi-f=i by omega];exact hh',k4,k5⟩
theorem IX{h0 h:af}(hlow:h0.low<=h0.next){b n c:Nat}{L:List LE}{A B:Int}(a0:0<=A)(ab:A<B)(bn:B<=n)(t:aV h0 h b n L){Q:Value->af->Prop}
  (hQ:∀h' L',aV h0 h' b n L'->aD A B L L'->aC fu L' A B->Q (.tuple #[]) h'):call 102 [.slice (some ⟨b,0,none⟩) n c,.int .i64 A,.int .i64 B,.func (.func 70) #[] #[]] h Q:=by
 have hlow':=hlow
 replace hlow:=t.ext.lowOK hlow
 have few:=t.few;obtain⟨hi,hhi⟩:∃z,z=B-A:=⟨_,rfl⟩;have e1:arith .sub .i64 B A=hi:=by rw[hhi];exact bD hA (by omega) (by omega)
 obtain⟨hj,hhj⟩:∃z,z=hi-1:=⟨_,rfl⟩;have e2:arith .sub .i64 hi 1=hj:=by rw[hhj];exact bD hA (by omega) (by omega)
 have e3:arith .quo .i64 hj 2=hj / 2:=qE hA (by omega) (by omega) (by omega);obtain⟨hk,hhk⟩:∃z,z=hj / 2:=⟨_,rfl⟩;rw[<-hhk]at e3;refine hA.bodyR Try.func102 r102_ok (hA.alike _ _ _ rfl) hlow (zc ?_);rw[e1]
 (refine zq ?_;repeat ((first|rw[e2]|rw[e3]);refine zq ?_))
 refine Bh hA hlow' (L0:=L) (f:=A) (hi:=hi) a0 (by omega) (fun h' L' t' hp hh=>?_) (hk+1).toNat hk h L (Nat.le_refl _) (by omega) (by omega) t (.refl _ _ _) (fun k k0 k1 k2=>by unfold qV at k2;omega)
 (refine zq ?_;repeat ((first|rw[e2]);refine zq ?_))
 refine Hi hA hlow' (L0:=L) (f:=A) (B:=B) a0 bn (fun h2 L2 e kn t2 hp2 hs=>?_) (hj+1).toNat hj h' L' (Nat.le_refl _) (by omega) (by omega) t' (by rw[show B=A+hi by omega];exact hp) ⟨by rw[show A+hj+1-A=hi by omega];exact hh,fun p q p0 pq q1=>by omega,fun p q p0 p1 q0 q1=>by omega⟩;refine zc ?_;exact hQ h2 L2 t2 hp2 hs
theorem up3{h0:af}(hlow:h0.low<=h0.next){b n c:Nat}{L:List LE}{A B j s:Int}(a0:0<=A)(bn:B<=n){Q:Exit->SS->Prop}
  (hQ:∀h' i,s<=i->aV h0 h' b n L->iV fu L A B i j->(i<=j->fu (gt L A) (gt L i))->Q (.exit 0) ⟨[(0,.slice (some ⟨b,0,none⟩) n c),(1,.int .i64 A),(4,.func (.func 70) #[] #[]),(12,.int .i64 i),(13,.int .i64 j)],32,[],h'⟩) :
  ∀(m:Nat) (i:Int) (h:af),(j+1-i).toNat<=m->s<=i->aV h0 h b n L->iV fu L A B i j->
   head 108 3 16 ⟨[(0,.slice (some ⟨b,0,none⟩) n c),(1,.int .i64 A),(4,.func (.func 70) #[] #[]),(12,.int .i64 i),(13,.int .i64 j)],16,[],h⟩ Q:=by
 intro m
 induction m with
 |zero=>
  intro i h hm hs t hp;refine hA.roundR Try.func108 r108_ok (zc ?_);refine br (i<=j) (by rw[iw hA]) (fun q=>by omega) (fun q=>?_)<;>refine zc ?_;exact hQ _ i hs (t.more (aq hA _ _)) hp (fun w=>absurd w q)
 |succ m ih=>
  intro i h hm hs t hp;have few:=t.few;have p1:=hp.i0;have p2:=hp.j1;refine hA.roundR Try.func108 r108_ok (zc ?_);refine br (i<=j) (by rw[iw hA]) (fun ci=>?_) (fun q=>?_)<;>refine zc ?_
  rotate_left
  ·exact hQ _ i hs (t.more (aq hA _ _)) hp (fun w=>absurd w q)
  obtain⟨h2,hh2⟩:∃z,z=bump h 16:=⟨_,rfl⟩;have x2:Ext h h2:=by rw[hh2];exact aq hA _ _
  have t2:=t.more x2;obtain⟨a2x,a2y,a2z,b2,g2,f2,r2⟩:=t2.read (i:=i) (by omega) (by omega);obtain⟨a2'x,a2'y,a2'z,b2',g2',f2',r2'⟩:=t2.read (i:=A) (by omega) (by omega);have q2:=az hA r2;have q2':=az hA r2';rw[<-hh2];have e1:arith .add .i64 i 1=i+1:=aB hA (by omega) (by omega);refine zq ?_;refine dH hA (aw hA h2) (cW hA f2) (cW hA f2') (fun u h2a hu x2a=>⟨_,rfl,?_⟩);have t2b:=de hA hlow t2 x2a;refine zc ?_;generalize lowered h2 h2a=h2b at *;refine br (u<0) (by rw[au hA]) (fun cu=>?_) (fun cu=>?_)<;>refine zc ?_
  ·rw[hu]at cu
   rw[e1];exact ih (i+1) h2b (by omega) (by omega) t2b (hp.left ci (LL.le_of_lt (bZ.1 cu)))
  ·rw[hu]at cu
   exact hQ h2b i hs t2b hp (fun _=>LL.not_lt.1 (fun w=>cu (bZ.2 w)))
theorem KY{h0:af}(hlow:h0.low<=h0.next){b n c:Nat}{L:List LE}{A B i s:Int}(a0:0<=A)(bn:B<=n){Q:Exit->SS->Prop}
  (hQ:∀h' j,j<=s->aV h0 h' b n L->iV fu L A B i j->(i<=j->fu (gt L j) (gt L A)/\¬fu (gt L A) (gt L j))->Q (.exit 2) ⟨[(0,.slice (some ⟨b,0,none⟩) n c),(1,.int .i64 A),(4,.func (.func 70) #[] #[]),(12,.int .i64 i),(13,.int .i64 j)],49,[],h'⟩) :
  ∀(m:Nat) (j:Int) (h:af),(j+1-i).toNat<=m->j<=s->aV h0 h b n L->iV fu L A B i j->
   head 108 5 32 ⟨[(0,.slice (some ⟨b,0,none⟩) n c),(1,.int .i64 A),(4,.func (.func 70) #[] #[]),(12,.int .i64 i),(13,.int .i64 j)],32,[],h⟩ Q:=by
 intro m
 induction m with
 |zero=>
  intro j h hm hs t hp;refine hA.roundR Try.func108 r108_ok (zc ?_);refine br (i<=j) (by rw[iw hA]) (fun q=>by omega) (fun q=>?_)<;>refine zc ?_;exact hQ _ j hs (t.more (aq hA _ _)) hp (fun w=>absurd w q)
 |succ m ih=>
  intro j h hm hs t hp;have few:=t.few;have p1:=hp.i0;have p2:=hp.j1;refine hA.roundR Try.func108 r108_ok (zc ?_);refine br (i<=j) (by rw[iw hA]) (fun ci=>?_) (fun q=>?_)<;>refine zc ?_
  rotate_left
  ·exact hQ _ j hs (t.more (aq hA _ _)) hp (fun w=>absurd w q)
  obtain⟨h2,hh2⟩:∃z,z=bump h 17:=⟨_,rfl⟩;have x2:Ext h h2:=by rw[hh2];exact aq hA _ _
  have t2:=t.more x2;obtain⟨a2x,a2y,a2z,b2,g2,f2,r2⟩:=t2.read (i:=j) (by omega) (by omega);obtain⟨a2'x,a2'y,a2'z,b2',g2',f2',r2'⟩:=t2.read (i:=A) (by omega) (by omega);have q2:=az hA r2;have q2':=az hA r2';rw[<-hh2];have e1:arith .sub .i64 j 1=j-1:=bD hA (by omega) (by omega);refine zq ?_;refine dH hA (aw hA h2) (cW hA f2) (cW hA f2') (fun u h2a hu x2a=>⟨_,rfl,?_⟩);have t2b:=de hA hlow t2 x2a;refine zc ?_;generalize lowered h2 h2a=h2b at *;refine br (0<=u) (by rw[cI hA,au hA];by_cases z:u<0<;>simp[z]<;>omega) (fun cu=>?_) (fun cu=>?_)<;>refine zc ?_
  ·rw[hu]at cu
   rw[e1];exact ih (j-1) h2b (by omega) (by omega) t2b (hp.right ci (LL.not_lt.1 (fun w=>by have:=bZ.2 w;omega)))
  ·rw[hu]at cu
   have lt:=bZ.1 (show dU (gt L j).q (gt L A).q<0 by omega);exact hQ h2b j hs t2b hp (fun _=>⟨LL.le_of_lt lt,LL.not_le.2 lt⟩)
theorem KQ{h0:af}(hlow:h0.low<=h0.next){b n c:Nat}{L:List LE}{A B j s:Int}(a0:0<=A)(bn:B<=n){Q:Exit->SS->Prop}
  (hQ:∀h' i,s<=i->aV h0 h' b n L->iV fu L A B i j->(i<=j->fu (gt L A) (gt L i))->Q (.exit 6) ⟨[(0,.slice (some ⟨b,0,none⟩) n c),(1,.int .i64 A),(4,.func (.func 70) #[] #[]),(12,.int .i64 i),(13,.int .i64 j)],81,[],h'⟩) :
  ∀(m:Nat) (i:Int) (h:af),(j+1-i).toNat<=m->s<=i->aV h0 h b n L->iV fu L A B i j->
   head 108 13 65 ⟨[(0,.slice (some ⟨b,0,none⟩) n c),(1,.int .i64 A),(4,.func (.func 70) #[] #[]),(12,.int .i64 i),(13,.int .i64 j)],65,[],h⟩ Q:=by
 intro m
 induction m with
 |zero=>
  intro i h hm hs t hp;refine hA.roundR Try.func108 r108_ok (zc ?_);refine br (i<=j) (by rw[iw hA]) (fun q=>by omega) (fun q=>?_)<;>refine zc ?_;exact hQ _ i hs (t.more (aq hA _ _)) hp (fun w=>absurd w q)
 |succ m ih=>
  intro i h hm hs t hp;have few:=t.few;have p1:=hp.i0;have p2:=hp.j1;refine hA.roundR Try.func108 r108_ok (zc ?_);refine br (i<=j) (by rw[iw hA]) (fun ci=>?_) (fun q=>?_)<;>refine zc ?_
  rotate_left
  ·exact hQ _ i hs (t.more (aq hA _ _)) hp (fun w=>absurd w q)
  obtain⟨h2,hh2⟩:∃z,z=bump h 16:=⟨_,rfl⟩;have x2:Ext h h2:=by rw[hh2];exact aq hA _ _
  have t2:=t.more x2;obtain⟨a2x,a2y,a2z,b2,g2,f2,r2⟩:=t2.read (i:=i) (by omega) (by omega);obtain⟨a2'x,a2'y,a2'z,b2',g2',f2',r2'⟩:=t2.read (i:=A) (by omega) (by omega);have q2:=az hA r2;have q2':=az hA r2';rw[<-hh2];have e1:arith .add .i64 i 1=i+1:=aB hA (by omega) (by omega);refine zq ?_;refine dH hA (aw hA h2) (cW hA f2) (cW hA f2') (fun u h2a hu x2a=>⟨_,rfl,?_⟩);have t2b:=de hA hlow t2 x2a;refine zc ?_;generalize lowered h2 h2a=h2b at *;refine br (u<0) (by rw[au hA]) (fun cu=>?_) (fun cu=>?_)<;>refine zc ?_
  ·rw[hu]at cu
   rw[e1];exact ih (i+1) h2b (by omega) (by omega) t2b (hp.left ci (LL.le_of_lt (bZ.1 cu)))
  ·rw[hu]at cu
   exact hQ h2b i hs t2b hp (fun _=>LL.not_lt.1 (fun w=>cu (bZ.2 w)))
theorem Fq{h0:af}(hlow:h0.low<=h0.next){b n c:Nat}{L:List LE}{A B i s:Int}(a0:0<=A)(bn:B<=n){Q:Exit->SS->Prop}
  (hQ:∀h' j,j<=s->aV h0 h' b n L->iV fu L A B i j->(i<=j->fu (gt L j) (gt L A)/\¬fu (gt L A) (gt L j))->Q (.exit 8) ⟨[(0,.slice (some ⟨b,0,none⟩) n c),(1,.int .i64 A),(4,.func (.func 70) #[] #[]),(12,.int .i64 i),(13,.int .i64 j)],98,[],h'⟩) :
  ∀(m:Nat) (j:Int) (h:af),(j+1-i).toNat<=m->j<=s->aV h0 h b n L->iV fu L A B i j->
   head 108 15 81 ⟨[(0,.slice (some ⟨b,0,none⟩) n c),(1,.int .i64 A),(4,.func (.func 70) #[] #[]),(12,.int .i64 i),(13,.int .i64 j)],81,[],h⟩ Q:=by
 intro m
 induction m with
 |zero=>
  intro j h hm hs t hp;refine hA.roundR Try.func108 r108_ok (zc ?_);refine br (i<=j) (by rw[iw hA]) (fun q=>by omega) (fun q=>?_)<;>refine zc ?_;exact hQ _ j hs (t.more (aq hA _ _)) hp (fun w=>absurd w q)
 |succ m ih=>
  intro j h hm hs t hp;have few:=t.few;have p1:=hp.i0;have p2:=hp.j1;refine hA.roundR Try.func108 r108_ok (zc ?_);refine br (i<=j) (by rw[iw hA]) (fun ci=>?_) (fun q=>?_)<;>refine zc ?_
  rotate_left
  ·exact hQ _ j hs (t.more (aq hA _ _)) hp (fun w=>absurd w q)
  obtain⟨h2,hh2⟩:∃z,z=bump h 17:=⟨_,rfl⟩;have x2:Ext h h2:=by rw[hh2];exact aq hA _ _
  have t2:=t.more x2;obtain⟨a2x,a2y,a2z,b2,g2,f2,r2⟩:=t2.read (i:=j) (by omega) (by omega);obtain⟨a2'x,a2'y,a2'z,b2',g2',f2',r2'⟩:=t2.read (i:=A) (by omega) (by omega);have q2:=az hA r2;have q2':=az hA r2';rw[<-hh2];have e1:arith .sub .i64 j 1=j-1:=bD hA (by omega) (by omega);refine zq ?_;refine dH hA (aw hA h2) (cW hA f2) (cW hA f2') (fun u h2a hu x2a=>⟨_,rfl,?_⟩);have t2b:=de hA hlow t2 x2a;refine zc ?_;generalize lowered h2 h2a=h2b at *;refine br (0<=u) (by rw[cI hA,au hA];by_cases z:u<0<;>simp[z]<;>omega) (fun cu=>?_) (fun cu=>?_)<;>refine zc ?_
  ·rw[hu]at cu
   rw[e1];exact ih (j-1) h2b (by omega) (by omega) t2b (hp.right ci (LL.not_lt.1 (fun w=>by have:=bZ.2 w;omega)))
  ·rw[hu]at cu
   have lt:=bZ.1 (show dU (gt L j).q (gt L A).q<0 by omega);exact hQ h2b j hs t2b hp (fun _=>⟨LL.le_of_lt lt,LL.not_le.2 lt⟩)
theorem DO{h0:af}(hlow:h0.low<=h0.next){b n c:Nat}{L0:List LE}{A B:Int}(a0:0<=A)(bn:B<=n){Q:Exit->SS->Prop}
  (hQ:∀h' L i j,aV h0 h' b n L->aD A B L0 L->iV fu L A B i j->j<i->Q (.exit 4) ⟨[(0,.slice (some ⟨b,0,none⟩) n c),(1,.int .i64 A),(13,.int .i64 j)],98,[],h'⟩) :
  ∀(m:Nat) (i j:Int) (h:af) (L:List LE),(j+1-i).toNat<=m->aV h0 h b n L->aD A B L0 L->iV fu L A B i j->
   head 108 1013 65 ⟨[(0,.slice (some ⟨b,0,none⟩) n c),(1,.int .i64 A),(4,.func (.func 70) #[] #[]),(12,.int .i64 i),(13,.int .i64 j)],65,[],h⟩ Q:=by
 intro m
 induction m with
 |zero=>
  intro i j h L hm t hp hI;refine hA.roundR Try.func108 r108_ok (zc ?_);refine KQ hA hlow a0 bn (s:=i) (fun h1 i1 s1 t1 hI1 w1=>?_) (j+1-i).toNat i h (Nat.le_refl _) (Int.le_refl _) t hI;refine zc ?_;refine Fq hA hlow a0 bn (s:=j) (fun h2 j2 s2 t2 hI2 w2=>?_) (j+1-i1).toNat j h1 (Nat.le_refl _) (Int.le_refl _) t1 hI1;refine zc ?_;refine br (j2<i1) (by rw[dc hA]) (fun _=>?_) (fun q=>by omega)<;>refine zc ?_;exact hQ h2 L i1 j2 t2 hp hI2 (by omega)
 |succ m ih=>
  intro i j h L hm t hp hI;have few:=t.few;refine hA.roundR Try.func108 r108_ok (zc ?_);refine KQ hA hlow a0 bn (s:=i) (fun h1 i1 s1 t1 hI1 w1=>?_) (j+1-i).toNat i h (Nat.le_refl _) (Int.le_refl _) t hI;refine zc ?_;refine Fq hA hlow a0 bn (s:=j) (fun h2 j2 s2 t2 hI2 w2=>?_) (j+1-i1).toNat j h1 (Nat.le_refl _) (Int.le_refl _) t1 hI1;refine zc ?_;refine br (j2<i1) (by rw[dc hA]) (fun q=>?_) (fun ci=>?_)<;>refine zc ?_
  ·exact hQ h2 L i1 j2 t2 hp hI2 q
  have k1:=hI2.i0;have k2:=hI2.j1;obtain⟨v1,v2⟩:=w2 (by omega);have v3:=w1 (by omega);have ne:i1≠j2:=fun e=>v2 (by rw[<-e];exact v3)
  have e1:arith .add .i64 i1 1=i1+1:=aB hA (by omega) (by omega);have e2:arith .sub .i64 j2 1=j2-1:=bD hA (by omega) (by omega);obtain⟨i2,hi2⟩:∃z,z=i1+1:=⟨_,rfl⟩;obtain⟨j3,hj3⟩:∃z,z=j2-1:=⟨_,rfl⟩;rw[<-hi2]at e1;rw[<-hj3]at e2;obtain⟨h5,hh5⟩:∃z,z=bump h2 16:=⟨_,rfl⟩;have x5:Ext h2 h5:=by rw[hh5];exact aq hA _ _
  have t5:=t2.more x5;obtain⟨a5x,a5y,a5z,b5,g5,f5,r5⟩:=t5.read (i:=i1) (by omega) (by omega);obtain⟨a5'x,a5'y,a5'z,b5',g5',f5',r5'⟩:=t5.read (i:=j2) (by omega) (by omega);have q5:=az hA r5;have q5':=az hA r5';rw[<-hh5];obtain⟨h5c,h5d,p5,p5',t5d⟩:=cF hA t5 (i:=i1) (j:=j2) (by omega) (by omega) (by omega) (by omega) g5 g5'
  (refine zq ?_;repeat ((first|rw[e1]|rw[e2]);refine zq ?_))
  refine ih i2 j3 h5d _ (by omega) t5d (hp.trans (aD.swap L a0 (by have:=t.len;omega) (by omega) (by omega) (by omega) (by omega))) ?_;rw[hi2,hj3];exact hI2.swap a0 (by have:=t.len;omega) (by omega) v3 v1
theorem HX{h0 h:af}(hlow:h0.low<=h0.next){b n c:Nat}{L:List LE}{A B p:Int}(a0:0<=A)(bn:B<=n)(pa:A<=p)(pb:p<B)(t:aV h0 h b n L){Q:Value->af->Prop}
  (hQ:∀h' L' m (r:Bool),aV h0 h' b n L'->aD A B L L'->A<=m->m<B->(∀p:Int,A<=p->p<m->fu (gt L' p) (gt L' m))->(∀p:Int,m<p->p<B->fu (gt L' m) (gt L' p))->Q (.tuple #[.int .i64 m,.bool r]) h') :
  call 108 [.slice (some ⟨b,0,none⟩) n c,.int .i64 A,.int .i64 B,.int .i64 p,.func (.func 70) #[] #[]] h Q:=by
 have hlow':=hlow
 replace hlow:=t.ext.lowOK hlow
 have few:=t.few;have e1:arith .add .i64 A 1=A+1:=aB hA (by omega) (by omega);have e2:arith .sub .i64 B 1=B-1:=bD hA (by omega) (by omega);obtain⟨A1,hA1⟩:∃z,z=A+1:=⟨_,rfl⟩;obtain⟨B1,hB1⟩:∃z,z=B-1:=⟨_,rfl⟩;rw[<-hA1]at e1;rw[<-hB1]at e2;refine hA.bodyR Try.func108 r108_ok (hA.alike _ _ _ rfl) hlow (zc ?_);obtain⟨h2,hh2⟩:∃z,z=bump h 16:=⟨_,rfl⟩;have x2:Ext h h2:=by rw[hh2];exact aq hA _ _
 have t2:=t.more x2;obtain⟨a2x,a2y,a2z,b2,g2,f2,r2⟩:=t2.read (i:=A) (by omega) (by omega);obtain⟨a2'x,a2'y,a2'z,b2',g2',f2',r2'⟩:=t2.read (i:=p) (by omega) (by omega);have q2:=az hA r2;have q2':=az hA r2';rw[<-hh2];obtain⟨h2c,h2d,p2,p2',t2d⟩:=cF hA t2 (i:=A) (j:=p) (by omega) (by omega) (by omega) (by omega) g2 g2'
 (refine zq ?_;repeat ((first|rw[e1]|rw[e2]);refine zq ?_))
 have s2:=aD.swap (a:=A) (b:=B) L (i:=A) (j:=p) a0 (by have:=t.len;omega) (by omega) (by omega) pa pb;generalize cV L A p=L2 at *;have hI:iV fu L2 A B A1 B1:=by rw[hA1,hB1];exact .start L2 (by omega)
 refine up3 hA hlow' a0 bn (s:=A1) (fun h3 i3 s3 t3 hI3 w3=>?_) (B1+1-A1).toNat A1 h2d (Nat.le_refl _) (Int.le_refl _) t2d hI;refine zc ?_;refine KY hA hlow' a0 bn (s:=B1) (fun h4 j4 s4 t4 hI4 w4=>?_) (B1+1-i3).toNat B1 h3 (Nat.le_refl _) (Int.le_refl _) t3 hI3;refine zc ?_;have fin:∀(hh:af) (L':List LE) (i j:Int),aV h0 hh b n L'->aD A B L L'->iV fu L' A B i j->j<i->∀hh' (r:Bool),aV h0 hh' b n (cV L' j A)->Q (.tuple #[.int .i64 j,.bool r]) hh':=fun hh L' i j td hp hI c hh' r td'=>by
  have k1:=hI.i0;have k2:=hI.j1;have k3:=hI.ij;obtain⟨f1,f2⟩:=hI.done a0 (by have:=td.len;omega) c;exact hQ hh' _ j r td' (hp.trans (aD.swap L' a0 (by have:=td.len;omega) (by omega) (by omega) (by omega) (by omega))) (by omega) (by omega) f1 f2
 have k1:=hI4.i0;have k2:=hI4.j1;have k3:=hI4.ij;refine br (j4<i3) (by rw[dc hA]) (fun q=>?_) (fun ci=>?_)<;>refine zc ?_
 ·have hfin:=fin h4 L2 i3 j4 t4 s2 hI4 q
  have hlowq:=hlow';clear hlow;have hlow:=hlow';obtain⟨h6,hh6⟩:∃z,z=bump h4 16:=⟨_,rfl⟩;have x6:Ext h4 h6:=by rw[hh6];exact aq hA _ _
  have t6:=t4.more x6;obtain⟨a6x,a6y,a6z,b6,g6,f6,r6⟩:=t6.read (i:=j4) (by omega) (by omega);obtain⟨a6'x,a6'y,a6'z,b6',g6',f6',r6'⟩:=t6.read (i:=A) (by omega) (by omega);have q6:=az hA r6;have q6':=az hA r6';rw[<-hh6];obtain⟨h6c,h6d,p6,p6',t6d⟩:=cF hA t6 (i:=j4) (j:=A) (by omega) (by omega) (by omega) (by omega) g6 g6';refine zq ?_;exact hfin _ _ t6d
 obtain⟨v1,v2⟩:=w4 (by omega);have v3:=w3 (by omega);have ne:i3≠j4:=fun e=>v2 (by rw[<-e];exact v3)
 have e3:arith .add .i64 i3 1=i3+1:=aB hA (by omega) (by omega);have e4:arith .sub .i64 j4 1=j4-1:=bD hA (by omega) (by omega);obtain⟨i5,hi5⟩:∃z,z=i3+1:=⟨_,rfl⟩;obtain⟨j5,hj5⟩:∃z,z=j4-1:=⟨_,rfl⟩;rw[<-hi5]at e3;rw[<-hj5]at e4;obtain⟨h7,hh7⟩:∃z,z=bump h4 16:=⟨_,rfl⟩;have x7:Ext h4 h7:=by rw[hh7];exact aq hA _ _
 have t7:=t4.more x7;obtain⟨a7x,a7y,a7z,b7,g7,f7,r7⟩:=t7.read (i:=i3) (by omega) (by omega);obtain⟨a7'x,a7'y,a7'z,b7',g7',f7',r7'⟩:=t7.read (i:=j4) (by omega) (by omega);have q7:=az hA r7;have q7':=az hA r7';rw[<-hh7];obtain⟨h7c,h7d,p7,p7',t7d⟩:=cF hA t7 (i:=i3) (j:=j4) (by omega) (by omega) (by omega) (by omega) g7 g7'
 (refine zq ?_;repeat ((first|rw[e3]|rw[e4]);refine zq ?_))
 have hI7:=hI4.swap a0 (by have:=t4.len;omega) (by omega) v3 v1;rw[<-hi5,<-hj5]at hI7;refine DO hA hlow' (L0:=L) a0 bn (fun h8 L8 i8 j8 t8 hp8 hI8 c8=>?_) (j5+1-i5).toNat i5 j5 h7d _ (Nat.le_refl _) t7d (s2.trans (aD.swap L2 a0 (by have:=t4.len;omega) (by omega) (by omega) (by omega) (by omega))) hI7;have m1:=hI8.i0;have m2:=hI8.j1;have m3:=hI8.ij;have hfin:=fin h8 L8 i8 j8 t8 hp8 hI8 c8;refine zc ?_;obtain⟨h9,hh9⟩:∃z,z=bump h8 16:=⟨_,rfl⟩;have x9:Ext h8 h9:=by rw[hh9];exact aq hA _ _
 have t9:=t8.more x9;obtain⟨a9x,a9y,a9z,b9,g9,f9,r9⟩:=t9.read (i:=j8) (by omega) (by omega);obtain⟨a9'x,a9'y,a9'z,b9',g9',f9',r9'⟩:=t9.read (i:=A) (by omega) (by omega);have q9:=az hA r9;have q9':=az hA r9';rw[<-hh9];obtain⟨h9c,h9d,p9,p9',t9d⟩:=cF hA t9 (i:=j8) (j:=A) (by omega) (by omega) (by omega) (by omega) g9 g9';refine zq ?_;exact hfin _ _ t9d
