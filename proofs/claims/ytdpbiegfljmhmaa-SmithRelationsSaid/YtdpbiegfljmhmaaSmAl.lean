import Derived.Test.YtdpbiegfljmhmaaSmIn
import Derived.Test.YtdpbiegfljmhmaaInsP
import Derived.Test.YtdpbiegfljmhmaaFracPure
set_option linter.unusedSimpArgs false
set_option linter.unusedVariables false
namespace Go.Proofs.Ytdpbiegfljmhmaa
open Go.Sim
set_option maxRecDepth 100000
def hdS(bs:Nat->Nat)(w k:Nat):List Hd:=lst (fun y=>(⟨some ⟨bs y,0,none⟩,w,someCap 1 w⟩:Hd)) k
structure Stm(h0 h:AHeap)(sb k n w:Nat)(ra:Option Addr)(rc:Nat)(bs:Nat->Nat)(F:Nat->Ext.Vec):Prop where
 rows:RowsB h0 h n w bs F
 own:Own h sb 1 [.slice ra k rc]
 apd:Apd h 1 ra k rc ((hdS bs w k).flatMap Hd.cells)
 kn:k<=n
 s0:h0.next<=sb
 s1:sb<h.next
 fr:From h0.next ra
 nsb:∀y,y<n->bs y≠sb
 nra:∀ad,ra=some ad->ad.block≠sb/\∀y,y<n->ad.block≠bs y
section
variable{h0 h:AHeap}{sb k n w rc:Nat}{ra:Option Addr}{bs:Nat->Nat}{F:Nat->Ext.Vec}
theorem Stm.head(t:Stm h0 h sb k n w ra rc bs F){y:Nat}(hy:y<k):∃b,ra=some ⟨b,0,none⟩/\b<h.next/\h.readG ⟨b,0+y*1,none⟩ 1=some [.slice (some ⟨bs y,0,none⟩) w (someCap 1 w)]:=by
 rcases t.apd with ⟨_,q,_⟩|⟨b,e,_,hb,hl,ho⟩
 ·omega
 refine⟨b,e,hb,?_⟩;have r:=Own.rows ho hd_len (by omega) hb;rw[show(hdS bs w k).length=k from lst_len _ _]at r;obtain⟨b',o,e',_,q⟩:=r.at (i:=(y:Int)) (by omega) (by omega);cases e';have:=q 0 1 (by omega) (by omega);unfold hdS at this;rw[lst_gt _ hy]at this;exact this
theorem Stm.more{h':AHeap}(t:Stm h0 h sb k n w ra rc bs F)(e:Ext h h'):Stm h0 h' sb k n w ra rc bs F:=
 ⟨t.rows.more e,t.own.ext e t.s1,t.apd.ext e,t.kn,t.s0,Nat.lt_of_lt_of_le t.s1 e.next,t.fr,t.nsb,t.nra⟩
theorem Stm.put{h':AHeap}{G:Nat->Ext.Vec}{r:Nat}(t:Stm h0 h sb k n w ra rc bs F)(hr:r<n)(m:RowsB h0 h' n w bs G)(o:Only h h' (bs r)):Stm h0 h' sb k n w ra rc bs G:=
 ⟨m,t.own.of_get (o.get sb t.s1 (fun e=>t.nsb r hr e.symm)),t.apd.of_get o.next (fun ad had hl=>o.get _ hl ((t.nra ad had).2 r hr)),t.kn,t.s0,Nat.lt_of_lt_of_le t.s1 o.next,t.fr,t.nsb,t.nra⟩
theorem Stm.congr{G:Nat->Ext.Vec}(t:Stm h0 h sb k n w ra rc bs F)(e:∀y x,y<n->x<w->F y x=G y x):Stm h0 h sb k n w ra rc bs G:=
 ⟨t.rows.congr e,t.own,t.apd,t.kn,t.s0,t.s1,t.fr,t.nsb,t.nra⟩
end
theorem Ext.low_front{w:Nat}{F:Nat->Ext.Vec}{c:Nat}{v:Ext.Vec}:∀y,∀j,j<=c->Ext.lowV w F c y v j=v j
 |0,j,_=>rfl
 |y+1,j,hj=>by
  show(if c<Ext.leadV w (F y)then(fun j=>Ext.lowV w F c y v j-Ext.lowV w F c y v (Ext.leadV w (F y)) / F y (Ext.leadV w (F y))*F y j)else Ext.lowV w F c y v) j=v j;split
  ·rename_i q
   show Ext.lowV w F c y v j-Ext.lowV w F c y v (Ext.leadV w (F y)) / F y (Ext.leadV w (F y))*F y j=v j;rw[Ext.leadV_zero (w:=w) (v:=F y) (j:=j) (by omega),Int.mul_zero,Int.sub_zero];exact Ext.low_front y j hj
  ·exact Ext.low_front y j hj
theorem Ext.low_lead{w:Nat}{F:Nat->Ext.Vec}{v:Ext.Vec}(y:Nat):Ext.leadV w (Ext.lowV w F (Ext.leadV w v) y v)=Ext.leadV w v:=
 Ext.leadV_eq (Ext.leadV_le _ _) (fun j hj=>by rw[Ext.low_front y j (by omega)];exact Ext.leadV_zero hj) (fun q=>by rw[Ext.low_front y _ (Nat.le_refl _)];exact Ext.leadV_ne q)
variable{F:Prims}{call head arith cmp scmp bnot bsame conv neg imax imin ofNat slen place inR nz geZ rd wr push next mkOK nat zeros sadd eqAgg cut slc sslc strAt part app cpy putAt fresh lowered bump wrote addN lt ne fpAll fpApp brk yn rng mget mput mnew bytes clr:_}(hA:AP F ⟨call,head,arith,cmp,scmp,bnot,bsame,conv,neg,imax,imin,ofNat,slen,place,inR,nz,geZ,rd,wr,push,next,mkOK,nat,zeros,sadd,eqAgg,cut,slc,sslc,strAt,part,app,cpy,putAt,fresh,lowered,bump,wrote,addN,lt,ne,fpAll,fpApp,brk,yn,rng,mget,mput,mnew,bytes,clr⟩)
include hA
theorem lower_loop{h0 hs:AHeap}(hlow:h0.low<=h0.next){sb k n w rc r c:Nat}{ra:Option Addr}{bs:Nat->Nat}{F:Nat->Ext.Vec}(hk:k<=10)(hr:r<n)(hw:w<=1000)(ec:c=Ext.leadV w (F r))(hp:∀y,y<k->c<Ext.leadV w (F y)->Ext.leadV w (F y)<w/\0<F y (Ext.leadV w (F y)))(hok:Ext.LowOK w F c k (F r)){C K:Int}(eC:C=c)(eK:K=k){cw:Nat}(ecw:cw=someCap 1 w){Q:Exit->SS->Prop}
  (hQ:∀(h':AHeap) (kn:Nat) (T:List (Nat×List Value)),Stm h0 h' sb k n w ra rc bs (Ext.put F r (Ext.lowV w F c k (F r)))->Only hs h' (bs r)->Q (.exit 0) ⟨[],kn,T,h'⟩) :
  ∀(d j:Nat) (J:Int) (h:AHeap),k-j<=d->j<=k->J=j->Stm h0 h sb k n w ra rc bs (Ext.put F r (Ext.lowV w F c j (F r)))->Only hs h (bs r)->
   head 98 2 0 ⟨[(1,.slice (some ⟨bs r,0,none⟩) w cw),(4,.int .i64 C),(13,.slice ra k rc),(14,.int .i64 K),(15,.int .i64 J)],0,[],h⟩ Q:=by
 refine upTo (fun d ih=>?_);intro j J h hd hj eJ m st;by_cases cj:j<k
 rotate_left
 ·refine hA.roundR Try.func98 r98_ok (zc ?_)
  refine br (J<K) (by rw[e_lss hA]) (fun q=>by omega) (fun _=>?_)<;>refine zc ?_;obtain rfl:j=k:=by omega
  exact hQ h _ _ m st
 obtain⟨d,rfl⟩:∃k,d=k+1:=⟨d-1,by omega⟩
 replace ih:=ih d rfl
 obtain⟨b,rfl,hb,q1⟩:=m.head cj;rw[<-ecw]at q1;have r1:rd h b (place 0 J 1) 1 [.slice (some ⟨bs j,0,none⟩) w cw]:=rd_ok hA (by rw[eJ];exact q1);have hl1:h.low<=h.next:=m.rows.ext.lowOK hlow;refine hA.roundR Try.func98 r98_ok (zc ?_);refine br (J<K) (by rw[e_lss hA]) (fun _=>?_) (fun q=>by omega)<;>refine zc ?_;refine zq ?_;have hjn:j<n:=by have:=m.kn;omega
 refine lead_ok hA hl1 hw (fun x hx=>m.rows.el hjn hx) (fun L eL=>?_);refine⟨L,rfl,?_⟩;refine zq ?_;obtain⟨G,eG⟩:∃z,z=Ext.put F r (Ext.lowV w F c j (F r)):=⟨_,rfl⟩;have hGr:G r=Ext.lowV w F c j (F r):=by rw[eG];exact Ext.put_at _
 have hGn:∀y,y≠r->G y=F y:=fun y hy=>by rw[eG];exact Ext.put_ne _ hy
 rw[<-eG]at m eL;refine br (C<L) (by rw[e_gtr hA]) (fun cq=>?_) (fun cq=>?_)<;>refine zc ?_
 rotate_left
 ·rw[add64 hA (by omega) (by omega)]
  refine ih (j+1) (J+1) h (by omega) (by omega) (by omega) ?_ st;have e:Ext.lowV w F c (j+1) (F r)=Ext.lowV w F c j (F r):=by
   show(if c<Ext.leadV w (F j)then _ else _)=_;rw[if_neg];by_cases ej:j=r
   ·rw[ej,<-ec];omega
   ·rw[hGn j ej]at eL;omega
  rw[e,<-eG];exact m
 have hjr:j≠r:=fun e=>by
  rw[e,hGr,ec,Ext.low_lead]at eL;omega
 rw[hGn j hjr]at eL;obtain⟨l,el⟩:∃z,z=Ext.leadV w (F j):=⟨_,rfl⟩;rw[<-el]at eL;obtain⟨p1,p2⟩:=hp j cj (by omega);rw[<-el]at p1 p2;have x9:Ext h (bump h 12):=ext_bump hA _ _;have m9:=m.more x9;obtain⟨a,ha⟩:∃z,z=G r l:=⟨_,rfl⟩;obtain⟨b',hb'⟩:∃z,z=F j l:=⟨_,rfl⟩;rw[<-hb']at p2;have r2:rd (bump h 12) (bs r) (place 0 L 1) 1 [.int .i64 a]:=rd_ok hA (by rw[eL,ha];exact m9.rows.el hr p1);have r3:rd (bump h 12) (bs j) (place 0 L 1) 1 [.int .i64 b']:=rd_ok hA (by
  rw[eL,hb',<-hGn j hjr];exact m9.rows.el hjn p1)
 refine zq ?_;have ho:=hok j cj (by omega);refine sfloor_ok hA p2 (by have:=(ho l).1;rw[ha,hGr];omega) (by have:=(ho l).1;rw[ha,hGr];omega) (low_fresh hA _) (fun q eq=>⟨q,rfl,?_⟩);refine zq ?_;obtain⟨X,hX⟩:∃z,z=lowered (bump h 12) (fresh (bump h 12)):=⟨_,rfl⟩;have xX:Ext h X:=by rw[hX];exact ext_low hA hl1 x9 (.refl _)
 rw[<-hX];have eq2:q=Ext.lowV w F c j (F r) l / F j l:=by rw[eq,ha,hGr,hb']
 refine take_ok hA (low_fresh hA X) hr hjn hw (fun x hx=>?_) (m.rows.more (xX.trans (ext_fresh hA X))) (fun h' m' st'=>?_)
 ·have:=ho x
  rw[hGr,hGn j hjr,eq2];rw[show Ext.lowV w F c (j+1) (F r) x=Ext.lowV w F c j (F r) x-Ext.lowV w F c j (F r) l / F j l*F j x by
   show(if c<Ext.leadV w (F j)then(fun x=>Ext.lowV w F c j (F r) x-Ext.lowV w F c j (F r) (Ext.leadV w (F j)) / F j (Ext.leadV w (F j))*F j x)else _) x=_;rw[if_pos (by omega),el]]at this
  rw[<-el]at this;exact this
 refine zq ?_;rw[add64 hA (by omega) (by omega)];have st2:=(st.ext (xX.trans (ext_fresh hA X))).trans st';have st3:Only hs (lowered X h') (bs r):=by rw[e_lowered hA];exact⟨st2.next,st2.get⟩
 have st4:Only h (lowered X h') (bs r):=by
  have:=((Only.refl h (bs r)).ext (xX.trans (ext_fresh hA X))).trans st';rw[e_lowered hA];exact⟨this.next,this.get⟩
 have m2:RowsB h0 (lowered X h') n w bs (Ext.put G r (fun x=>G r x-q*G j x)):=by
  rw[e_lowered hA];exact⟨Ext.lower' m'.ext (m.rows.ext.trans xX) hlow,m'.row,m'.old,m'.lt,m'.inj⟩
 refine ih (j+1) (J+1) _ (by omega) (by omega) (by omega) ?_ st3;have e:Ext.put G r (fun x=>G r x-q*G j x)=Ext.put F r (Ext.lowV w F c (j+1) (F r)):=by
  rw[eG,Ext.put_same,<-eG,hGr,hGn j hjr,eq2]
  congr 1
  show _=(if c<Ext.leadV w (F j)then(fun x=>Ext.lowV w F c j (F r) x-Ext.lowV w F c j (F r) (Ext.leadV w (F j)) / F j (Ext.leadV w (F j))*F j x)else _);rw[if_pos (by omega),el]
 rw[<-e];exact m.put hr m2 st4
theorem lower_ok{h0 h:AHeap}(hl0:h0.low<=h0.next){sb k n w rc r:Nat}{ra:Option Addr}{bs:Nat->Nat}{F:Nat->Ext.Vec}(hk:k<=10)(hr:r<n)(hw:w<=1000)(hp:∀y,y<k->Ext.leadV w (F r)<Ext.leadV w (F y)->Ext.leadV w (F y)<w/\0<F y (Ext.leadV w (F y)))(hok:Ext.LowOK w F (Ext.leadV w (F r)) k (F r))(m:Stm h0 h sb k n w ra rc bs F){cw:Nat}(ecw:cw=someCap 1 w){Q:Value->AHeap->Prop}
  (hQ:∀h',Stm h0 h' sb k n w ra rc bs (Ext.put F r (Ext.lowV w F (Ext.leadV w (F r)) k (F r)))->Only h h' (bs r)->Q (.tuple #[]) h') :
  call 98 [.pointer (some ⟨sb,0,none⟩),.slice (some ⟨bs r,0,none⟩) w cw] h Q:=by
 obtain⟨K,eK⟩:∃z:Int,z=k:=⟨_,rfl⟩;have e1:ofNat k=K:=by rw[eK];exact e_ofNat hA k
 have hlow:h.low<=h.next:=m.rows.ext.lowOK hl0;have r1:rd h sb (addN 0 0) 1 [.slice ra k rc]:=by rw[e_addN hA];exact rd_at hA (m.own.readG (o:=0) (n:=1) (Nat.le_refl _))
 refine hA.bodyR Try.func98 r98_ok (hA.alike _ _ _ rfl) hlow (zc ?_);refine zq ?_;refine lead_ok hA hlow hw (fun x hx=>m.rows.el hr hx) (fun L eL=>?_);refine⟨L,rfl,?_⟩
 (refine zq ?_;repeat ((first|rw[e1]);refine zq ?_))
 refine lower_loop hA (sb:=sb) hl0 hk hr hw rfl hp hok eL eK ecw (fun h' kn T m2 st=>?_) k 0 0 h (by omega) (by omega) rfl ?_ (.refl _ _)
 ·refine zc ?_
  exact hQ h' m2 st
 ·have:Ext.put F r (Ext.lowV w F (Ext.leadV w (F r)) 0 (F r))=F:=Ext.put_self
  rw[this];exact m
end Go.Proofs.Ytdpbiegfljmhmaa
namespace Go.Proofs.Ytdpbiegfljmhmaa
open Go.Sim
set_option maxRecDepth 100000
theorem RowsB.perm{h0 h:AHeap}{n w:Nat}{bs:Nat->Nat}{F:Nat->Ext.Vec}(t:RowsB h0 h n w bs F){σ:Nat->Nat}(hs:∀y,y<n->σ y<n)(hi:∀y z,y<n->z<n->σ y=σ z->y=z):RowsB h0 h n w (fun y=>bs (σ y)) (fun y=>F (σ y)):=
 ⟨t.ext,fun y hy=>t.row _ (hs y hy),fun y hy=>t.old _ (hs y hy),fun y hy=>t.lt _ (hs y hy),fun y z hy hz e=>hi y z hy hz (t.inj _ _ (hs y hy) (hs z hz) e)⟩
theorem swN_lt{a b n:Nat}(ha:a<n)(hb:b<n):∀y,y<n->swN a b y<n:=fun y hy=>by unfold swN;split<;>(try split)<;>omega
theorem swN_inj{a b:Nat}(y z:Nat)(q:swN a b y=swN a b z):y=z:=by unfold swN at q;split at q<;>(try split at q)<;>(try split at q)<;>(try split at q)<;>omega
theorem Stm.swap{h0 h:AHeap}{sb k w rc:Nat}{ra:Option Addr}{bs:Nat->Nat}{F:Nat->Ext.Vec}(t:Stm h0 h sb k (k+1) w ra rc bs F){a:Nat}(ha:a<k) :
  ∃b h2,ra=some ⟨b,0,none⟩/\h.write b (0+a*1) [.slice (some ⟨bs k,0,none⟩) w (someCap 1 w)]=some h2/\Stm h0 h2 sb k (k+1) w ra rc (fun y=>bs (swN a k y)) (fun y=>F (swN a k y)):=by
 rcases t.apd with ⟨_,q,_⟩|⟨b,rfl,ec,hb,hl,ho⟩
 ·omega
 have hlen:(hdS bs w k).length=k:=lst_len _ _;obtain⟨h2,w1,w2,w3⟩:=Own.setRow ho hd_len (i:=a) (by rw[hlen];exact ha) (⟨some ⟨bs k,0,none⟩,w,someCap 1 w⟩:Hd);have hnr:=t.nra ⟨b,0,none⟩ rfl;have e:(hdS bs w k).set a ⟨some ⟨bs k,0,none⟩,w,someCap 1 w⟩=hdS (fun y=>bs (swN a k y)) w k:=by
  unfold hdS;rw[lst_set];refine lst_congr (fun y hy=>?_);by_cases c:y=a
  ·simp only[swN,if_pos c]
  ·simp only[swN,if_neg c,if_neg (show ¬y=k by omega)]
 rw[e]at w2;have hp:=t.rows.perm (swN_lt (a:=a) (b:=k) (n:=k+1) (by omega) (by omega)) (fun y z _ _ q=>swN_inj y z q);have xe:Ext h0 h2:=w3.ext t.rows.ext (t.fr _ rfl);refine⟨b,h2,rfl,by rw[Nat.zero_add];exact w1,⟨hp.keep xe (by rw[w3.next];exact Nat.le_refl _) (fun y hy=>w3.get _ (fun q=>hnr.2 _ (swN_lt (a:=a) (b:=k) (n:=k+1) (by omega) (by omega) y hy) q.symm)),t.own.of_get (w3.get _ (fun q=>hnr.1 q.symm)),?_,t.kn,t.s0,by rw[w3.next];exact t.s1,t.fr,fun y hy=>t.nsb _ (swN_lt (by omega) (by omega) y hy),fun ad had=>?_⟩⟩
 ·refine .inr ⟨b,rfl,ec,by rw[w3.next];exact hb,?_,w2⟩
  rw[flatE_len hd_len];unfold hdS;rw[lst_len]
 ·cases had
  exact⟨hnr.1,fun y hy=>hnr.2 _ (swN_lt (by omega) (by omega) y hy)⟩
def insN(a k:Nat):Nat->Nat:=fun y=>if y<a then y else if y=a then k else y-1
theorem insN_lt{a k:Nat}(ha:a<=k):∀y,y<k+1->insN a k y<k+1:=fun y hy=>by unfold insN;split<;>(try split)<;>omega
theorem insN_inj{a k:Nat}(ha:a<=k)(y z:Nat)(hy:y<k+1)(hz:z<k+1)(q:insN a k y=insN a k z):y=z:=by unfold insN at q;split at q<;>(try split at q)<;>(try split at q)<;>(try split at q)<;>omega
theorem hd_ins{bs:Nat->Nat}{w k a:Nat}(ha:a<=k):(hdS bs w k).take a++(⟨some ⟨bs k,0,none⟩,w,someCap 1 w⟩:Hd) :: (hdS bs w k).drop a=hdS (fun y=>bs (insN a k y)) w (k+1):=by
 have hlen:(hdS bs w k).length=k:=lst_len _ _;apply List.ext_getElem?;intro j;have ht:((hdS bs w k).take a).length=a:=by rw[List.length_take,hlen,Nat.min_eq_left ha]
 by_cases c:j<k+1
 ·rw[show(hdS (fun y=>bs (insN a k y)) w (k+1))[j]?=_ from lst_at _ c]
  rcases Nat.lt_trichotomy j a with q|q|q
  ·rw[List.getElem?_append_left (by omega),List.getElem?_take,if_pos q]
   unfold hdS;rw[lst_at _ (by omega)];simp only[insN,if_pos q]
  ·rw[List.getElem?_append_right (by omega),ht,q,Nat.sub_self]
   simp only[insN,if_neg (show ¬a<a by omega),if_true];rfl
  ·rw[List.getElem?_append_right (by omega),ht,show j-a=(j-a-1)+1 by omega,List.getElem?_cons_succ,List.getElem?_drop,show a+(j-a-1)=j-1 by omega]
   unfold hdS;rw[lst_at _ (by omega)];simp only[insN,if_neg (show ¬j<a by omega),if_neg (show ¬j=a by omega)]
 ·rw[List.getElem?_eq_none (by rw[List.length_append,List.length_cons,ht,List.length_drop,hlen];omega),List.getElem?_eq_none (by unfold hdS;rw[lst_len];omega)]
theorem insR_perm{F:Nat->Ext.Vec}{a k:Nat}(ha:a<=k):∀y,y<k+1->F (insN a k y)=Ext.insR F a (F k) y:=fun y hy=>by
 unfold insN Ext.insR;by_cases c:y<a
 ·rw[if_pos c,if_pos c]
 ·rw[if_neg c,if_neg c]
  by_cases c2:y=a
  ·rw[if_pos c2,if_pos c2]
  ·rw[if_neg c2,if_neg c2]
theorem Stm.ins{h0 h h2:AHeap}{sb k w rc:Nat}{ra:Option Addr}{bs:Nat->Nat}{F:Nat->Ext.Vec}(t:Stm h0 h sb k (k+1) w ra rc bs F){a:Nat}(ha:a<=k){b:Nat}(hx:Ext h0 h2)(hn:h.next<=h2.next)(hg:∀i,i<h.next->(∀ad,ra=some ad->ad.block≠i)->h2.m.get i=h.m.get i)(hb:h.next<=b)(hb2:b<h2.next)
  (ho:Own h2 b 1 (((hdS bs w k).take a++(⟨some ⟨bs k,0,none⟩,w,someCap 1 w⟩:Hd) :: (hdS bs w k).drop a).flatMap Hd.cells)) :
  ∃h3,h2.write sb 0 [.slice (some ⟨b,0,none⟩) (k+1) (someCap 1 (k+1))]=some h3/\Stm h0 h3 sb (k+1) (k+1) w (some ⟨b,0,none⟩) (someCap 1 (k+1)) (fun y=>bs (insN a k y)) (fun y=>F (insN a k y)):=by
 rw[hd_ins ha]at ho;have os:Own h2 sb 1 [.slice ra k rc]:=t.own.of_get (hg sb t.s1 (fun ad had=>(t.nra ad had).1));obtain⟨h3,w1,w2,w3⟩:=os.write (o:=0) (vs:=[.slice (some ⟨b,0,none⟩) (k+1) (someCap 1 (k+1))]) (Nat.le_refl _);have s0:=t.s0;have s1:=t.s1;have hp:=t.rows.perm (insN_lt ha) (insN_inj ha);have x3:Ext h0 h3:=w3.ext hx s0;refine⟨h3,w1,hp.keep x3 (by rw[w3.next];exact hn) (fun y hy=>?_),w2,.inr ⟨b,rfl,rfl,by rw[w3.next];exact hb2,?_,ho.of_get (w3.get _ (by omega))⟩,Nat.le_refl _,s0,by rw[w3.next];omega,?_,fun y hy=>t.nsb _ (insN_lt ha y hy),fun ad had=>?_⟩
 ·have hy':=insN_lt ha y hy
  rw[w3.get _ (t.nsb _ hy'),hg _ (t.rows.lt _ hy') (fun ad had=>(t.nra ad had).2 _ hy')]
 ·rw[flatE_len hd_len];unfold hdS;rw[lst_len]
 ·intro ad had;cases had;have:=t.rows.ext.next;show h0.next<=b;omega
 ·cases had
  exact⟨by show b≠sb;omega,fun y hy=>by have:=t.rows.lt _ (insN_lt ha y hy);show b≠_;omega⟩
variable{F:Prims}{call head arith cmp scmp bnot bsame conv neg imax imin ofNat slen place inR nz geZ rd wr push next mkOK nat zeros sadd eqAgg cut slc sslc strAt part app cpy putAt fresh lowered bump wrote addN lt ne fpAll fpApp brk yn rng mget mput mnew bytes clr:_}(hA:AP F ⟨call,head,arith,cmp,scmp,bnot,bsame,conv,neg,imax,imin,ofNat,slen,place,inR,nz,geZ,rd,wr,push,next,mkOK,nat,zeros,sadd,eqAgg,cut,slc,sslc,strAt,part,app,cpy,putAt,fresh,lowered,bump,wrote,addN,lt,ne,fpAll,fpApp,brk,yn,rng,mget,mput,mnew,bytes,clr⟩)
include hA
theorem find_loop{h0 h:AHeap}(hl0:h0.low<=h0.next){sb k n w rc c r:Nat}{ra:Option Addr}{bs:Nat->Nat}{F:Nat->Ext.Vec}(hk:k<=10)(hr:r<n)(hw:w<=1000)(m:Stm h0 h sb k n w ra rc bs F){C:Int}(eC:C=c){cw:Nat}(ecw:cw=someCap 1 w){Q:Exit->SS->Prop}
  (hQ:∀(kn:Nat) (T:List (Nat×List Value)) (a:Nat) (I:Int),I=a->a<=k->(∀y,y<a->Ext.leadV w (F y)<c)->(a<k->c<=Ext.leadV w (F a))->Q (.exit 2) ⟨[(0,.pointer (some ⟨sb,0,none⟩)),(1,.slice (some ⟨bs r,0,none⟩) w cw),(4,.func (.func 98) #[.pointer (some ⟨sb,0,none⟩)] #[]),(5,.int .i64 C),(6,.int .i64 I)],kn,T,h⟩) :
  ∀(d j:Nat) (J:Int),k-j<=d->j<=k->J=j->(∀y,y<j->Ext.leadV w (F y)<c)->
   head 85 5 0 ⟨[(0,.pointer (some ⟨sb,0,none⟩)),(1,.slice (some ⟨bs r,0,none⟩) w cw),(4,.func (.func 98) #[.pointer (some ⟨sb,0,none⟩)] #[]),(5,.int .i64 C),(6,.int .i64 J)],0,[],h⟩ Q:=by
 intro d;have hlow:h.low<=h.next:=m.rows.ext.lowOK hl0;obtain⟨K,eK⟩:∃z:Int,z=k:=⟨_,rfl⟩;have e1:ofNat k=K:=by rw[eK];exact e_ofNat hA k
 have r1:rd h sb (addN 0 0) 1 [.slice ra k rc]:=by rw[e_addN hA];exact rd_at hA (m.own.readG (o:=0) (n:=1) (Nat.le_refl _))
 have hkn:=m.kn
 induction d with
 |zero=>
  intro j J hd hj eJ hz;refine hA.roundR Try.func85 r85_ok (zc ?_)
  (refine zq ?_;repeat ((first|rw[e1]);refine zq ?_))
  refine br (J<K) (by rw[e_lss hA]) (fun q=>by omega) (fun _=>?_)<;>refine zc ?_;refine zq ?_;exact hQ _ _ j J eJ hj hz (fun q=>by omega)
 |succ d ih=>
 intro j J hd hj eJ hz;refine hA.roundR Try.func85 r85_ok (zc ?_)
 (refine zq ?_;repeat ((first|rw[e1]);refine zq ?_))
 refine br (J<K) (by rw[e_lss hA]) (fun cj=>?_) (fun cj=>?_)<;>refine zc ?_
 rotate_left
 ·refine zq ?_
  exact hQ _ _ j J eJ hj hz (fun q=>by omega)
 obtain⟨b,rfl,hb,q1⟩:=m.head (y:=j) (by omega);rw[<-ecw]at q1;have r2:rd h b (place 0 J 1) 1 [.slice (some ⟨bs j,0,none⟩) w cw]:=rd_ok hA (by rw[eJ];exact q1);refine zq ?_;refine lead_ok hA hlow hw (fun x hx=>m.rows.el (show j<n by omega) hx) (fun L eL=>⟨L,rfl,?_⟩);refine zq ?_;refine br (L<C) (by rw[e_lss hA]) (fun cl=>?_) (fun cl=>?_)<;>refine zc ?_
 ·refine zq ?_
  rw[add64 hA (by omega) (by omega)];exact ih (j+1) (J+1) (by omega) (by omega) (by omega) (fun y hy=>by
   by_cases e:y=j
   ·rw[e];omega
   ·exact hz y (by omega))
 ·refine zq ?_
  exact hQ _ _ j J eJ hj hz (fun _=>by omega)
end Go.Proofs.Ytdpbiegfljmhmaa
namespace Go.Proofs.Ytdpbiegfljmhmaa
open Go.Sim
set_option maxRecDepth 100000
structure InsC(F:Prims):Prop where
 ins:∀a h r,insertF a h=some r->F 100 a h=some r
 non:∀a h,insertF a h=none->F 100 a h=none
theorem prims0_ins:InsC prims0:=⟨fun a h r q=>by unfold prims0 withH;rw[Nat.beq_refl];simp only[cond_true,q],fun a h q=>by unfold prims0 withH;rw[Nat.beq_refl];simp only[cond_true,q];rfl⟩
theorem flat_map(l:List Hd):l.flatMap Hd.cells=l.map (fun d=>.slice d.a d.n d.c):=by
 induction l with
 |nil=>rfl
 |cons d l ih=>rw[List.flatMap_cons,ih];rfl
theorem insertF_end{ra:Option Addr}{k rc vb:Nat}(h:AHeap):insertF [.slice ra k rc,.int .i64 (k:Int),.slice (some ⟨vb,0,none⟩) 1 1] h=none:=by
 cases hc:insertF [.slice ra k rc,.int .i64 (k:Int),.slice (some ⟨vb,0,none⟩) 1 1] h with
 |none=>rfl
 |some p=>
  exfalso;obtain⟨b,n,i,vb2,cs,v,e,_,_,_,hi,_⟩:=insertF_spec (r:=p.1) (h':=p.2) hc;simp only[List.cons.injEq,Value.slice.injEq,Value.int.injEq]at e;obtain⟨⟨_,e1,_⟩,⟨_,e2⟩,_⟩:=e;have:(k:Int)=(i:Int):=e2;omega
theorem hd_okS(bs:Nat->Nat)(w k:Nat):((hdS bs w k).flatMap Hd.cells).all cellOK=true:=by
 rw[flat_map,List.all_eq_true];intro v hv;obtain⟨d,hd,rfl⟩:=List.mem_map.1 hv;unfold hdS lst at hd;obtain⟨y,_,rfl⟩:=List.mem_map.1 hd;rfl
variable{F:Prims}{call head arith cmp scmp bnot bsame conv neg imax imin ofNat slen place inR nz geZ rd wr push next mkOK nat zeros sadd eqAgg cut slc sslc strAt part app cpy putAt fresh lowered bump wrote addN lt ne fpAll fpApp brk yn rng mget mput mnew bytes clr:_}(hA:AP F ⟨call,head,arith,cmp,scmp,bnot,bsame,conv,neg,imax,imin,ofNat,slen,place,inR,nz,geZ,rd,wr,push,next,mkOK,nat,zeros,sadd,eqAgg,cut,slc,sslc,strAt,part,app,cpy,putAt,fresh,lowered,bump,wrote,addN,lt,ne,fpAll,fpApp,brk,yn,rng,mget,mput,mnew,bytes,clr⟩)
include hA
theorem ins_call(hI:InsC F){h0 h:AHeap}(hl0:h0.low<=h0.next){k w rc vb a:Nat}{ra:Option Addr}{bs:Nat->Nat}(hx:Ext h0 h)(hk:k<=10)(hp:Apd h 1 ra k rc ((hdS bs w k).flatMap Hd.cells))(fr:From h0.next ra)(ha:a<=k){I:Int}(eI:I=a)(hv:Own h vb 1 (Hd.cells ⟨some ⟨bs k,0,none⟩,w,someCap 1 w⟩))(hvb:vb<h.next)(hne:∀ad,ra=some ad->ad.block≠vb){Q:Value->AHeap->Prop}
  (hQ:∀b h2,Ext h0 h2->h.next<=h2.next->(∀i,i<h.next->(∀ad,ra=some ad->ad.block≠i)->h2.m.get i=h.m.get i)->h.next<=b->b<h2.next->
   Own h2 b 1 (((hdS bs w k).take a++(⟨some ⟨bs k,0,none⟩,w,someCap 1 w⟩:Hd) :: (hdS bs w k).drop a).flatMap Hd.cells)->Q (.slice (some ⟨b,0,none⟩) (k+1) (someCap 1 (k+1))) h2) :
  call 100 [.slice ra k rc,.int .i64 I,.slice (some ⟨vb,0,none⟩) 1 1] h Q:=by
 have hlow:h.low<=h.next:=hx.lowOK hl0;have hlen:(hdS bs w k).length=k:=lst_len _ _;by_cases c:a<k
 ·rcases hp with ⟨_,q,_⟩|⟨b0,rfl,ec,hb,hl,ho⟩
  ·omega
  have hb0:h0.next<=b0:=fr _ rfl;have e:(((hdS bs w k).take a++(⟨some ⟨bs k,0,none⟩,w,someCap 1 w⟩:Hd) :: (hdS bs w k).drop a).flatMap Hd.cells)=((hdS bs w k).flatMap Hd.cells).take a++(.slice (some ⟨bs k,0,none⟩) w (someCap 1 w)) :: ((hdS bs w k).flatMap Hd.cells).drop a:=by
   rw[flat_map,flat_map,List.map_append,List.map_cons,List.map_take,List.map_drop]
  have key:insertF [.slice (some ⟨b0,0,none⟩) k rc,.int .i64 I,.slice (some ⟨vb,0,none⟩) 1 1] h=some (.slice (some ⟨h.next,0,none⟩) (k+1) (someCap 1 (k+1)),(h.kill b0).push 1 (((hdS bs w k).flatMap Hd.cells).take a++(.slice (some ⟨bs k,0,none⟩) w (someCap 1 w)) :: ((hdS bs w k).flatMap Hd.cells).drop a)):=by
   unfold insertF;have q1:h.m.get b0=some (.live true 1 ((hdS bs w k).flatMap Hd.cells)):=ho;have q2:h.m.get vb=some (.live true 1 [.slice (some ⟨bs k,0,none⟩) w (someCap 1 w)]):=hv;simp only[q1,q2];have z1:Nat.beq rc (someCap 1 k)=true:=by rw[ec];exact Nat.beq_refl _
   have z2:Nat.beq ((hdS bs w k).flatMap Hd.cells).length k=true:=by rw[hl,Nat.mul_one];exact Nat.beq_refl _
   have z3:decide (0<=I/\I<k)=true:=by simp;omega
   have z4:((hdS bs w k).flatMap Hd.cells).all isHd=true:=by
    rw[flat_map,List.all_eq_true];intro v hv;obtain⟨d,hd,rfl⟩:=List.mem_map.1 hv;unfold hdS lst at hd;obtain⟨y,_,rfl⟩:=List.mem_map.1 hd;rfl
   have z5:Nat.beq b0 vb=false:=nbeq (hne _ rfl);have z6:Nat.ble k 1000=true:=ble_true (by omega);simp only[z1,z2,z3,z4,z5,z6,isHd,Bool.and_self,Bool.not_false,cond_true];rw[show I.toNat=a by omega]
  refine hA.prim (hI.ins _ _ _ key) ?_;have x1:Ext h0 ((h.kill b0).push 1 (((hdS bs w k).flatMap Hd.cells).take a++(.slice (some ⟨bs k,0,none⟩) w (someCap 1 w)) :: ((hdS bs w k).flatMap Hd.cells).drop a)):=(hx.kill hb0).trans (.push _ _ _);refine hQ h.next _ x1 (Nat.le_succ _) (fun i hi hni=>?_) (Nat.le_refl _) (Nat.lt_succ_self _) ?_
  ·show((h.m.set b0 .dead).set h.next _).get i=_
   rw[Tri.get_set_ne _ _ (by omega),Tri.get_set_ne _ _ (hni _ rfl)]
  ·rw[e];exact Own.push (h.kill b0) 1 _
 ·obtain rfl:a=k:=by omega
  have hnone:F 100 [.slice ra a rc,.int .i64 I,.slice (some ⟨vb,0,none⟩) 1 1] h=none:=by rw[eI];exact hI.non _ _ (insertF_end h)
  have e1:ofNat 1=1:=e_ofNat hA 1;have e2:ofNat a=I:=by rw[eI];exact e_ofNat hA a
  have hcap:rc=someCap 1 a\/(a=0/\ra=none/\rc=0):=by
   rcases hp with ⟨q1,q2,q3,_⟩|⟨b0,_,ec,_⟩
   ·exact .inr ⟨q2,q1,q3⟩
   ·exact .inl ec
  refine hA.bodyR Try.func100 r100_ok hnone hlow (zc ?_);rw[eI];refine slc_from hA TLL (by omega) hcap hp.cells (Nat.le_refl a) (fun a' c' _=>?_);rw[<-eI]
  (refine zq ?_;repeat ((first|rw[e1]);refine zq ?_))
  refine br ((1:Int)=0) (by rw[e_eql hA]) (fun q=>by omega) (fun _=>?_)<;>refine zc ?_
  (refine zq ?_;repeat ((first|rw[e2]);refine zq ?_))
  refine br (I=I) (by rw[e_eql hA]) (fun _=>?_) (fun q=>absurd rfl q)<;>refine zc ?_;refine zq ?_;rw[e_app hA];have hs:Cells h (some ⟨vb,0,none⟩) 1 1 (Hd.cells ⟨some ⟨bs a,0,none⟩,w,someCap 1 w⟩):=⟨rfl,hvb,hv.readG (o:=0) (n:=1) (Nat.le_refl _)⟩;obtain⟨a',c',h',q1,q2,q3,q4,q5,q6⟩:=append_keep TLL TLL.und (c2:=1) hp hs (hd_okS bs w a) rfl (by omega) (by omega);obtain⟨x1,_⟩:=q3 h0 hx fr;rcases q2 with ⟨_,w',_⟩|⟨b',rfl,rfl,w1,w2,w3⟩
  ·omega
  refine⟨_,_,_,h',q1,?_⟩;have hq:=hQ b' h' x1 q4 (fun i hi hni=>q6 i hi hni) (q5 _ rfl) w1 (by
   rw[List.take_of_length_le (by omega),List.drop_eq_nil_of_le (by omega),List.flatMap_append];simpa using w3)
  generalize someCap 1 (a+1)=cc at *;generalize a+1=a1 at *;refine zq ?_;exact hq
end Go.Proofs.Ytdpbiegfljmhmaa
namespace Go.Proofs.Ytdpbiegfljmhmaa
open Go.Sim
set_option maxRecDepth 100000
theorem aliveRun:saysTrue ((execA Try.prog noHint primsP 10000).call 16 [] emptyH)=true:=by kernel_rfl
theorem prims_ok:CallOK Try.prog prims:=withTrue_ok (execA_ok mixed primsP_ok primsP_keep named 10000).2.2.1 Try.func16 (by kernel_rfl) (named 16 _ Try.func16) aliveRun prims0_ok
theorem prims_alike(g:FuncId)(args:List Value)(h:AHeap)(hg:own g=false):prims g args h=primsB g args h:=by
 rw[<-prims0_like g args h hg];unfold own at hg;simp only[Bool.or_eq_false_iff]at hg;unfold prims withTrue;rw[hg.1.1];rfl
theorem alive_prim(h:AHeap):prims 16 [] h=some (.bool true,h):=rfl
end Go.Proofs.Ytdpbiegfljmhmaa
namespace Go.Proofs.Ytdpbiegfljmhmaa
open Go.Sim
theorem prims_ins:InsC prims:=⟨fun a h r q=>prims0_ins.ins a h r q,fun a h q=>prims0_ins.non a h q⟩
