import Derived.Test.YtdpbiegfljmhmaaSmIn
set_option linter.unusedSimpArgs false
set_option linter.unusedVariables false
namespace Go.Proofs.Ytdpbiegfljmhmaa
open Go.Sim
set_option maxRecDepth 100000
def hdS(bs:Nat->Nat)(w k:Nat):List Hd:=lst (fun y=>(⟨some ⟨bs y,0,none⟩,w,someCap 1 w⟩:Hd)) k
structure Stm(h0 h:AHeap)(sb k n w:Nat)(ra:Option Addr)(rc:Nat)(bs:Nat->Nat)(F:Nat->Ext.Vec):Prop where
 rows:RowsB h0 h n w bs F
 own:Own h sb 1 [.slice ra k rc]
 apd:Apd h 1 ra k rc ((hdS bs w k).flatMap Hd.cells)
 kn:k<=n
 s0:h0.next<=sb
 s1:sb<h.next
 fr:From h0.next ra
 nsb:∀y,y<n->bs y≠sb
 nra:∀ad,ra=some ad->ad.block≠sb/\∀y,y<n->ad.block≠bs y
section
variable{h0 h:AHeap}{sb k n w rc:Nat}{ra:Option Addr}{bs:Nat->Nat}{F:Nat->Ext.Vec}
theorem Stm.head(t:Stm h0 h sb k n w ra rc bs F){y:Nat}(hy:y<k):∃b,ra=some ⟨b,0,none⟩/\b<h.next/\h.readG ⟨b,0+y*1,none⟩ 1=some [.slice (some ⟨bs y,0,none⟩) w (someCap 1 w)]:=by
 rcases t.apd with ⟨_,q,_⟩|⟨b,e,_,hb,hl,ho⟩
 ·omega
 refine⟨b,e,hb,?_⟩;have r:=Own.rows ho hd_len (by omega) hb;rw[show(hdS bs w k).length=k from lst_len _ _]at r;obtain⟨b',o,e',_,q⟩:=r.at (i:=(y:Int)) (by omega) (by omega);cases e';have:=q 0 1 (by omega) (by omega);unfold hdS at this;rw[lst_gt _ hy]at this;exact this
theorem Stm.more{h':AHeap}(t:Stm h0 h sb k n w ra rc bs F)(e:Ext h h'):Stm h0 h' sb k n w ra rc bs F:=
 ⟨t.rows.more e,t.own.ext e t.s1,t.apd.ext e,t.kn,t.s0,Nat.lt_of_lt_of_le t.s1 e.next,t.fr,t.nsb,t.nra⟩
theorem Stm.put{h':AHeap}{G:Nat->Ext.Vec}{r:Nat}(t:Stm h0 h sb k n w ra rc bs F)(hr:r<n)(m:RowsB h0 h' n w bs G)(o:Only h h' (bs r)):Stm h0 h' sb k n w ra rc bs G:=
 ⟨m,t.own.of_get (o.get sb t.s1 (fun e=>t.nsb r hr e.symm)),t.apd.of_get o.next (fun ad had hl=>o.get _ hl ((t.nra ad had).2 r hr)),t.kn,t.s0,Nat.lt_of_lt_of_le t.s1 o.next,t.fr,t.nsb,t.nra⟩
theorem Stm.congr{G:Nat->Ext.Vec}(t:Stm h0 h sb k n w ra rc bs F)(e:∀y x,y<n->x<w->F y x=G y x):Stm h0 h sb k n w ra rc bs G:=
 ⟨t.rows.congr e,t.own,t.apd,t.kn,t.s0,t.s1,t.fr,t.nsb,t.nra⟩
end
theorem Ext.low_front{w:Nat}{F:Nat->Ext.Vec}{c:Nat}{v:Ext.Vec}:∀y,∀j,j<=c->Ext.lowV w F c y v j=v j
 |0,j,_=>rfl
 |y+1,j,hj=>by
  show(if c<Ext.leadV w (F y)then(fun j=>Ext.lowV w F c y v j-Ext.lowV w F c y v (Ext.leadV w (F y)) / F y (Ext.leadV w (F y))*F y j)else Ext.lowV w F c y v) j=v j;split
  ·rename_i q
   show Ext.lowV w F c y v j-Ext.lowV w F c y v (Ext.leadV w (F y)) / F y (Ext.leadV w (F y))*F y j=v j;rw[Ext.leadV_zero (w:=w) (v:=F y) (j:=j) (by omega),Int.mul_zero,Int.sub_zero];exact Ext.low_front y j hj
  ·exact Ext.low_front y j hj
theorem Ext.low_lead{w:Nat}{F:Nat->Ext.Vec}{v:Ext.Vec}(y:Nat):Ext.leadV w (Ext.lowV w F (Ext.leadV w v) y v)=Ext.leadV w v:=
 Ext.leadV_eq (Ext.leadV_le _ _) (fun j hj=>by rw[Ext.low_front y j (by omega)];exact Ext.leadV_zero hj) (fun q=>by rw[Ext.low_front y _ (Nat.le_refl _)];exact Ext.leadV_ne q)
variable{F:Prims}{call head a0 b0 c0 d0 e0 f0 g0 i0 j0 ofNat k0 place l0 nz m0 rd wr n0 next o0 p0 q0 r0 t0 u0 v0 w0 x0 y0 z0 a1 b1 fresh lowered bump c1 addN lt ne d1 f1 g1 yn h1 i1 j1 k1 l1 m1:_}(hA:AP F ⟨call,head,a0,b0,c0,d0,e0,f0,g0,i0,j0,ofNat,k0,place,l0,nz,m0,rd,wr,n0,next,o0,p0,q0,r0,t0,u0,v0,w0,x0,y0,z0,a1,b1,fresh,lowered,bump,c1,addN,lt,ne,d1,f1,g1,yn,h1,i1,j1,k1,l1,m1⟩)
include hA
theorem lower_loop{h0 hs:AHeap}(hlow:h0.low<=h0.next){sb k n w rc r c:Nat}{ra:Option Addr}{bs:Nat->Nat}{F:Nat->Ext.Vec}(hk:k<=10)(hr:r<n)(hw:w<=1000)(ec:c=Ext.leadV w (F r))(hp:∀y,y<k->c<Ext.leadV w (F y)->Ext.leadV w (F y)<w/\0<F y (Ext.leadV w (F y)))(hok:Ext.LowOK w F c k (F r)){C K:Int}(eC:C=c)(eK:K=k){cw:Nat}(ecw:cw=someCap 1 w){Q:Exit->SS->Prop}
  (hQ:∀(h':AHeap) (kn:Nat) (T:List (Nat×List Value)),Stm h0 h' sb k n w ra rc bs (Ext.put F r (Ext.lowV w F c k (F r)))->Only hs h' (bs r)->Q (.exit 0) ⟨[],kn,T,h'⟩) :
  ∀(d j:Nat) (J:Int) (h:AHeap),k-j<=d->j<=k->J=j->Stm h0 h sb k n w ra rc bs (Ext.put F r (Ext.lowV w F c j (F r)))->Only hs h (bs r)->
   head 98 2 0 ⟨[(1,.slice (some ⟨bs r,0,none⟩) w cw),(4,.int .i64 C),(13,.slice ra k rc),(14,.int .i64 K),(15,.int .i64 J)],0,[],h⟩ Q:=by
 refine upTo (fun d ih=>?_);intro j J h hd hj eJ m st;by_cases cj:j<k
 rotate_left
 ·refine hA.roundR Try.func98 r98_ok (zc ?_)
  refine br (J<K) (by rw[e_lss hA]) (fun q=>by omega) (fun _=>?_)<;>refine zc ?_;obtain rfl:j=k:=by omega
  exact hQ h _ _ m st
 obtain⟨d,rfl⟩:∃k,d=k+1:=⟨d-1,by omega⟩
 replace ih:=ih d rfl
 obtain⟨b,rfl,hb,q1⟩:=m.head cj;rw[<-ecw]at q1;have r1:rd h b (place 0 J 1) 1 [.slice (some ⟨bs j,0,none⟩) w cw]:=rd_ok hA (by rw[eJ];exact q1);have hl1:h.low<=h.next:=m.rows.ext.lowOK hlow;refine hA.roundR Try.func98 r98_ok (zc ?_);refine br (J<K) (by rw[e_lss hA]) (fun _=>?_) (fun q=>by omega)<;>refine zc ?_;refine zq ?_;have hjn:j<n:=by have:=m.kn;omega
 refine lead_ok hA hl1 hw (fun x hx=>m.rows.el hjn hx) (fun L eL=>?_);refine⟨L,rfl,?_⟩;refine zq ?_;obtain⟨G,eG⟩:∃z,z=Ext.put F r (Ext.lowV w F c j (F r)):=⟨_,rfl⟩;have hGr:G r=Ext.lowV w F c j (F r):=by rw[eG];exact Ext.put_at _
 have hGn:∀y,y≠r->G y=F y:=fun y hy=>by rw[eG];exact Ext.put_ne _ hy
 rw[<-eG]at m eL;refine br (C<L) (by rw[e_gtr hA]) (fun cq=>?_) (fun cq=>?_)<;>refine zc ?_
 rotate_left
 ·rw[add64 hA (by omega) (by omega)]
  refine ih (j+1) (J+1) h (by omega) (by omega) (by omega) ?_ st;have e:Ext.lowV w F c (j+1) (F r)=Ext.lowV w F c j (F r):=by
   show(if c<Ext.leadV w (F j)then _ else _)=_;rw[if_neg];by_cases ej:j=r
   ·rw[ej,<-ec];omega
   ·rw[hGn j ej]at eL;omega
  rw[e,<-eG];exact m
 have hjr:j≠r:=fun e=>by
  rw[e,hGr,ec,Ext.low_lead]at eL;omega
 rw[hGn j hjr]at eL;obtain⟨l,el⟩:∃z,z=Ext.leadV w (F j):=⟨_,rfl⟩;rw[<-el]at eL;obtain⟨p1,p2⟩:=hp j cj (by omega);rw[<-el]at p1 p2;have x9:Ext h (bump h 12):=ext_bump hA _ _;have m9:=m.more x9;obtain⟨a,ha⟩:∃z,z=G r l:=⟨_,rfl⟩;obtain⟨b',hb'⟩:∃z,z=F j l:=⟨_,rfl⟩;rw[<-hb']at p2;have r2:rd (bump h 12) (bs r) (place 0 L 1) 1 [.int .i64 a]:=rd_ok hA (by rw[eL,ha];exact m9.rows.el hr p1);have r3:rd (bump h 12) (bs j) (place 0 L 1) 1 [.int .i64 b']:=rd_ok hA (by
  rw[eL,hb',<-hGn j hjr];exact m9.rows.el hjn p1)
 refine zq ?_;have ho:=hok j cj (by omega);refine sfloor_ok hA p2 (by have:=(ho l).1;rw[ha,hGr];omega) (by have:=(ho l).1;rw[ha,hGr];omega) (low_fresh hA _) (fun q eq=>⟨q,rfl,?_⟩);refine zq ?_;obtain⟨X,hX⟩:∃z,z=lowered (bump h 12) (fresh (bump h 12)):=⟨_,rfl⟩;have xX:Ext h X:=by rw[hX];exact ext_low hA hl1 x9 (.refl _)
 rw[<-hX];have eq2:q=Ext.lowV w F c j (F r) l / F j l:=by rw[eq,ha,hGr,hb']
 refine take_ok hA (low_fresh hA X) hr hjn hw (fun x hx=>?_) (m.rows.more (xX.trans (ext_fresh hA X))) (fun h' m' st'=>?_)
 ·have:=ho x
  rw[hGr,hGn j hjr,eq2];rw[show Ext.lowV w F c (j+1) (F r) x=Ext.lowV w F c j (F r) x-Ext.lowV w F c j (F r) l / F j l*F j x by
   show(if c<Ext.leadV w (F j)then(fun x=>Ext.lowV w F c j (F r) x-Ext.lowV w F c j (F r) (Ext.leadV w (F j)) / F j (Ext.leadV w (F j))*F j x)else _) x=_;rw[if_pos (by omega),el]]at this
  rw[<-el]at this;exact this
 refine zq ?_;rw[add64 hA (by omega) (by omega)];have st2:=(st.ext (xX.trans (ext_fresh hA X))).trans st';have st3:Only hs (lowered X h') (bs r):=by rw[e_lowered hA];exact⟨st2.next,st2.get⟩
 have st4:Only h (lowered X h') (bs r):=by
  have:=((Only.refl h (bs r)).ext (xX.trans (ext_fresh hA X))).trans st';rw[e_lowered hA];exact⟨this.next,this.get⟩
 have m2:RowsB h0 (lowered X h') n w bs (Ext.put G r (fun x=>G r x-q*G j x)):=by
  rw[e_lowered hA];exact⟨Ext.lower' m'.ext (m.rows.ext.trans xX) hlow,m'.row,m'.old,m'.lt,m'.inj⟩
 refine ih (j+1) (J+1) _ (by omega) (by omega) (by omega) ?_ st3;have e:Ext.put G r (fun x=>G r x-q*G j x)=Ext.put F r (Ext.lowV w F c (j+1) (F r)):=by
  rw[eG,Ext.put_same,<-eG,hGr,hGn j hjr,eq2]
  congr 1
  show _=(if c<Ext.leadV w (F j)then(fun x=>Ext.lowV w F c j (F r) x-Ext.lowV w F c j (F r) (Ext.leadV w (F j)) / F j (Ext.leadV w (F j))*F j x)else _);rw[if_pos (by omega),el]
 rw[<-e];exact m.put hr m2 st4
theorem lower_ok{h0 h:AHeap}(hl0:h0.low<=h0.next){sb k n w rc r:Nat}{ra:Option Addr}{bs:Nat->Nat}{F:Nat->Ext.Vec}(hk:k<=10)(hr:r<n)(hw:w<=1000)(hp:∀y,y<k->Ext.leadV w (F r)<Ext.leadV w (F y)->Ext.leadV w (F y)<w/\0<F y (Ext.leadV w (F y)))(hok:Ext.LowOK w F (Ext.leadV w (F r)) k (F r))(m:Stm h0 h sb k n w ra rc bs F){cw:Nat}(ecw:cw=someCap 1 w){Q:Value->AHeap->Prop}
  (hQ:∀h',Stm h0 h' sb k n w ra rc bs (Ext.put F r (Ext.lowV w F (Ext.leadV w (F r)) k (F r)))->Only h h' (bs r)->Q (.tuple #[]) h') :
  call 98 [.pointer (some ⟨sb,0,none⟩),.slice (some ⟨bs r,0,none⟩) w cw] h Q:=by
 obtain⟨K,eK⟩:∃z:Int,z=k:=⟨_,rfl⟩;have e1:ofNat k=K:=by rw[eK];exact e_ofNat hA k
 have hlow:h.low<=h.next:=m.rows.ext.lowOK hl0;have r1:rd h sb (addN 0 0) 1 [.slice ra k rc]:=by rw[e_addN hA];exact rd_at hA (m.own.readG (o:=0) (n:=1) (Nat.le_refl _))
 refine hA.bodyR Try.func98 r98_ok (hA.alike _ _ _ rfl) hlow (zc ?_);refine zq ?_;refine lead_ok hA hlow hw (fun x hx=>m.rows.el hr hx) (fun L eL=>?_);refine⟨L,rfl,?_⟩
 (refine zq ?_;repeat ((first|rw[e1]);refine zq ?_))
 refine lower_loop hA (sb:=sb) hl0 hk hr hw rfl hp hok eL eK ecw (fun h' kn T m2 st=>?_) k 0 0 h (by omega) (by omega) rfl ?_ (.refl _ _)
 ·refine zc ?_
  exact hQ h' m2 st
 ·have:Ext.put F r (Ext.lowV w F (Ext.leadV w (F r)) 0 (F r))=F:=Ext.put_self
  rw[this];exact m
