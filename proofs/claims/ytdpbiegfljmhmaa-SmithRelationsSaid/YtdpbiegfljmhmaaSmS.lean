import Derived.Test.YtdpbiegfljmhmaaSmAl
import Derived.Test.YtdpbiegfljmhmaaSmG
set_option linter.unusedSimpArgs false
set_option linter.unusedVariables false
namespace Go.Proofs.Ytdpbiegfljmhmaa
open Go.Sim
set_option maxRecDepth 100000
theorem zjh{P:Prop}{G:AHeap->Prop}(ok:AHeap->Prop)(h1:Bx (∀v,ok v->G v)->P)(h2:∀v,ok v->G v):P:=h1 ⟨h2⟩
theorem zjp{P G:Prop}(C:Prop)(h1:Bx (C->G)->P)(h2:C->G):P:=h1 ⟨h2⟩
variable{F:Prims}{call head arith cmp scmp bnot bsame conv neg imax imin ofNat slen place inR nz geZ rd wr push next mkOK nat zeros sadd eqAgg cut slc sslc strAt part app cpy putAt fresh lowered bump wrote addN lt ne fpAll fpApp brk yn rng mget mput mnew bytes clr:_}(hA:AP F ⟨call,head,arith,cmp,scmp,bnot,bsame,conv,neg,imax,imin,ofNat,slen,place,inR,nz,geZ,rd,wr,push,next,mkOK,nat,zeros,sadd,eqAgg,cut,slc,sslc,strAt,part,app,cpy,putAt,fresh,lowered,bump,wrote,addN,lt,ne,fpAll,fpApp,brk,yn,rng,mget,mput,mnew,bytes,clr⟩)
include hA
set_option maxHeartbeats 1000000 in
theorem put_loop(hI:InsC F){h0:AHeap}(hl0:h0.low<=h0.next){sb k w cw:Nat}{F0:Nat->Ext.Vec}(hw:w<=1000)(ecw:cw=someCap 1 w)(hM:∀i,i<k+1->∀j,(F0 i j).natAbs<=9){Q:Exit->SS->Prop}
  (hQ:∀(h':AHeap) (kn:Nat) (T:List (Nat×List Value)) ra rc bs A,Stm h0 h' sb (k+1) (k+1) w ra rc bs A->Ext.Sunk w (k+1) (k+1) A F0->Q (.exit 0) ⟨[(0,.pointer (some ⟨sb,0,none⟩)),(4,.func (.func 98) #[.pointer (some ⟨sb,0,none⟩)] #[])],kn,T,h'⟩) :
  ∀(D M:Nat) (h:AHeap) (ra:Option Addr) (rc:Nat) (bs:Nat->Nat) (A:Nat->Ext.Vec),Stm h0 h sb k (k+1) w ra rc bs A->Ext.Rnd w k A F0 D M->
   head 85 1 0 ⟨[(0,.pointer (some ⟨sb,0,none⟩)),(1,.slice (some ⟨bs k,0,none⟩) w cw),(4,.func (.func 98) #[.pointer (some ⟨sb,0,none⟩)] #[])],0,[],h⟩ Q:=by
 intro D
 induction D using Nat.strongRecOn with
 |_ D ihD=>
 intro M
 induction M using Nat.strongRecOn with
 |_ M ihM=>
 intro h ra rc bs A m r;have k3:=r.base.k3;have hlow:h.low<=h.next:=m.rows.ext.lowOK hl0;obtain⟨lo1,b1⟩:=r.low;have hcw:=r.base.lead;refine hA.roundR Try.func85 r85_ok (zc ?_);refine lower_ok hA (sb:=sb) (r:=k) hl0 (by omega) (by omega) hw (fun y hy _=>⟨r.base.stp.lt y hy,r.base.stp.pos y hy⟩) lo1 m ecw (fun h1 m1 _=>?_);have hlow1:h1.low<=h1.next:=m1.rows.ext.lowOK hl0;obtain⟨u,eu⟩:∃z,z=Ext.lowV w A (Ext.leadV w (A k)) k (A k):=⟨_,rfl⟩;rw[<-eu]at m1 b1;obtain⟨A1,eA⟩:∃z,z=Ext.put A k u:=⟨_,rfl⟩;have a1k:A1 k=u:=by rw[eA];exact Ext.put_at u
 have a1n:∀y,y<k->A1 y=A y:=fun y hy=>by rw[eA];exact Ext.put_ne u (by omega)
 rw[<-eA]at m1;have hlu:Ext.leadV w u=Ext.leadV w (A k):=by rw[eu];exact Ext.low_lead k
 refine zq ?_;refine lead_ok hA hlow1 hw (fun x hx=>m1.rows.el (show k<k+1 by omega) hx) (fun C eC=>⟨C,rfl,?_⟩);rw[a1k,hlu]at eC;obtain⟨W,eW⟩:∃z:Int,z=w:=⟨_,rfl⟩;have e1:ofNat w=W:=by rw[eW];exact e_ofNat hA w
 (refine zq ?_;repeat ((first|rw[e1]);refine zq ?_))
 refine br (C=W) (by rw[e_eql hA]) (fun q=>by omega) (fun _=>?_)<;>refine zc ?_;refine zq ?_;refine find_loop hA (sb:=sb) (r:=k) hl0 (by omega) (by omega) hw m1 eC ecw (fun kn T a I eI ak lo hi=>?_) k 0 0 (by omega) (by omega) rfl (fun y hy=>by omega);obtain⟨K,eK⟩:∃z:Int,z=k:=⟨_,rfl⟩;have e2:ofNat k=K:=by rw[eK];exact e_ofNat hA k
 have r1:rd h1 sb (addN 0 0) 1 [.slice ra k rc]:=by rw[e_addN hA];exact rd_at hA (m1.own.readG (o:=0) (n:=1) (Nat.le_refl _))
 (refine zq ?_;repeat ((first|rw[e2]);refine zq ?_))
 apply zjp (∀z,a<=z->z<k->Ext.leadV w (A k)<Ext.leadV w (A z))
 ·intro bx
  refine br (I=K) (by rw[e_eql hA]) (fun ca=>?_) (fun ca=>?_)<;>refine zc ?_
  ·refine zq ?_
   exact bx.o (fun z h1 h2=>by omega)
  have ha:a<k:=by omega
  obtain⟨b,rfl,hb,q1⟩:=m1.head ha;rw[<-ecw]at q1;have r2:rd h1 b (place 0 I 1) 1 [.slice (some ⟨bs a,0,none⟩) w cw]:=rd_ok hA (by rw[eI];exact q1);refine zq ?_;refine lead_ok hA hlow1 hw (fun x hx=>m1.rows.el (show a<k+1 by omega) hx) (fun L eL=>⟨L,rfl,?_⟩);rw[a1n a ha]at eL;refine zq ?_;refine br (C<L) (by rw[e_gtr hA]) (fun cl=>?_) (fun cl=>?_)<;>refine zc ?_
  ·refine zq ?_
   exact bx.o (fun z h1 h2=>by
    by_cases e:z=a
    ·rw[e];omega
    ·have:=r.base.stp.inc a z (by omega) h2;omega)
  ·have he:Ext.leadV w (A a)=Ext.leadV w (A k):=by have:=hi ha;rw[a1n a ha]at this;omega
   obtain⟨q,eq⟩:∃z,z=u (Ext.leadV w (A k)) / A a (Ext.leadV w (A k)):=⟨_,rfl⟩;obtain⟨u2,eu2⟩:∃z,z=fun j=>u j-q*A a j:=⟨_,rfl⟩
   obtain⟨sr,sn⟩:=r.step ha he eu eq eu2;obtain⟨x,ex⟩:∃z,z=u (Ext.leadV w (A k)):=⟨_,rfl⟩;obtain⟨y,ey⟩:∃z,z=A a (Ext.leadV w (A k)):=⟨_,rfl⟩;have hy:0<y:=by rw[ey,<-he];exact r.base.stp.pos a ha
   have x9:Ext h1 (bump h1 24):=ext_bump hA _ _;have m9:=m1.more x9;have s1:rd (bump h1 24) sb (addN 0 0) 1 [.slice (some ⟨b,0,none⟩) k rc]:=by rw[e_addN hA];exact rd_at hA (m9.own.readG (o:=0) (n:=1) (Nat.le_refl _))
   have s2:rd (bump h1 24) b (place 0 I 1) 1 [.slice (some ⟨bs a,0,none⟩) w cw]:=rd_ok hA (by
    rw[eI];obtain⟨b',e',_,q2⟩:=m9.head ha;cases e';rw[<-ecw]at q2;exact q2)
   have s3:rd (bump h1 24) (bs k) (place 0 C 1) 1 [.int .i64 x]:=rd_ok hA (by
    rw[eC,ex,<-a1k];exact m9.rows.el (show k<k+1 by omega) hcw)
   have s4:rd (bump h1 24) (bs a) (place 0 C 1) 1 [.int .i64 y]:=rd_ok hA (by
    rw[eC,ey,<-a1n a ha];exact m9.rows.el (show a<k+1 by omega) hcw)
   refine zq ?_;have hx:=(sr (Ext.leadV w (A k))).1;rw[<-ex]at hx;refine sfloor_ok hA hy (by omega) (by omega) (low_fresh hA _) (fun q' eq'=>⟨q',rfl,?_⟩);obtain rfl:q'=q:=by rw[eq',eq,ex,ey]
   refine zq ?_;obtain⟨X,hX⟩:∃z,z=lowered (bump h1 24) (fresh (bump h1 24)):=⟨_,rfl⟩;have xX:Ext h1 X:=by rw[hX];exact ext_low hA hlow1 x9 (.refl _)
   rw[<-hX];refine take_ok hA (low_fresh hA X) (show k<k+1 by omega) (show a<k+1 by omega) hw (fun j hj=>by rw[a1k,a1n a ha];exact sr j) (m1.rows.more (xX.trans (ext_fresh hA X))) (fun h' m' st'=>?_);rw[a1k,a1n a ha,<-eu2,eA,Ext.put_same]at m';obtain⟨h2,eh2⟩:∃z,z=lowered X h':=⟨_,rfl⟩;have m2:RowsB h0 h2 (k+1) w bs (Ext.put A k u2):=by
    rw[eh2,e_lowered hA];exact⟨Ext.lower' m'.ext (m1.rows.ext.trans xX) hl0,m'.row,m'.old,m'.lt,m'.inj⟩
   have st2:Only h1 h2 (bs k):=by
    have:=((Only.refl h1 (bs k)).ext (xX.trans (ext_fresh hA X))).trans st';rw[eh2,e_lowered hA];exact⟨this.next,this.get⟩
   have M2:=m1.put (show k<k+1 by omega) m2 st2;have hlow2:h2.low<=h2.next:=M2.rows.ext.lowOK hl0;obtain⟨x2,ex2⟩:∃z,z=u2 (Ext.leadV w (A k)):=⟨_,rfl⟩;have t1:rd h2 (bs k) (place 0 C 1) 1 [.int .i64 x2]:=rd_ok hA (by
    have:=m2.el (show k<k+1 by omega) hcw;rw[Ext.put_at]at this;rw[eC,ex2];exact this)
   have fp:∀b0,b0<h1.next->fpAll false (wrote (bump h1 24) (fresh (bump h1 24))) false b0 (addN (next h1) 24):=fun b0 hb0=>fp_ok' hA (by rw[e_fresh hA,e_bump hA]) (by rw[e_addN hA,e_next hA];omega)
   refine zq ?_;refine⟨fp sb m1.s1,fp b hb,?_⟩;refine zc ?_;rw[<-eh2];refine zq ?_;refine br (x2≠0) (by rw[e_neq hA]) (fun c0=>?_) (fun c0=>?_)<;>refine zc ?_
   rotate_left
   ·rcases sn with ⟨_,D',M',hD',rn⟩|⟨n1,_⟩
    ·exact ihD D' hD' M' h2 _ rc bs _ M2 rn
    ·exfalso;rw[he,<-ex2]at n1;exact c0 n1
   rcases sn with ⟨n1,_⟩|⟨n1,n2,n3,n4,M',hM',rn⟩
   ·exfalso;rw[he,<-ex2]at n1;exact c0 n1
   have p2k:Ext.put A k u2 k=u2:=Ext.put_at u2;have p2n:∀z,z<k->Ext.put A k u2 z=A z:=fun z hz=>Ext.put_ne u2 (by omega)
   refine lower_ok hA (sb:=sb) (r:=k) hl0 (by omega) (by omega) hw (fun z hz _=>by rw[p2n z hz];exact⟨r.base.stp.lt z hz,r.base.stp.pos z hz⟩) (by rw[p2k,n2];exact n3.congr p2n) M2 ecw (fun h3 m3 _=>?_);rw[p2k,n2,Ext.lowV_congr p2n k (Nat.le_refl _),Ext.put_same]at m3;obtain⟨u3,eu3⟩:∃z,z=Ext.lowV w A (Ext.leadV w (A a)) k u2:=⟨_,rfl⟩;rw[<-eu3]at m3 rn;have hlow3:h3.low<=h3.next:=m3.rows.ext.lowOK hl0;have x16:Ext h3 (bump h3 16):=ext_bump hA _ _;have m16:=m3.more x16;have y1:rd (bump h3 16) sb (addN 0 0) 1 [.slice (some ⟨b,0,none⟩) k rc]:=by rw[e_addN hA];exact rd_at hA (m16.own.readG (o:=0) (n:=1) (Nat.le_refl _))
   have y2:rd (bump h3 16) b (place 0 I 1) 1 [.slice (some ⟨bs a,0,none⟩) w cw]:=rd_ok hA (by
    rw[eI];obtain⟨b',e',_,q2⟩:=m16.head ha;cases e';rw[<-ecw]at q2;exact q2)
   obtain⟨b4,h4,e4,w4,m4⟩:=m16.swap ha;cases e4;have y3:wr (bump h3 16) b (place 0 I 1) [.slice (some ⟨bs k,0,none⟩) w cw] h4:=wr_ok hA (by rw[eI,ecw];exact w4);refine zq ?_;have fin:=ihM M' hM' h4 _ rc (fun y=>bs (swN a k y)) (Ext.put (Ext.put A a u3) k (A a)) (m4.congr (fun y x hy hx=>?_)) rn
   ·rw[show swN a k k=a by unfold swN;rw[if_neg (by omega),if_pos rfl]]at fin
    exact fin
   ·unfold swN
    by_cases c1:y=a
    ·rw[if_pos c1,c1,Ext.put_at,Ext.put_ne _ (by omega),Ext.put_at]
    ·rw[if_neg c1]
     by_cases c2:y=k
     ·rw[if_pos c2,c2,Ext.put_at,Ext.put_ne _ (by omega)]
     ·rw[if_neg c2,Ext.put_ne _ c2,Ext.put_ne _ c2,Ext.put_ne _ c1]
 ·intro hi'
  have lo':∀y,y<a->Ext.leadV w (A y)<Ext.leadV w (A k):=fun y hy=>by have:=lo y hy;rw[a1n y (by omega)]at this;exact this
  obtain⟨o1,o2,o3,o4⟩:=r.own hM ak lo' hi' eu;obtain⟨x,ex⟩:∃z,z=u (Ext.leadV w (A k)):=⟨_,rfl⟩;have r3:rd h1 (bs k) (place 0 C 1) 1 [.int .i64 x]:=rd_ok hA (by
   rw[eC,ex,<-a1k];exact m1.rows.el (show k<k+1 by omega) hcw)
  have hu0:u (Ext.leadV w (A k))≠0:=by
   have:=Ext.leadV_ne (w:=w) (v:=u) (by rw[hlu];exact hcw);rw[hlu]at this;exact this
  refine zq ?_;apply zjh (fun hh=>∃A',Stm h0 hh sb k (k+1) w ra rc bs A'/\(∀z,z<k->A' z=A z)/\Ext.Sunk w (k+1) (k+1) (Ext.insR A a (A' k)) F0)
  ·intro bx
   refine br (x<0) (by rw[e_lss hA]) (fun c0=>?_) (fun c0=>?_)<;>refine zc ?_
   rotate_left
   ·refine zq ?_
    obtain⟨g,eg⟩:∃g,g=h1:=⟨_,rfl⟩;rw[<-eg];exact bx.o g ⟨A1,by rw[eg];exact m1,a1n,by rw[a1k];exact o3 (by omega)⟩
   obtain⟨v,ev⟩:∃z,z=fun j=>u j-2*u j:=⟨_,rfl⟩
   obtain⟨v1,v2,v3⟩:=o4 (by omega) v ev;refine zq ?_;refine take_ok hA hlow1 (show k<k+1 by omega) (show k<k+1 by omega) hw (fun j hj=>by rw[a1k];have:=o2 j;omega) m1.rows (fun h2 m2 st2=>?_);rw[a1k,<-ev,eA,Ext.put_same]at m2;have M2:=m1.put (show k<k+1 by omega) m2 st2;have pk:Ext.put A k v k=v:=Ext.put_at v;have pn:∀z,z<k->Ext.put A k v z=A z:=fun z hz=>Ext.put_ne v (by omega)
   refine zq ?_;refine lower_ok hA (sb:=sb) (r:=k) hl0 (by omega) (by omega) hw (fun z hz _=>by rw[pn z hz];exact⟨r.base.stp.lt z hz,r.base.stp.pos z hz⟩) (by rw[pk,v1];exact v2.congr pn) M2 ecw (fun h3 m3 _=>?_);rw[pk,v1,Ext.lowV_congr pn k (Nat.le_refl _),Ext.put_same]at m3;have r5:rd h3 sb (addN 0 0) 1 [.slice ra k rc]:=by rw[e_addN hA];exact rd_at hA (m3.own.readG (o:=0) (n:=1) (Nat.le_refl _))
   refine zq ?_;exact bx.o h3 ⟨_,m3,fun z hz=>Ext.put_ne _ (by omega),by rw[Ext.put_at];exact v3⟩
  rintro hh ⟨A',m2,a2n,sk⟩;have hlowh:hh.low<=hh.next:=m2.rows.ext.lowOK hl0;have xp:Ext hh (push hh 1 [.slice (some ⟨bs k,0,none⟩) w cw]):=by rw[e_push hA];exact .push _ _ _
  have mp:=m2.more xp;have ov:Own (push hh 1 [.slice (some ⟨bs k,0,none⟩) w cw]) (next hh) 1 [.slice (some ⟨bs k,0,none⟩) w cw]:=by rw[e_push hA,e_next hA];exact Own.push _ _ _
  have np:(push hh 1 [.slice (some ⟨bs k,0,none⟩) w cw]).next=hh.next+1:=by rw[e_push hA];rfl
  have nv:next hh=hh.next:=e_next hA hh;have hlt:=m2.apd.lt;generalize push hh 1 [.slice (some ⟨bs k,0,none⟩) w cw]=hp at *;rw[nv]at ov ⊢;generalize hh.next=vb at *;refine ins_call hA hI hl0 mp.rows.ext (by omega) mp.apd mp.fr ak eI (by rw[ecw]at ov;exact ov) (by omega) (fun ad had=>by have:=hlt ad had;omega) (fun b h2 x2 n2 g2 b1 b2 o2=>?_);obtain⟨h3,w3,m3⟩:=mp.ins ak x2 n2 g2 b1 b2 o2;have m4:Stm h0 h3 sb (k+1) (k+1) w (some ⟨b,0,none⟩) (someCap 1 (k+1)) (fun y=>bs (insN a k y)) (Ext.insR A a (A' k)):=m3.congr (fun y x hy hx=>by
   show A' (insN a k y) x=Ext.insR A a (A' k) y x;rw[insR_perm (F:=A') (k:=k) ak y hy];unfold Ext.insR;by_cases c1:y<a
   ·rw[if_pos c1,if_pos c1,a2n y (by omega)]
   ·rw[if_neg c1,if_neg c1]
    by_cases c2:y=a
    ·rw[if_pos c2,if_pos c2]
    ·rw[if_neg c2,if_neg c2,a2n _ (by omega)])
  have hq:=fun kn T=>hQ h3 kn T _ _ _ _ m4 sk
  generalize someCap 1 (k+1)=cc at *;generalize k+1=k1 at *;have w3:wr h2 sb (addN 0 0) [.slice (some ⟨b,0,none⟩) k1 cc] h3:=by rw[e_addN hA];exact wr_at hA w3
  refine⟨_,_,_,rfl,?_⟩;refine zq ?_;exact hq _ _
end Go.Proofs.Ytdpbiegfljmhmaa
namespace Go.Proofs.Ytdpbiegfljmhmaa
open Go.Sim
set_option maxRecDepth 100000
variable{F:Prims}{call head arith cmp scmp bnot bsame conv neg imax imin ofNat slen place inR nz geZ rd wr push next mkOK nat zeros sadd eqAgg cut slc sslc strAt part app cpy putAt fresh lowered bump wrote addN lt ne fpAll fpApp brk yn rng mget mput mnew bytes clr:_}(hA:AP F ⟨call,head,arith,cmp,scmp,bnot,bsame,conv,neg,imax,imin,ofNat,slen,place,inR,nz,geZ,rd,wr,push,next,mkOK,nat,zeros,sadd,eqAgg,cut,slc,sslc,strAt,part,app,cpy,putAt,fresh,lowered,bump,wrote,addN,lt,ne,fpAll,fpApp,brk,yn,rng,mget,mput,mnew,bytes,clr⟩)
include hA
theorem sink_loop{h0:AHeap}(hl0:h0.low<=h0.next){sb K w:Nat}{ra:Option Addr}{rc kn:Nat}{T:List (Nat×List Value)}{bs:Nat->Nat}{F0:Nat->Ext.Vec}(hw:w<=1000){Q:Exit->SS->Prop}
  (hQ:∀(h':AHeap) A,Stm h0 h' sb K K w ra rc bs A->Ext.Sunk w K 0 A F0->Q (.exit 4) ⟨[],kn,T,h'⟩) :
  ∀(i:Nat) (I:Int) (h:AHeap) (A:Nat->Ext.Vec),i<=K->I=(i:Int)-1->Stm h0 h sb K K w ra rc bs A->Ext.Sunk w K i A F0->
   head 85 17 kn ⟨[(0,.pointer (some ⟨sb,0,none⟩)),(4,.func (.func 98) #[.pointer (some ⟨sb,0,none⟩)] #[]),(7,.int .i64 I)],kn,T,h⟩ Q:=by
 intro i
 induction i with
 |zero=>
  intro I h A hi eI m sk;refine hA.roundR Try.func85 r85_ok (zc ?_);refine br (0<=I) (by rw[e_geq hA]) (fun q=>by omega) (fun _=>?_)<;>refine zc ?_;exact hQ h A m sk
 |succ i ih=>
 intro I h A hi eI m sk;have k4:=sk.k4;have hlow:h.low<=h.next:=m.rows.ext.lowOK hl0;obtain⟨lo,sk2⟩:=sk.step (by omega);obtain⟨b,rfl,hb,q1⟩:=m.head (y:=i) (by omega);obtain⟨cw,ecw⟩:∃z,z=someCap 1 w:=⟨_,rfl⟩;rw[<-ecw]at q1;have r1:rd h sb (addN 0 0) 1 [.slice (some ⟨b,0,none⟩) K rc]:=by rw[e_addN hA];exact rd_at hA (m.own.readG (o:=0) (n:=1) (Nat.le_refl _))
 have r2:rd h b (place 0 I 1) 1 [.slice (some ⟨bs i,0,none⟩) w cw]:=rd_ok hA (by rw[show I.toNat=i by omega];exact q1);refine hA.roundR Try.func85 r85_ok (zc ?_);refine br (0<=I) (by rw[e_geq hA]) (fun _=>?_) (fun q=>by omega)<;>refine zc ?_;refine zq ?_;refine lower_ok hA (sb:=sb) (r:=i) hl0 (by omega) (by omega) hw (fun y hy _=>⟨sk.stp.lt y hy,sk.stp.pos y hy⟩) lo m ecw (fun h1 m1 _=>?_);refine zq ?_;rw[sub64 hA (by omega) (by omega)];exact ih (I-1) h1 _ (by omega) (by omega) m1 sk2
theorem put_ok(hI:InsC F){h0 h:AHeap}(hl0:h0.low<=h0.next){sb k w cw rc D M:Nat}{ra:Option Addr}{bs:Nat->Nat}{A F0:Nat->Ext.Vec}(hw:w<=1000)(ecw:cw=someCap 1 w)(hM:∀i,i<k+1->∀j,(F0 i j).natAbs<=9)(m:Stm h0 h sb k (k+1) w ra rc bs A)(r:Ext.Rnd w k A F0 D M){Q:Value->AHeap->Prop}
  (hQ:∀h' ra' rc' bs' A',Stm h0 h' sb (k+1) (k+1) w ra' rc' bs' A'->Ext.Sunk w (k+1) 0 A' F0->Q (.tuple #[]) h') :
  call 85 [.pointer (some ⟨sb,0,none⟩),.slice (some ⟨bs k,0,none⟩) w cw] h Q:=by
 have hlow:h.low<=h.next:=m.rows.ext.lowOK hl0;refine hA.bodyR Try.func85 r85_ok (hA.alike _ _ _ rfl) hlow (zc ?_);refine zq ?_;refine put_loop hA hI (sb:=sb) hl0 hw ecw hM (fun h1 kn T ra' rc' bs' A1 m1 sk=>?_) D M h ra rc bs A m r;obtain⟨K,eK⟩:∃z:Int,z=((k+1:Nat):Int):=⟨_,rfl⟩;have e1:ofNat (k+1)=K:=by rw[eK];exact e_ofNat hA _
 have r1:rd h1 sb (addN 0 0) 1 [.slice ra' (k+1) rc']:=by rw[e_addN hA];exact rd_at hA (m1.own.readG (o:=0) (n:=1) (Nat.le_refl _))
 have k3:=sk.k4;generalize hk1:k+1=k1 at *
 (refine zq ?_;repeat ((first|rw[e1]);refine zq ?_))
 rw[sub64 hA (by omega) (by omega)];refine sink_loop hA (sb:=sb) hl0 hw (fun h2 A2 m2 sk2=>?_) k1 (K-1) h1 A1 (Nat.le_refl _) (by omega) m1 sk;refine zc ?_;exact hQ h2 ra' rc' bs' A2 m2 sk2
