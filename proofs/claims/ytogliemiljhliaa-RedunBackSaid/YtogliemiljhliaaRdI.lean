import Derived.Test.YtogliemiljhliaaRdH
import Derived.Test.YtogliemiljhliaaSymApp
set_option linter.unusedSimpArgs false
set_option linter.unusedVariables false
namespace Go.Proofs.Ytogliemiljhliaa
open Go.Sim
set_option maxRecDepth 100000
theorem TL64:SliceT Try.prog 81 2 1:=⟨by kernel_rfl,by kernel_rfl,⟨8,by kernel_rfl,by omega⟩,⟨.int .i64 0,by kernel_rfl,rfl⟩⟩
theorem TLL64:SliceT Try.prog 77 81 1:=⟨by kernel_rfl,by kernel_rfl,⟨24,by kernel_rfl,by omega⟩,⟨.slice none 0 0,by kernel_rfl,rfl⟩⟩
def longRow(r:List Int)(x:Int):List Int:=r++[x]
def longs(rows:List (List Int))(right:List Int):List (List Int):=List.zipWith longRow rows right
theorem longs_len{rows:List (List Int)}{right:List Int}(h:right.length=rows.length):(longs rows right).length=rows.length:=by
 unfold longs;rw[List.length_zipWith];omega
theorem longs_take{rows:List (List Int)}{right:List Int}(h:right.length=rows.length){k:Nat}(hk:k<rows.length):(longs rows right).take (k+1)=(longs rows right).take k++[gt rows (k:Int)++[gt right (k:Int)]]:=by
 have hl:=longs_len h;have:=gt_take (longs rows right) (i:=(k:Int)) (by omega) (by omega);rw[show((k:Int)+1).toNat=k+1 by omega,show((k:Int)).toNat=k from rfl]at this;rw[this];unfold longs gt;rw[List.getD_eq_getElem?_getD,List.getElem?_zipWith,List.getD_eq_getElem?_getD,List.getD_eq_getElem?_getD,show((k:Int)).toNat=k from rfl,List.getElem?_eq_getElem (show k<rows.length by omega),List.getElem?_eq_getElem (show k<right.length by omega)];rfl
theorem Rows.keep{α:Type}{enc:α->List Value}{es:Nat}{h h':AHeap}{a:Option Addr}{n:Nat}{l:List α}(p:Rows enc es h a n l)(hn:h.next<=h'.next)(e:∀ad,a=some ad->ad.block<h.next->h'.m.get ad.block=h.m.get ad.block):Rows enc es h' a n l:=by
 refine⟨?_,p.each,p.pos⟩;have c:=p.cells;cases a with
 |none=>exact c
 |some ad=>
  obtain⟨h1,h2,h3⟩:=c;refine⟨h1,Nat.lt_of_lt_of_le h2 hn,?_⟩;rw[<-h3];unfold AHeap.readG AHeap.cells?;rw[e ad rfl h2]
theorem GrR.keep{α:Type}[Inhabited α]{enc:α->List Value}{es:Nat}{h h':AHeap}{a:Option Addr}{N:Nat}{hs:List Hd}{g:List (List α)}(t:GrR enc es h a N hs g)(hn:h.next<=h'.next){sb:Nat}(h1:∀ad,a=Option.some ad->ad.block≠sb)(h2:∀y:Int,0<=y->y<N->∀ad,(gt hs y).a=Option.some ad->ad.block≠sb)(e:∀b,b<h.next->b≠sb->h'.m.get b=h.m.get b):GrR enc es h' a N hs g:=
 ⟨t.hd.keep hn (fun ad had hb=>e _ hb (h1 ad had)),t.len,fun y y0 y1=>(t.row y y0 y1).keep hn (fun ad had hb=>e _ hb (h2 y y0 y1 ad had))⟩
variable{F:Prims}{b0 head arith c0 d0 e0 f0 g0 i0 j0 k0 ofNat l0 place m0 nz n0 rd wr push next o0 p0 q0 r0 s0 t0 u0 v0 w0 x0 z0 b1 putAt d1 lowered bump f1 addN lt ne g1 i1 j1 yn l1 m1 n1 p1 s1 t1:_}(hA:AP F ⟨b0,head,arith,c0,d0,e0,f0,g0,i0,j0,k0,ofNat,l0,place,m0,nz,n0,rd,wr,push,next,o0,p0,q0,r0,s0,t0,u0,v0,w0,x0,z0,b1,putAt,d1,lowered,bump,f1,addN,lt,ne,g1,i1,j1,yn,l1,m1,n1,p1,s1,t1⟩)
include hA
theorem long_loop{h0:AHeap}{ar:Option Addr}{w cr:Nat}{r:List Int}(hr:Is h0 ar w r)(hw:w<=100){e1 e4 e5 e16:Value}{i6 i17 i18 W:Int}(eW:W=w){wc:Nat}(ewc:wc=w+1){b:Nat}(hb0:h0.next<=b){kn:Nat}{T:List (Nat×List Value)}{Q:Exit->SS->Prop}
  (hQ:∀(h':AHeap),Ext h0 h'->Own h' b 1 ((r++[0]).flatMap iC)->b<h'.next->Q (.exit 2) ⟨[(1,e1),(4,e4),(5,e5),(6,.int .i64 i6),(8,.slice (some ⟨b,0,none⟩) w wc),(16,e16),(17,.int .i64 i17),(18,.int .i64 i18)],kn,T,h'⟩) :
  ∀(d j:Nat) (J:Int) (h:AHeap),w-j=d->j<=w->J=j->Ext h0 h->Own h b 1 ((r.take j++zrow (w+1-j)).flatMap iC)->b<h.next->
   head 45 8 kn ⟨[(1,e1),(4,e4),(5,e5),(6,.int .i64 i6),(8,.slice (some ⟨b,0,none⟩) j wc),(16,e16),(17,.int .i64 i17),(18,.int .i64 i18),(30,.slice ar w cr),(31,.int .i64 W),(32,.int .i64 J)],kn,T,h⟩ Q:=by
 have lr:=hr.len;intro d
 induction d with
 |zero=>
  intro j J h hd hj eJ x o hb;obtain rfl:j=w:=by omega
  refine hA.roundR Try.func45 r45_ok (zc ?_);refine br (J<W) (by rw[e_lss hA]) (fun q=>by omega) (fun _=>?_)<;>refine zc ?_;rw[List.take_of_length_le (by omega),show j+1-j=1 by omega]at o;exact hQ h x o hb
 |succ d ih=>
 intro j J h hd hj eJ x o hb;obtain⟨rb,ro,v,ea,_,hg,r1⟩:=is_at (hr.ext x) (i:=J) (by omega) (by omega);subst ea;have r1:=rd_ok hA r1;refine hA.roundR Try.func45 r45_ok (zc ?_);refine br (J<W) (by rw[e_lss hA]) (fun _=>?_) (fun q=>by omega)<;>refine zc ?_;refine zq ?_;refine appIn_ok hA TL64 iC_len (by omega) iC_ok (v:=v) o (by rw[List.length_append,List.length_take];unfold zrow;rw[List.length_replicate];omega) hb (by omega) (by omega) (fun h' o' w'=>?_);refine zq ?_;obtain⟨j',hj'⟩:∃z,z=j.succ:=⟨_,rfl⟩;rw[add64 hA (by omega) (by omega),<-hj'];have tk:=gt_take r (i:=J) (by omega) (by omega);rw[show(J+1).toNat=j+1 by omega,show J.toNat=j by omega,hg]at tk;refine ih j' (J+1) h' (by omega) (by omega) (by omega) ((w'.ext (x.trans (.push h 1 (iC v))) hb0)) ?_ (by rw[w'.next];have:=(Ext.push h 1 (iC v)).next;omega);have e1:(r.take j++zrow (w+1-j)).set j v=r.take j'++zrow (w+1-j'):=by
  rw[hj',tk,show w+1-j=(w+1-(j+1))+1 by omega,List.set_append_right _ _ (by rw[List.length_take];omega),List.length_take,show j-min j r.length=0 by omega,List.append_assoc];rfl
 rw[<-e1];exact o'
set_option maxHeartbeats 1000000 in
theorem build_loop{h0:AHeap}(hlow:h0.low<=h0.next){a1:Option Addr}{c1 m w ca sb:Nat}{right:List Int}(hr:Is h0 a1 m right){a:Option Addr}{hs:List Hd}{rows:List (List Int)}{hB:AHeap}(hg:GrR iC 1 hB a m hs rows)(ha0:∀ad,a=some ad->ad.block≠sb)(ha1:∀y:Int,0<=y->y<m->∀ad,(gt hs y).a=some ad->ad.block≠sb)(hw:∀y:Int,0<=y->y<m->(gt rows y).length=w)(w100:w<=100)(m100:m<=100){M:Int}(eM:M=m){wc:Nat}(ewc:wc=w+1)(hsb:h0.next<=sb){Q:Exit->SS->Prop}
  (hQ:∀(h':AHeap) ao co bs,Apd h' 1 ao m co ((hds wc bs (longs rows right)).flatMap Hd.cells)->From h0.next ao->GrW iC 1 wc h0 h' bs (longs rows right)->(∀ad,ao=some ad->ad.block∉bs)->sb∉bs->(∀ad,ao=some ad->ad.block≠sb)->sb<h'.next->Own h' sb 4 [.slice ao m co,.int .i64 (if m=0 then 0 else w),.slice none 0 0,.int .i64 1]->Q (.exit 0) ⟨[(4,.pointer (some ⟨0,0,some 0⟩)),(5,.pointer (some ⟨sb,0,none⟩))],1,[(0,[.slice none 0 0,.int .i64 0,.slice none 0 0,.int .i64 0])],h'⟩) :
  ∀(d k:Nat) (K:Int) (h:AHeap) (ao:Option Addr) (co:Nat) (bs:List Nat),m-k=d->k<=m->K=k->hB.next<=h.next->(∀b,b<hB.next->b≠sb->h.m.get b=hB.m.get b)->From hB.next ao->Apd h 1 ao k co ((hds wc bs ((longs rows right).take k)).flatMap Hd.cells)->From h0.next ao->GrW iC 1 wc h0 h bs ((longs rows right).take k)->(∀ad,ao=some ad->ad.block∉bs)->sb∉bs->(∀ad,ao=some ad->ad.block≠sb)->sb<h.next->Own h sb 4 [.slice ao k co,.int .i64 (if k=0 then 0 else w),.slice none 0 0,.int .i64 1]->
   head 45 3 1 ⟨[(1,.slice a1 m c1),(4,.pointer (some ⟨0,0,some 0⟩)),(5,.pointer (some ⟨sb,0,none⟩)),(16,.slice a m ca),(17,.int .i64 M),(18,.int .i64 K)],1,[(0,[.slice none 0 0,.int .i64 0,.slice none 0 0,.int .i64 0])],h⟩ Q:=by
 have lr:=hr.len;have lg:=hg.len;have ll:right.length=rows.length:=by omega
 intro d
 induction d with
 |zero=>
  intro k K h ao co bs hd hk eK bn bk bf t hf g out ns na ls os;obtain rfl:k=m:=by omega
  refine hA.roundR Try.func45 r45_ok (zc ?_);refine br (K<M) (by rw[e_lss hA]) (fun q=>by omega) (fun _=>?_)<;>refine zc ?_;rw[List.take_of_length_le (by rw[longs_len ll];omega)]at t g;exact hQ h ao co bs t hf g out ns na ls os
 |succ d ih=>
 intro k K h ao co bs hd hk eK bn bk bf t hf g out ns na ls os;have hgh:=hg.keep bn ha0 ha1 bk;obtain⟨rb,ro,ea,_,rr⟩:=hgh.hd.at (i:=K) (by omega) (by omega);subst ea;have rw0:=hgh.row K (by omega) (by omega);have rwl:=hw K (by omega) (by omega);obtain⟨ra,rn,rc,hh⟩:∃x y z,gt hs K=⟨x,y,z⟩:=⟨_,_,_,rfl⟩;have rr:=rr 0 1 (by omega) (by omega);rw[hh]at rr rw0;have rw0:Is h ra rn (gt rows K):=rw0;obtain rfl:rn=w:=by rw[<-rw0.len,rwl]
 have r1:rd h rb (place ro K 1) 1 [.slice ra rn rc]:=rd_ok hA rr;obtain⟨W,eW⟩:∃z:Int,z=rn:=⟨_,rfl⟩;obtain⟨h1,w1,o1,wr1⟩:=os.write (o:=1) (vs:=[.int .i64 W]) (Nat.le_of_ble_eq_true rfl);have w1:wr h sb (addN 0 1) [.int .i64 W] h1:=by rw[e_addN hA];exact wr_at hA w1
 have q1:rd h1 sb (addN 0 1) 1 [.int .i64 W]:=by rw[e_addN hA];exact rd_at hA (o1.readG (o:=1) (n:=1) (Nat.le_of_ble_eq_true rfl))
 have en:ofNat rn=W:=by rw[eW];exact e_ofNat hA rn
 obtain⟨V,hV⟩:∃z:Int,z=W+1:=⟨_,rfl⟩;have ea:arith .add .i64 W 1=V:=by rw[hV];exact add64 hA (by omega) (by omega)
 refine hA.roundR Try.func45 r45_ok (zc ?_);refine br (K<M) (by rw[e_lss hA]) (fun _=>?_) (fun q=>by omega)<;>refine zc ?_
 (refine zq ?_;repeat ((first|rw[en]|rw[ea]);refine zq ?_))
 refine⟨mk_ok hA (Int.le_refl _) (by omega) (by omega),?_⟩;refine zc ?_;rw[e_zeros hA,e_next hA,e_push hA,e_nat hA,e_nat hA,show V.toNat=wc by omega,show(0:Int).toNat=0 from rfl,copies_int];have oP:=Own.push h1 1 ((zrow wc).flatMap iC);have eP:=Ext.push h1 1 ((zrow wc).flatMap iC);have nP:(h1.push 1 ((zrow wc).flatMap iC)).next=h1.next+1:=rfl;generalize h1.push 1 ((zrow wc).flatMap iC)=hP at *;obtain⟨lb,hlb⟩:∃z,z=h1.next:=⟨_,rfl⟩;rw[<-hlb]at oP nP ⊢;have x1:Ext h0 h1:=wr1.ext g.ext hsb;have xP:Ext h0 hP:=x1.trans eP;rw[e_ofNat hA];have hg1:=hg.keep (h':=h1) (by rw[wr1.next];exact bn) ha0 ha1 (fun b hb hne=>(wr1.get b hne).trans (bk b hb hne));have rwP:=hg1.row K (by omega) (by omega);rw[hh]at rwP;have rwP:Is h1 ra rn (gt rows K):=rwP;refine long_loop hA rwP (by omega) rfl ewc (Nat.le_of_eq hlb.symm) (fun h2 x2 o2 l2=>?_) rn 0 0 hP (by omega) (by omega) rfl eP (by rw[List.take_zero,List.nil_append,show rn+1-0=wc by omega];exact oP) (by omega);have y2:Ext h0 h2:=x1.trans x2;have osb:Own h2 sb 4 [.slice ao k co,.int .i64 W,.slice none 0 0,.int .i64 1]:=o1.ext x2 (by rw[wr1.next];exact ls);have x9:Ext h2 (bump h2 13):=ext_bump hA _ _;have osb9:=osb.ext x9 (Nat.lt_of_lt_of_le ls (by have:=x2.next;rw[wr1.next]at this;exact this));have q2:rd (bump h2 13) sb (addN 0 0) 1 [.slice ao k co]:=by rw[e_addN hA];exact rd_at hA (osb9.readG (o:=0) (n:=1) (Nat.le_of_ble_eq_true rfl))
 obtain⟨ab,a0,x,ea1,_,hx,q3⟩:=is_at (hr.ext (y2.trans x9)) (i:=K) (by omega) (by omega);subst ea1;have q3:=rd_ok hA q3;have n13:(bump h2 13).next=h2.next+13:=by rw[e_bump hA];rfl
 have i7:addN (next h2) 7=h2.next+7:=by rw[e_addN hA,e_next hA]
 have i9:addN (next h2) 9=h2.next+9:=by rw[e_addN hA,e_next hA]
 have o29:=o2.ext x9 l2;refine zq ?_;refine appInD_ok hA TL64 iC_len (by omega) iC_ok (v:=x) o29 (by rw[List.length_append,rwl];exact ewc.symm) (by omega) (by omega) (by omega) (by omega) (by omega) (fun h3 o3 n3 g3 x3=>?_);refine zc ?_;simp only[show iC x=[Value.int .i64 x]from rfl]at o3 n3 g3 x3;generalize lowered (putAt (bump h2 13) (addN (next h2) 7) 1 [Value.int .i64 x]) h3=Y1 at *;have hn1:h1.next=h.next:=wr1.next;have k1:∀j,j<h.next->j≠sb->Y1.m.get j=h.m.get j:=fun j hj hne=>by
  rw[g3 j (by omega) (by have:=x2.next;omega),x9.get j (by have:=x2.next;omega),x2.get j (by omega),wr1.get j hne]
 have tY:Apd Y1 1 ao k co ((hds wc bs ((longs rows right).take k)).flatMap Hd.cells):=t.of_get (by have:=x2.next;omega) (fun ad had hb=>k1 _ hb (na ad had));rw[show rn.succ=wc from ewc.symm];refine appKD_ok hA TLL64 hd_len (by omega) hd_ok (v:=⟨some ⟨lb,0,none⟩,wc,wc⟩) (by omega) tY (fun ad had=>by have:=t.lt ad had;have:=x2.next;omega) (by omega) (fun ob h4 a4 nb4 n4 g4 x4=>?_);generalize someCap 1 (k+1)=cc' at *;obtain⟨k',hk2⟩:∃z,z=k+1:=⟨_,rfl⟩;rw[<-hk2]at a4 ⊢;refine zc ?_;simp only[show Hd.cells ⟨some ⟨lb,0,none⟩,wc,wc⟩=[.slice (some ⟨lb,0,none⟩) wc wc]from rfl]at a4 n4 g4 x4;generalize lowered (putAt Y1 (addN (next h2) 9) 1 [.slice (some ⟨lb,0,none⟩) wc wc]) h4=Y2 at *;have hx2:=x2.next;have osY:Own Y2 sb 4 [.slice ao k co,.int .i64 W,.slice none 0 0,.int .i64 1]:=osb9.of_get (by
  rw[g4 sb (by omega) (by omega) (fun ad had=>na ad had),g3 sb (by omega) (by omega)])
 obtain⟨h5,w5,o5,wr5⟩:=osY.write (o:=0) (vs:=[.slice (some ⟨ob,0,none⟩) k' cc']) (Nat.le_of_ble_eq_true rfl);have w5:wr Y2 sb (addN 0 0) [.slice (some ⟨ob,0,none⟩) k' cc'] h5:=by rw[e_addN hA];exact wr_at hA w5
 refine zq ?_;have i13:addN (next h2) 13=h2.next+13:=by rw[e_addN hA,e_next hA]
 refine⟨by rw[e_fpApp hA];exact⟨rfl,.inr (by omega),.inr (by omega)⟩,by rw[e_ne hA];omega,?_⟩;refine zc ?_;rw[add64 hA (by omega) (by omega)];have hxg:=g.ext.next;have xY1:Ext h0 Y1:=x3 h0 (y2.trans x9) hlow (by omega) (by omega);have xY2:Ext h0 Y2:=x4 h0 xY1 hlow (by omega) hf;have x5:Ext h0 h5:=wr5.ext xY2 hsb;have tk:(longs rows right).take k'=(longs rows right).take k++[gt rows (k:Int)++[gt right (k:Int)]]:=by rw[hk2];exact longs_take ll (by omega)
 have rl:(gt rows (k:Int)++[gt right (k:Int)]).length=wc:=by rw[<-eK,List.length_append,rwl];exact ewc.symm
 have hB:hds wc (bs++[lb]) ((longs rows right).take k')=hds wc bs ((longs rows right).take k)++[⟨some ⟨lb,0,none⟩,wc,wc⟩]:=by rw[tk,hds_add g.len,rl]
 have lbn:lb∉bs:=fun q=>by have:=g.ltr lb q;omega
 have ol:Own h5 lb 1 ((gt rows (k:Int)++[gt right (k:Int)]).flatMap iC):=by
  have e1:(gt rows K++[0]).set rn x=gt rows (k:Int)++[gt right (k:Int)]:=by
   rw[List.set_append_right _ _ (by omega),rwl,Nat.sub_self,<-eK,hx];rfl
  rw[<-e1];exact(o3.of_get (by rw[g4 lb (by omega) (by omega) (fun ad had=>by have:=t.lt ad had;omega)])).of_get (wr5.get _ (by omega))
 have gk:∀b,b∈bs->h5.m.get b=h.m.get b:=fun b hb=>by
  have hlt:=g.ltr b hb;have hne:b≠sb:=fun q=>ns (q ▸ hb)
  rw[wr5.get b hne,g4 b (by omega) (by omega) (fun ad had q=>out ad had (q ▸ hb)),k1 b hlt hne]
 have gw:=(g.keep x5 (by rw[wr5.next];omega) gk).add ol (by omega) (by rw[wr5.next];omega) lbn;rw[<-tk]at gw;have ha5:Apd h5 1 (some ⟨ob,0,none⟩) k' cc' ((hds wc (bs++[lb]) ((longs rows right).take k')).flatMap Hd.cells):=by
  rw[hB];refine Apd.of_get a4 (by rw[wr5.next];omega) (fun ad had hb=>wr5.get _ (by cases had;simp only;omega))
 refine ih k' (K+1) h5 _ _ (bs++[lb]) (by omega) (by omega) (by omega) (by rw[wr5.next];omega) (fun b hb hne=>by
  rw[wr5.get b hne,g4 b (by omega) (by omega) (fun ad had q=>by have:=bf ad had;omega),k1 b (by omega) hne,bk b hb hne]) (fun ad e=>by cases e;simp only;omega) ha5 (fun ad e=>by cases e;simp only;omega) gw (fun ad e q=>?_) (fun q=>?_) (fun ad e=>by cases e;simp only;omega) (by rw[wr5.next];omega) ?_
 ·cases e
  rcases List.mem_append.1 q with q|q
  ·have:=g.ltr _ q;simp only at this;omega
  ·simp only[List.mem_singleton]at q;omega
 ·rcases List.mem_append.1 q with q|q
  ·exact ns q
  ·simp only[List.mem_singleton]at q;omega
 ·rw[if_neg (by omega),<-eW]
  exact o5
