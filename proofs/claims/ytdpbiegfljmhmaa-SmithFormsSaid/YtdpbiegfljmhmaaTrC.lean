import Derived.Test.YtdpbiegfljmhmaaTrA
import Derived.Test.YtdpbiegfljmhmaaSmU
set_option linter.unusedSimpArgs false
set_option linter.unusedVariables false
namespace Go.Proofs.Ytdpbiegfljmhmaa
open Go.Sim
set_option maxRecDepth 100000
theorem Grd.put{h0 h h':AHeap}{k w c:Nat}{a:Option Addr}{bs:Nat->Nat}{F G:Nat->Ext.Vec}{r:Nat}(t:Grd h0 h k w a c bs F)(hr:r<k)(m:RowsB h0 h' k w bs G)(o:Only h h' (bs r)):Grd h0 h' k w a c bs G:=
 ⟨m,t.apd.of_get o.next (fun ad had hl=>o.get _ hl (t.nra ad had r hr)),t.fr,t.nra⟩
theorem Grd.set{h0 h:AHeap}{k w c:Nat}{a:Option Addr}{bs:Nat->Nat}{F:Nat->Ext.Vec}{r x:Nat}(t:Grd h0 h k w a c bs F)(hr:r<k)(hx:x<w)(v:Int):∃h',h.write (bs r) (0+x*1) [.int .i64 v]=some h'/\Grd h0 h' k w a c bs (updV F r x v):=by
 obtain⟨h',w1,w2,w3⟩:=t.rows.set hr hx v;exact⟨h',w1,t.put hr w2 ((Only.refl _ _).wrote w3)⟩
theorem Grd.swap{h0 h:AHeap}{k w c:Nat}{ra:Option Addr}{bs:Nat->Nat}{F:Nat->Ext.Vec}(t:Grd h0 h k w ra c bs F){a b:Nat}(ha:a<k)(hb:b<k) :
  ∃hb0 h1 h2,ra=some ⟨hb0,0,none⟩/\h.write hb0 (0+a*1) [.slice (some ⟨bs b,0,none⟩) w (someCap 1 w)]=some h1/\h1.write hb0 (0+b*1) [.slice (some ⟨bs a,0,none⟩) w (someCap 1 w)]=some h2/\Grd h0 h2 k w ra c (fun y=>bs (swN a b y)) (fun y=>F (swN a b y)):=by
 rcases t.apd with ⟨_,q,_⟩|⟨b0,rfl,ec,hb0,hl,ho⟩
 ·omega
 have hlen:(hdS bs w k).length=k:=lst_len _ _;obtain⟨h1,w1,w2,w3⟩:=Own.setRow ho hd_len (i:=a) (by rw[hlen];exact ha) (⟨some ⟨bs b,0,none⟩,w,someCap 1 w⟩:Hd);obtain⟨h2,v1,v2,v3⟩:=Own.setRow w2 hd_len (i:=b) (by rw[List.length_set,hlen];exact hb) (⟨some ⟨bs a,0,none⟩,w,someCap 1 w⟩:Hd);have hnr:=t.nra ⟨b0,0,none⟩ rfl;have e:((hdS bs w k).set a ⟨some ⟨bs b,0,none⟩,w,someCap 1 w⟩).set b ⟨some ⟨bs a,0,none⟩,w,someCap 1 w⟩=hdS (fun y=>bs (swN a b y)) w k:=by
  unfold hdS;rw[lst_set,lst_set];refine lst_congr (fun y hy=>?_);by_cases c1:y=b
  ·have:swN a b y=a:=by
    unfold swN;by_cases c2:y=a
    ·rw[if_pos c2];omega
    ·rw[if_neg c2,if_pos c1]
   simp only[if_pos c1,this]
  ·by_cases c2:y=a
   ·have:swN a b y=b:=by unfold swN;rw[if_pos c2]
    simp only[if_neg c1,if_pos c2,this]
   ·have:swN a b y=y:=by unfold swN;rw[if_neg c2,if_neg c1]
    simp only[if_neg c1,if_neg c2,this]
 rw[e]at v2;have hs:=swN_lt (a:=a) (b:=b) (n:=k) ha hb;have hp:=t.rows.perm hs (fun y z _ _ q=>swN_inj y z q);have xe:Ext h0 h2:=v3.ext (w3.ext t.rows.ext (t.fr _ rfl)) (t.fr _ rfl);have nn:h2.next=h.next:=by rw[v3.next,w3.next]
 refine⟨b0,h1,h2,rfl,by rw[Nat.zero_add];exact w1,by rw[Nat.zero_add];exact v1,⟨hp.keep xe (by rw[nn];exact Nat.le_refl _) (fun y hy=>?_),.inr ⟨b0,rfl,ec,by rw[nn];exact hb0,?_,v2⟩,t.fr,fun ad had y hy=>?_⟩⟩
 ·have:=hnr _ (hs y hy)
  rw[v3.get _ (fun q=>this q.symm),w3.get _ (fun q=>this q.symm)]
 ·rw[flatE_len hd_len];unfold hdS;rw[lst_len]
 ·cases had;exact hnr _ (hs y hy)
variable{F:Prims}{call head arith cmp scmp bnot bsame conv neg imax imin ofNat slen place inR nz geZ rd wr push next mkOK nat zeros sadd eqAgg cut slc sslc strAt part app cpy putAt fresh lowered bump wrote addN lt ne fpAll fpApp brk yn rng mget mput mnew bytes clr:_}(hA:AP F ⟨call,head,arith,cmp,scmp,bnot,bsame,conv,neg,imax,imin,ofNat,slen,place,inR,nz,geZ,rd,wr,push,next,mkOK,nat,zeros,sadd,eqAgg,cut,slc,sslc,strAt,part,app,cpy,putAt,fresh,lowered,bump,wrote,addN,lt,ne,fpAll,fpApp,brk,yn,rng,mget,mput,mnew,bytes,clr⟩)
include hA
theorem tr_sub{h0:AHeap}(hl0:h0.low<=h0.next){m w cp at' i:Nat}{ra:Option Addr}{bs:Nat->Nat}{E:Nat->Ext.Vec}{q N AT K I:Int}{more:Bool}(hi:i<m)(ha:at'<m)(hne:at'≠i)(hw:w<=1000)(hm:m<=1000)(eA:AT=at')(eI:I=i)(hb:∀x,x<w->(E i x).natAbs<=9000000000000000000/\(q*E at' x).natAbs<=9000000000000000000/\(E i x-q*E at' x).natAbs<=9000000000000000000){W:Int}(eW:W=w){Q:Exit->SS->Prop}
  (hQ:∀(h':AHeap),Grd h0 h' m w ra cp bs (rowT E i w (fun x=>E i x-q*E at' x))->Q (.exit 8) ⟨[(0,.slice ra m cp),(1,.int .i64 N),(5,.int .i64 AT),(6,.int .i64 K),(7,.bool more),(10,.int .i64 I)],32,[],h'⟩) :
  ∀(d j:Nat) (J:Int) (h:AHeap),w-j<=d->j<=w->J=j->Grd h0 h m w ra cp bs (rowT E i j (fun x=>E i x-q*E at' x))->
   head 59 21 32 ⟨[(0,.slice ra m cp),(1,.int .i64 N),(5,.int .i64 AT),(6,.int .i64 K),(7,.bool more),(10,.int .i64 I),(11,.int .i64 q),(12,.int .i64 J)],32,[],h⟩ Q:=by
 intro d;obtain⟨cw,ecw⟩:∃z,z=someCap 1 w:=⟨_,rfl⟩;have e0:ofNat w=W:=by rw[eW];exact e_ofNat hA w
 induction d with
 |zero=>
  intro j J h hd hj eJ t;obtain⟨b,rfl,hbn,q1⟩:=t.head hi;rw[<-ecw]at q1;have r1:rd h b (place 0 I 1) 1 [.slice (some ⟨bs i,0,none⟩) w cw]:=rd_ok hA (by rw[eI];exact q1);refine hA.roundR Try.func59 r59_ok (zc ?_)
  (refine zq ?_;repeat ((first|rw[e0]);refine zq ?_))
  refine br (J<W) (by rw[e_lss hA]) (fun q=>by omega) (fun _=>?_)<;>refine zc ?_;obtain rfl:j=w:=by omega
  exact hQ h t
 |succ d ih=>
 intro j J h hd hj eJ t;by_cases cj:j<w
 rotate_left
 ·obtain⟨b,rfl,hbn,q1⟩:=t.head hi
  rw[<-ecw]at q1;have r1:rd h b (place 0 I 1) 1 [.slice (some ⟨bs i,0,none⟩) w cw]:=rd_ok hA (by rw[eI];exact q1);refine hA.roundR Try.func59 r59_ok (zc ?_)
  (refine zq ?_;repeat ((first|rw[e0]);refine zq ?_))
  refine br (J<W) (by rw[e_lss hA]) (fun q=>by omega) (fun _=>?_)<;>refine zc ?_;obtain rfl:j=w:=by omega
  exact hQ h t
 obtain⟨b,rfl,hbn,q1⟩:=t.head hi;rw[<-ecw]at q1;have r1:rd h b (place 0 I 1) 1 [.slice (some ⟨bs i,0,none⟩) w cw]:=rd_ok hA (by rw[eI];exact q1);refine hA.roundR Try.func59 r59_ok (zc ?_)
 (refine zq ?_;repeat ((first|rw[e0]);refine zq ?_))
 refine br (J<W) (by rw[e_lss hA]) (fun _=>?_) (fun q=>by omega)<;>refine zc ?_;obtain⟨h9,eh9⟩:∃z,z=bump h 19:=⟨_,rfl⟩;have t9:=t.more (show Ext h h9 by rw[eh9];exact ext_bump hA _ _);obtain⟨b',e',_,q2⟩:=t9.head hi;cases e';obtain⟨b',e',_,q3⟩:=t9.head ha;cases e';rw[<-ecw]at q2 q3;obtain⟨x,hx⟩:∃z,z=E i j:=⟨_,rfl⟩;obtain⟨y,hy⟩:∃z,z=E at' j:=⟨_,rfl⟩;have r2:rd h9 b (place 0 I 1) 1 [.slice (some ⟨bs i,0,none⟩) w cw]:=rd_ok hA (by rw[eI];exact q2);have r3:rd h9 b (place 0 AT 1) 1 [.slice (some ⟨bs at',0,none⟩) w cw]:=rd_ok hA (by rw[eA];exact q3);have r4:rd h9 (bs i) (place 0 J 1) 1 [.int .i64 x]:=rd_ok hA (by
  have:=t9.rows.el hi cj;rw[show rowT E i j (fun x=>E i x-q*E at' x) i j=x by unfold rowT;rw[if_neg (by omega),hx]]at this;rw[eJ];exact this)
 have r5:rd h9 (bs at') (place 0 J 1) 1 [.int .i64 y]:=rd_ok hA (by
  have:=t9.rows.el ha cj;rw[show rowT E i j (fun x=>E i x-q*E at' x) at' j=y by unfold rowT;rw[if_neg (by omega),hy]]at this;rw[eJ];exact this)
 obtain⟨b1,b2,b3⟩:=hb j cj;rw[<-hx]at b1 b3;rw[<-hy]at b2 b3;obtain⟨u,hu⟩:∃z,z=q*y:=⟨_,rfl⟩;rw[<-hu]at b2 b3;have m1:arith .mul .i64 q y=u:=by rw[hu];exact mul64 hA (by omega) (by omega)
 obtain⟨g,hg⟩:∃z,z=x-u:=⟨_,rfl⟩;have m2:arith .sub .i64 x u=g:=by rw[hg];exact sub64 hA (by omega) (by omega)
 obtain⟨h2,w1,t2⟩:=t9.set hi cj g;have w1:wr h9 (bs i) (place 0 J 1) [.int .i64 g] h2:=wr_ok hA (by rw[eJ];exact w1);rw[<-eh9]
 (refine zq ?_;repeat ((first|rw[m1]|rw[m2]);refine zq ?_))
 rw[add64 hA (by omega) (by omega)];refine ih (j+1) (J+1) h2 (by omega) (by omega) (by omega) (t2.congr (fun z x' hz hx'=>?_));unfold updV rowT;by_cases c:z=i/\x'=j
 ·rw[if_pos c,if_pos ⟨c.1,by omega⟩,c.2,hg,hu,hx,hy]
 ·rw[if_neg c]
  by_cases c2:z=i/\x'<j
  ·rw[if_pos c2,if_pos ⟨c2.1,by omega⟩]
  ·rw[if_neg c2,if_neg (fun q=>c ⟨q.1,by
    by_cases e:x'=j
    ·exact e
    ·exact absurd ⟨q.1,by omega⟩ c2⟩)]
theorem tr_sub2{h0:AHeap}(hl0:h0.low<=h0.next){m w cp at' i:Nat}{ra:Option Addr}{bs:Nat->Nat}{E:Nat->Ext.Vec}{q N AT K I:Int}(hi:i<m)(ha:at'<m)(hne:at'≠i)(hw:w<=1000)(hm:m<=1000)(eA:AT=at')(eI:I=i)(hb:∀x,x<w->(E i x).natAbs<=9000000000000000000/\(q*E at' x).natAbs<=9000000000000000000/\(E i x-q*E at' x).natAbs<=9000000000000000000){W:Int}(eW:W=w){Q:Exit->SS->Prop}
  (hQ:∀(h':AHeap),Grd h0 h' m w ra cp bs (rowT E i w (fun x=>E i x-q*E at' x))->Q (.exit 14) ⟨[(0,.slice ra m cp),(1,.int .i64 N),(5,.int .i64 AT),(6,.int .i64 K),(14,.int .i64 I)],32,[],h'⟩) :
  ∀(d j:Nat) (J:Int) (h:AHeap),w-j<=d->j<=w->J=j->Grd h0 h m w ra cp bs (rowT E i j (fun x=>E i x-q*E at' x))->
   head 59 38 32 ⟨[(0,.slice ra m cp),(1,.int .i64 N),(5,.int .i64 AT),(6,.int .i64 K),(14,.int .i64 I),(15,.int .i64 q),(16,.int .i64 J)],32,[],h⟩ Q:=by
 intro d;obtain⟨cw,ecw⟩:∃z,z=someCap 1 w:=⟨_,rfl⟩;have e0:ofNat w=W:=by rw[eW];exact e_ofNat hA w
 induction d with
 |zero=>
  intro j J h hd hj eJ t;obtain⟨b,rfl,hbn,q1⟩:=t.head hi;rw[<-ecw]at q1;have r1:rd h b (place 0 I 1) 1 [.slice (some ⟨bs i,0,none⟩) w cw]:=rd_ok hA (by rw[eI];exact q1);refine hA.roundR Try.func59 r59_ok (zc ?_)
  (refine zq ?_;repeat ((first|rw[e0]);refine zq ?_))
  refine br (J<W) (by rw[e_lss hA]) (fun q=>by omega) (fun _=>?_)<;>refine zc ?_;obtain rfl:j=w:=by omega
  exact hQ h t
 |succ d ih=>
 intro j J h hd hj eJ t;by_cases cj:j<w
 rotate_left
 ·obtain⟨b,rfl,hbn,q1⟩:=t.head hi
  rw[<-ecw]at q1;have r1:rd h b (place 0 I 1) 1 [.slice (some ⟨bs i,0,none⟩) w cw]:=rd_ok hA (by rw[eI];exact q1);refine hA.roundR Try.func59 r59_ok (zc ?_)
  (refine zq ?_;repeat ((first|rw[e0]);refine zq ?_))
  refine br (J<W) (by rw[e_lss hA]) (fun q=>by omega) (fun _=>?_)<;>refine zc ?_;obtain rfl:j=w:=by omega
  exact hQ h t
 obtain⟨b,rfl,hbn,q1⟩:=t.head hi;rw[<-ecw]at q1;have r1:rd h b (place 0 I 1) 1 [.slice (some ⟨bs i,0,none⟩) w cw]:=rd_ok hA (by rw[eI];exact q1);refine hA.roundR Try.func59 r59_ok (zc ?_)
 (refine zq ?_;repeat ((first|rw[e0]);refine zq ?_))
 refine br (J<W) (by rw[e_lss hA]) (fun _=>?_) (fun q=>by omega)<;>refine zc ?_;obtain⟨h9,eh9⟩:∃z,z=bump h 19:=⟨_,rfl⟩;have t9:=t.more (show Ext h h9 by rw[eh9];exact ext_bump hA _ _);obtain⟨b',e',_,q2⟩:=t9.head hi;cases e';obtain⟨b',e',_,q3⟩:=t9.head ha;cases e';rw[<-ecw]at q2 q3;obtain⟨x,hx⟩:∃z,z=E i j:=⟨_,rfl⟩;obtain⟨y,hy⟩:∃z,z=E at' j:=⟨_,rfl⟩;have r2:rd h9 b (place 0 I 1) 1 [.slice (some ⟨bs i,0,none⟩) w cw]:=rd_ok hA (by rw[eI];exact q2);have r3:rd h9 b (place 0 AT 1) 1 [.slice (some ⟨bs at',0,none⟩) w cw]:=rd_ok hA (by rw[eA];exact q3);have r4:rd h9 (bs i) (place 0 J 1) 1 [.int .i64 x]:=rd_ok hA (by
  have:=t9.rows.el hi cj;rw[show rowT E i j (fun x=>E i x-q*E at' x) i j=x by unfold rowT;rw[if_neg (by omega),hx]]at this;rw[eJ];exact this)
 have r5:rd h9 (bs at') (place 0 J 1) 1 [.int .i64 y]:=rd_ok hA (by
  have:=t9.rows.el ha cj;rw[show rowT E i j (fun x=>E i x-q*E at' x) at' j=y by unfold rowT;rw[if_neg (by omega),hy]]at this;rw[eJ];exact this)
 obtain⟨b1,b2,b3⟩:=hb j cj;rw[<-hx]at b1 b3;rw[<-hy]at b2 b3;obtain⟨u,hu⟩:∃z,z=q*y:=⟨_,rfl⟩;rw[<-hu]at b2 b3;have m1:arith .mul .i64 q y=u:=by rw[hu];exact mul64 hA (by omega) (by omega)
 obtain⟨g,hg⟩:∃z,z=x-u:=⟨_,rfl⟩;have m2:arith .sub .i64 x u=g:=by rw[hg];exact sub64 hA (by omega) (by omega)
 obtain⟨h2,w1,t2⟩:=t9.set hi cj g;have w1:wr h9 (bs i) (place 0 J 1) [.int .i64 g] h2:=wr_ok hA (by rw[eJ];exact w1);rw[<-eh9]
 (refine zq ?_;repeat ((first|rw[m1]|rw[m2]);refine zq ?_))
 rw[add64 hA (by omega) (by omega)];refine ih (j+1) (J+1) h2 (by omega) (by omega) (by omega) (t2.congr (fun z x' hz hx'=>?_));unfold updV rowT;by_cases c:z=i/\x'=j
 ·rw[if_pos c,if_pos ⟨c.1,by omega⟩,c.2,hg,hu,hx,hy]
 ·rw[if_neg c]
  by_cases c2:z=i/\x'<j
  ·rw[if_pos c2,if_pos ⟨c2.1,by omega⟩]
  ·rw[if_neg c2,if_neg (fun q=>c ⟨q.1,by
    by_cases e:x'=j
    ·exact e
    ·exact absurd ⟨q.1,by omega⟩ c2⟩)]
end Go.Proofs.Ytdpbiegfljmhmaa
namespace Go.Proofs.Ytdpbiegfljmhmaa
open Go.Sim
set_option maxRecDepth 100000
variable{F:Prims}{call head arith cmp scmp bnot bsame conv neg imax imin ofNat slen place inR nz geZ rd wr push next mkOK nat zeros sadd eqAgg cut slc sslc strAt part app cpy putAt fresh lowered bump wrote addN lt ne fpAll fpApp brk yn rng mget mput mnew bytes clr:_}(hA:AP F ⟨call,head,arith,cmp,scmp,bnot,bsame,conv,neg,imax,imin,ofNat,slen,place,inR,nz,geZ,rd,wr,push,next,mkOK,nat,zeros,sadd,eqAgg,cut,slc,sslc,strAt,part,app,cpy,putAt,fresh,lowered,bump,wrote,addN,lt,ne,fpAll,fpApp,brk,yn,rng,mget,mput,mnew,bytes,clr⟩)
include hA
theorem tr_neg{h0:AHeap}(hl0:h0.low<=h0.next){m w cp i:Nat}{ra:Option Addr}{bs:Nat->Nat}{E:Nat->Ext.Vec}{N K I:Int}(hi:i<m)(hw:w<=1000)(hm:m<=1000)(eI:I=i)(hb:∀x,x<w->(E i x).natAbs<=9000000000000000000){W:Int}(eW:W=w){Q:Exit->SS->Prop}
  (hQ:∀(h':AHeap),Grd h0 h' m w ra cp bs (rowT E i w (fun x=>-(E i x)))->Q (.exit 10) ⟨[(0,.slice ra m cp),(1,.int .i64 N),(5,.int .i64 I),(6,.int .i64 K)],0,[],h'⟩) :
  ∀(d j:Nat) (J:Int) (h:AHeap),w-j<=d->j<=w->J=j->Grd h0 h m w ra cp bs (rowT E i j (fun x=>-(E i x)))->
   head 59 28 0 ⟨[(0,.slice ra m cp),(1,.int .i64 N),(5,.int .i64 I),(6,.int .i64 K),(13,.int .i64 J)],0,[],h⟩ Q:=by
 intro d;obtain⟨cw,ecw⟩:∃z,z=someCap 1 w:=⟨_,rfl⟩;have e0:ofNat w=W:=by rw[eW];exact e_ofNat hA w
 induction d with
 |zero=>
  intro j J h hd hj eJ t;obtain⟨b,rfl,hbn,q1⟩:=t.head hi;rw[<-ecw]at q1;have r1:rd h b (place 0 I 1) 1 [.slice (some ⟨bs i,0,none⟩) w cw]:=rd_ok hA (by rw[eI];exact q1);refine hA.roundR Try.func59 r59_ok (zc ?_)
  (refine zq ?_;repeat ((first|rw[e0]);refine zq ?_))
  refine br (J<W) (by rw[e_lss hA]) (fun q=>by omega) (fun _=>?_)<;>refine zc ?_;obtain rfl:j=w:=by omega
  exact hQ h t
 |succ d ih=>
 intro j J h hd hj eJ t;by_cases cj:j<w
 rotate_left
 ·obtain⟨b,rfl,hbn,q1⟩:=t.head hi
  rw[<-ecw]at q1;have r1:rd h b (place 0 I 1) 1 [.slice (some ⟨bs i,0,none⟩) w cw]:=rd_ok hA (by rw[eI];exact q1);refine hA.roundR Try.func59 r59_ok (zc ?_)
  (refine zq ?_;repeat ((first|rw[e0]);refine zq ?_))
  refine br (J<W) (by rw[e_lss hA]) (fun q=>by omega) (fun _=>?_)<;>refine zc ?_;obtain rfl:j=w:=by omega
  exact hQ h t
 obtain⟨b,rfl,hbn,q1⟩:=t.head hi;rw[<-ecw]at q1;have r1:rd h b (place 0 I 1) 1 [.slice (some ⟨bs i,0,none⟩) w cw]:=rd_ok hA (by rw[eI];exact q1);refine hA.roundR Try.func59 r59_ok (zc ?_)
 (refine zq ?_;repeat ((first|rw[e0]);refine zq ?_))
 refine br (J<W) (by rw[e_lss hA]) (fun _=>?_) (fun q=>by omega)<;>refine zc ?_;obtain⟨h9,eh9⟩:∃z,z=bump h 15:=⟨_,rfl⟩;have t9:=t.more (show Ext h h9 by rw[eh9];exact ext_bump hA _ _);obtain⟨b',e',_,q2⟩:=t9.head hi;cases e';rw[<-ecw]at q2;obtain⟨x,hx⟩:∃z,z=E i j:=⟨_,rfl⟩;have r2:rd h9 b (place 0 I 1) 1 [.slice (some ⟨bs i,0,none⟩) w cw]:=rd_ok hA (by rw[eI];exact q2);have r4:rd h9 (bs i) (place 0 J 1) 1 [.int .i64 x]:=rd_ok hA (by
  have:=t9.rows.el hi cj;rw[show rowT E i j (fun x=>-(E i x)) i j=x by unfold rowT;rw[if_neg (by omega),hx]]at this;rw[eJ];exact this)
 have b1:=hb j cj;rw[<-hx]at b1;obtain⟨g,hg⟩:∃z,z=-x:=⟨_,rfl⟩;have m2:neg .i64 x=g:=by rw[hg,e_neg hA,wrap64 (by omega) (by omega)];omega
 obtain⟨h2,w1,t2⟩:=t9.set hi cj g;have w1:wr h9 (bs i) (place 0 J 1) [.int .i64 g] h2:=wr_ok hA (by rw[eJ];exact w1);rw[<-eh9]
 (refine zq ?_;repeat ((first|rw[m2]);refine zq ?_))
 rw[add64 hA (by omega) (by omega)];refine ih (j+1) (J+1) h2 (by omega) (by omega) (by omega) (t2.congr (fun z x' hz hx'=>?_));unfold updV rowT;by_cases c:z=i/\x'=j
 ·rw[if_pos c,if_pos ⟨c.1,by omega⟩,c.2,hg,hx]
 ·rw[if_neg c]
  by_cases c2:z=i/\x'<j
  ·rw[if_pos c2,if_pos ⟨c2.1,by omega⟩]
  ·rw[if_neg c2,if_neg (fun q=>c ⟨q.1,by
    by_cases e:x'=j
    ·exact e
    ·exact absurd ⟨q.1,by omega⟩ c2⟩)]
def BestIs(E:Nat->Ext.Vec)(k a i:Nat)(B:Int):Prop:=(B=-1/\∀z,a<=z->z<i->E z k=0)\/∃b:Nat,B=b/\a<=b/\b<i/\E b k≠0/\∀z,a<=z->z<i->E z k≠0->(E b k).natAbs<=(E z k).natAbs
theorem tr_best{h0:AHeap}(hl0:h0.low<=h0.next){m w cp a k:Nat}{ra:Option Addr}{bs:Nat->Nat}{E:Nat->Ext.Vec}{N K A:Int}(am:a<m)(kw:k<w)(hw:w<=1000)(hm:m<=1000)(eA:A=a)(eK:K=k)(hb:∀i,a<=i->i<m->(E i k).natAbs<=9000000000000000000){M:Int}(eM:M=m){Q:Exit->SS->Prop}
  (hQ:∀(h':AHeap) B,Grd h0 h' m w ra cp bs E->BestIs E k a m B->Q (.exit 4) ⟨[(0,.slice ra m cp),(1,.int .i64 N),(5,.int .i64 A),(6,.int .i64 K),(8,.int .i64 B)],0,[],h'⟩) :
  ∀(d i:Nat) (I B:Int) (h:AHeap),m-i<=d->i<=m->a<=i->I=i->Grd h0 h m w ra cp bs E->BestIs E k a i B->
   head 59 9 0 ⟨[(0,.slice ra m cp),(1,.int .i64 N),(5,.int .i64 A),(6,.int .i64 K),(8,.int .i64 B),(9,.int .i64 I)],0,[],h⟩ Q:=by
 intro d;obtain⟨cw,ecw⟩:∃z,z=someCap 1 w:=⟨_,rfl⟩;have e0:ofNat m=M:=by rw[eM];exact e_ofNat hA m
 induction d with
 |zero=>
  intro i I B h hd hi ai eI t bi;refine hA.roundR Try.func59 r59_ok (zc ?_)
  (refine zq ?_;repeat ((first|rw[e0]);refine zq ?_))
  refine br (I<M) (by rw[e_lss hA]) (fun q=>by omega) (fun _=>?_)<;>refine zc ?_;obtain rfl:i=m:=by omega
  exact hQ h B t bi
 |succ d ih=>
 intro i I B h hd hi ai eI t bi;by_cases ci:i<m
 rotate_left
 ·refine hA.roundR Try.func59 r59_ok (zc ?_)
  (refine zq ?_;repeat ((first|rw[e0]);refine zq ?_))
  refine br (I<M) (by rw[e_lss hA]) (fun q=>by omega) (fun _=>?_)<;>refine zc ?_;obtain rfl:i=m:=by omega
  exact hQ h B t bi
 obtain⟨h9,eh9⟩:∃z,z=bump h 47:=⟨_,rfl⟩;have t9:=t.more (show Ext h h9 by rw[eh9];exact ext_bump hA _ _);obtain⟨b,rfl,_,q1⟩:=t9.head ci;rw[<-ecw]at q1;have r1:rd h9 b (place 0 I 1) 1 [.slice (some ⟨bs i,0,none⟩) w cw]:=rd_ok hA (by rw[eI];exact q1);obtain⟨x,hx⟩:∃z,z=E i k:=⟨_,rfl⟩;have r2:rd h9 (bs i) (place 0 K 1) 1 [.int .i64 x]:=rd_ok hA (by rw[eK,hx];exact t9.rows.el ci kw);have bx:=hb i ai ci;rw[<-hx]at bx;refine hA.roundR Try.func59 r59_ok (zc ?_)
 (refine zq ?_;repeat ((first|rw[e0]);refine zq ?_))
 refine br (I<M) (by rw[e_lss hA]) (fun _=>?_) (fun q=>by omega)<;>refine zc ?_;rw[<-eh9];have nxt:∀B',BestIs E k a (i+1) B'->head 59 9 0 ⟨[(0,.slice (some ⟨b,0,none⟩) m cp),(1,.int .i64 N),(5,.int .i64 A),(6,.int .i64 K),(8,.int .i64 B'),(9,.int .i64 (I+1))],0,[],h9⟩ Q:=fun B' bi'=>ih (i+1) (I+1) B' h9 (by omega) (by omega) (by omega) (by omega) t9 bi'
 refine zq ?_;refine br (x≠0) (by rw[e_neq hA]) (fun c=>?_) (fun c=>?_)<;>refine zc ?_
 rotate_left
 ·refine zq ?_
  rw[add64 hA (by omega) (by omega)];refine nxt B ?_;have c':E i k=0:=by omega
  rcases bi with ⟨q1,q2⟩|⟨z,q1,q2,q3,q4,q5⟩
  ·exact .inl ⟨q1,fun y y1 y2=>by
    by_cases e:y=i
    ·rw[e];exact c'
    ·exact q2 y y1 (by omega)⟩
  ·exact .inr ⟨z,q1,q2,by omega,q4,fun y y1 y2 y3=>by
    by_cases e:y=i
    ·rw[e]at y3;exact absurd c' y3
    ·exact q5 y y1 (by omega) y3⟩
 refine zq ?_;rcases bi with ⟨p1,p2⟩|⟨z,p1,p2,p3,p4,p5⟩
 ·refine br (B<0) (by rw[e_lss hA]) (fun c2=>?_) (fun c2=>by omega)<;>refine zc ?_
  refine zq ?_;rw[add64 hA (by omega) (by omega)];refine nxt I (.inr ⟨i,eI,ai,by omega,by rw[<-hx];exact c,fun y y1 y2 y3=>?_⟩);by_cases e:y=i
  ·rw[e];exact Nat.le_refl _
  ·exact absurd (p2 y y1 (by omega)) y3
 refine br (B<0) (by rw[e_lss hA]) (fun c2=>by omega) (fun c2=>?_)<;>refine zc ?_;obtain⟨y,hy⟩:∃u,u=E z k:=⟨_,rfl⟩;obtain⟨b',e',_,q2⟩:=t9.head (y:=z) (by omega);cases e';rw[<-ecw]at q2;have r3:rd h9 b (place 0 B 1) 1 [.slice (some ⟨bs z,0,none⟩) w cw]:=rd_ok hA (by rw[p1];exact q2);have r4:rd h9 (bs z) (place 0 K 1) 1 [.int .i64 y]:=rd_ok hA (by rw[eK,hy];exact t9.rows.el (show z<m by omega) kw);have bz:=hb z p2 (by omega);rw[<-hy]at bz;obtain⟨X,eX⟩:∃u:Int,u=x.natAbs:=⟨_,rfl⟩;obtain⟨Y,eY⟩:∃u:Int,u=y.natAbs:=⟨_,rfl⟩;have m1:imax x (neg .i64 x)=X:=by rw[e_imax hA,e_neg hA,wrap64 (by omega) (by omega)];omega
 have m2:imax y (neg .i64 y)=Y:=by rw[e_imax hA,e_neg hA,wrap64 (by omega) (by omega)];omega
 (refine zq ?_;repeat ((first|rw[m1]|rw[m2]);refine zq ?_))
 refine br (X<Y) (by rw[e_lss hA]) (fun c3=>?_) (fun c3=>?_)<;>refine zc ?_
 ·refine zq ?_
  rw[add64 hA (by omega) (by omega)];refine nxt I (.inr ⟨i,eI,ai,by omega,by rw[<-hx];exact c,fun u u1 u2 u3=>?_⟩);by_cases e:u=i
  ·rw[e];exact Nat.le_refl _
  ·have:=p5 u u1 (by omega) u3
   rw[<-hx];rw[<-hy]at this;omega
 ·refine zq ?_
  rw[add64 hA (by omega) (by omega)];refine nxt B (.inr ⟨z,p1,p2,by omega,p4,fun u u1 u2 u3=>?_⟩);by_cases e:u=i
  ·rw[e,<-hx,<-hy];omega
  ·exact p5 u u1 (by omega) u3
