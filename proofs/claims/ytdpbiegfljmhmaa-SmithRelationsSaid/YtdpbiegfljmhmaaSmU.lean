import Derived.Test.YtdpbiegfljmhmaaSmS
set_option linter.unusedSimpArgs false
set_option linter.unusedVariables false
namespace Go.Proofs.Ytdpbiegfljmhmaa
open Go.Sim
set_option maxRecDepth 100000
def joinM(g:List (List Int))(n:Nat):Nat->Ext.Vec:=fun i j=>if j<n then gt (gt g (i:Int)) (j:Int)else if j=n+i then 1 else 0
theorem join_nz(g:List (List Int))(n i w:Nat)(hw:n+i<w):∃d J I,(∀x,x<d->J x<w)/\Ext.prod d (Ext.rv (i+1) (joinM g n) J) (i+1) I≠0:=by
 refine⟨i+1,fun x=>n+(i-x),Ext.top (i+1),fun x hx=>by show n+(i-x)<w;omega,?_⟩;rw[Ext.prod_congr (i+1) (V:=Ext.E) (fun y hy x hx=>?_)]
 ·have:=Ext.vol_unit (i+1)
  unfold Ext.vol at this;rw[this];decide
 ·show joinM g n (i+1-1-y) (n+(i-x))=Ext.E y x
  unfold joinM Ext.E;rw[if_neg (by omega)];by_cases c:x=y
  ·rw[if_pos (by omega),if_pos c]
  ·rw[if_neg (by omega),if_neg c]
theorem join_le{g:List (List Int)}{n:Nat}(h:∀i j,(gt (gt g i) j).natAbs<=9)(i j:Nat):(joinM g n i j).natAbs<=9:=by
 unfold joinM;split
 ·exact h _ _
 ·split<;>decide
theorem TI1:SliceT Try.prog 27 3 1:=⟨by kernel_rfl,by kernel_rfl,⟨8,by kernel_rfl,by omega⟩,⟨.int .i64 0,by kernel_rfl,rfl⟩⟩
theorem zI:zeroT Try.prog 3=some (.int .i64 0):=by kernel_rfl
theorem append_zeros2{h:AHeap}{b n m:Nat}{M:Int}(eM:M=m){cells:List Value}(ho:Own h b 1 cells)(hb:b<h.next)(hl:cells.length=n)(hn:n<=1000)(hm:m<=1000)(m0:0<m)(hok:cells.all cellOK=true) :
  appendH Try.prog h [27,3] [.slice (some ⟨b,0,none⟩) n (someCap 1 n),.int .i64 M]=some (.slice (some ⟨h.next,0,none⟩) (n+m) (someCap 1 (n+m)),(h.kill b).push 1 (cells++List.replicate m (.int .i64 0))):=by
 subst eM;have hT:=TI1;obtain⟨by_,hby,hby2⟩:=hT.bytes;have hs:n<slack:=by unfold slack;omega
 have hnews:newsA Try.prog h 3 1 true (.int .i64 (m:Int))=some (m,List.replicate m (.int .i64 0)):=by
  unfold newsA;simp only[zI,hby,cond_true];rw[if_pos ⟨by omega,by omega,hby2,rfl⟩];show some (_,copies [.int .i64 0] _)=_;rw[copies_one];rfl
 have hr:h.readG ⟨b,0,none⟩ n=some cells:=by rw[ho.readG (by omega)];simp[<-hl]
 have hall:(List.replicate m (Value.int IntKind.i64 0)).all cellOK=true:=by simp[cellOK]
 unfold appendH;simp only[hT.und,hT.size,hby,uI,zI,isIntDesc,hnews,capLow_some hs];rw[ble_false (by omega),ble_true (show n+m<=1073741824 by omega),ble_true hby2];have hg:h.m.get b=some (.live true 1 cells):=ho;simp only[cond_false,cond_true,hr,hall,hok,blt_false (someCap_ge 1 n),Bool.and_self,Bool.true_and,List.length_replicate,Nat.mul_one,Nat.beq_refl,hg,show(Value.int IntKind.i64 0).cells.toList.length.beq 1=true from rfl]
theorem gt_some(l:List Int){j:Nat}(h:j<l.length):l[j]?=some (gt l (j:Int)):=by
 unfold gt;rw[List.getD_eq_getElem?_getD,show((j:Int)).toNat=j from rfl,List.getElem?_eq_getElem h];rfl
theorem Ext.Hnf.congr{w k:Nat}{F G:Nat->Ext.Vec}(e:∀z,z<k->G z=F z)(h:Ext.Hnf w k F):Ext.Hnf w k G:=
 ⟨fun i hi=>by rw[e i hi];exact h.lt i hi,fun i hi=>by rw[e i hi];exact h.pos i hi,fun i j hi hj=>by rw[e i (by omega),e j hj];exact h.inc i j hi hj,fun i j hi hj=>by rw[e i (by omega),e j hj];exact h.red i j hi hj⟩
theorem Stm.loose{h0 h h3:AHeap}{sb k w rc nb:Nat}{ra:Option Addr}{bs:Nat->Nat}{A:Nat->Ext.Vec}(t:Stm h0 h sb k k w ra rc bs A)(x:Ext h h3){v:Ext.Vec}(ho:Own h3 nb 1 ((lst v w).flatMap nC))(hb:h.next<=nb)(hb2:nb<h3.next) :
  Stm h0 h3 sb k (k+1) w ra rc (fun y=>if y=k then nb else bs y) (Ext.put A k v):=by
 have t3:=t.more x;have en:∀y,y≠k->(if y=k then nb else bs y)=bs y:=fun y hy=>if_neg hy
 have hd:hdS (fun y=>if y=k then nb else bs y) w k=hdS bs w k:=lst_congr (fun y hy=>by simp only[if_neg (show ¬y=k by omega)]);have hlt:=t.rows.lt;have h0n:=t.rows.ext.next;refine⟨⟨t3.rows.ext,fun y hy=>?_,fun y hy=>?_,fun y hy=>?_,fun y z hy hz e=>?_⟩,t3.own,by rw[hd];exact t3.apd,by omega,t3.s0,t3.s1,t3.fr,fun y hy=>?_,fun ad had=>⟨(t3.nra ad had).1,fun y hy=>?_⟩⟩
 ·by_cases c:y=k
  ·rw[c,if_pos rfl,Ext.put_at];exact ho
  ·rw[if_neg c,Ext.put_ne v c];exact t3.rows.row y (by omega)
 ·by_cases c:y=k
  ·rw[if_pos c];omega
  ·rw[if_neg c];exact t3.rows.old y (by omega)
 ·by_cases c:y=k
  ·rw[if_pos c];exact hb2
  ·rw[if_neg c];exact t3.rows.lt y (by omega)
 ·by_cases c:y=k<;>by_cases d:z=k
  ·rw[c,d]
  ·rw[if_pos c,if_neg d]at e;have:=hlt z (by omega);omega
  ·rw[if_neg c,if_pos d]at e;have:=hlt y (by omega);omega
  ·rw[if_neg c,if_neg d]at e;exact t.rows.inj y z (by omega) (by omega) e
 ·by_cases c:y=k
  ·rw[if_pos c];have:=t.s1;omega
  ·rw[if_neg c];exact t3.nsb y (by omega)
 ·by_cases c:y=k
  ·rw[if_pos c];have:=t.apd.lt ad had;omega
  ·rw[if_neg c];exact(t3.nra ad had).2 y (by omega)
variable{F:Prims}{call head arith cmp scmp bnot bsame conv neg imax imin ofNat slen place inR nz geZ rd wr push next mkOK nat zeros sadd eqAgg cut slc sslc strAt part app cpy putAt fresh lowered bump wrote addN lt ne fpAll fpApp brk yn rng mget mput mnew bytes clr:_}(hA:AP F ⟨call,head,arith,cmp,scmp,bnot,bsame,conv,neg,imax,imin,ofNat,slen,place,inR,nz,geZ,rd,wr,push,next,mkOK,nat,zeros,sadd,eqAgg,cut,slc,sslc,strAt,part,app,cpy,putAt,fresh,lowered,bump,wrote,addN,lt,ne,fpAll,fpApp,brk,yn,rng,mget,mput,mnew,bytes,clr⟩)
include hA
theorem clone_ok{h:AHeap}(hlow:h.low<=h.next){b o n c:Nat}{l:List Int}(hl:Rows nC 1 h (some ⟨b,o,none⟩) n l)(hn:n<=1000){Q:Value->AHeap->Prop}
  (hQ:∀h' b' c',Own2 h' 1 b' n c' (l.flatMap nC)->Ext h h'->h.next<=b'->Q (.slice (some ⟨b',0,none⟩) n c') h'):call 57 [.slice (some ⟨b,o,none⟩) n c] h Q:=by
 refine hA.bodyR Try.func57 r57_ok (hA.alike _ _ _ rfl) hlow (zc ?_);rw[e_app hA,e_push hA,e_next hA];have hp:Own2 (h.push 1 []) 1 h.next 0 0 []:=⟨Own.push h 1 [],by simp[AHeap.push],rfl,.inl ⟨rfl,rfl⟩⟩;obtain⟨b',c',h',k1,k2,k3⟩:=append_any TI1 TI1.und (c2:=c) hp (hl.ext (.push h 1 [])).cells rfl (all_flat nC_ok l) (by omega);obtain⟨x1,x2⟩:=k3 h (.push h 1 []) (Nat.le_refl _);rw[Nat.zero_add]at k1 k2;refine⟨_,_,_,h',k1,?_⟩;refine zc ?_;exact hQ h' b' c' (by simpa using k2) x1 x2
set_option maxHeartbeats 1000000 in
theorem red_loop(hI:InsC F){h0:AHeap}(hl0:h0.low<=h0.next){sb m n w ac:Nat}{aa:Option Addr}{hds:List Hd}{g:List (List Int)}(hw:w=n+m)(n1:1<=n)(n4:n<=4)(m4:m<=4)(hg:GrR nC 1 h0 aa m hds g)(hn:∀y:Int,0<=y->y<m->(gt hds y).n=n)(h9:∀i j,(gt (gt g i) j).natAbs<=9){M:Int}(eM:M=m){Q:Exit->SS->Prop}
  (hQ:∀(h':AHeap) (kn:Nat) (T:List (Nat×List Value)) ra rc bs A,Stm h0 h' sb m m w ra rc bs A->Ext.Hnf w m A->Ext.Lat w m A (joinM g n)->Q (.exit 0) ⟨[(3,.pointer (some ⟨sb,0,none⟩))],kn,T,h'⟩) :
  ∀(d i:Nat) (I:Int) (h:AHeap) (ra:Option Addr) (rc:Nat) (bs:Nat->Nat) (A:Nat->Ext.Vec),m-i<=d->i<=m->I=i->Stm h0 h sb i i w ra rc bs A->Ext.Hnf w i A->Ext.Lat w i A (joinM g n)->
   head 55 3 0 ⟨[(0,.slice aa m ac),(3,.pointer (some ⟨sb,0,none⟩)),(7,.slice aa m ac),(8,.int .i64 M),(9,.int .i64 I)],0,[],h⟩ Q:=by
 refine upTo (fun d ih=>?_);intro i I h ra rc bs A hd hi eI t hf hl;by_cases ci:i<m
 rotate_left
 ·refine hA.roundR Try.func55 r55_ok (zc ?_)
  refine br (I<M) (by rw[e_lss hA]) (fun q=>by omega) (fun _=>?_)<;>refine zc ?_;obtain rfl:i=m:=by omega
  exact hQ h _ _ ra rc bs A t hf hl
 obtain⟨d,rfl⟩:∃k,d=k+1:=⟨d-1,by omega⟩
 replace ih:=ih d rfl
 have hlow:h.low<=h.next:=t.rows.ext.lowOK hl0;have gh:=hg.ext t.rows.ext;obtain⟨ab,ao,rfl,_,q1⟩:=gh.hd.at (i:=I) (by omega) (by omega);have q2:=q1 0 1 (by omega) (by omega);have row:=gh.row I (by omega) (by omega);have rl:=hn I (by omega) (by omega);obtain⟨b,o,eb,_⟩:=row.at (i:=0) (by omega) (by rw[rl];omega);obtain⟨hc,ehc⟩:∃z,z=(gt hds I).c:=⟨_,rfl⟩;have hcell:((gt hds I).cells.drop 0).take 1=[.slice (some ⟨b,o,none⟩) n hc]:=by
  unfold Hd.cells;rw[eb,rl,ehc];rfl
 rw[hcell]at q2;have r1:rd h ab (place ao I 1) 1 [.slice (some ⟨b,o,none⟩) n hc]:=rd_ok hA q2;rw[eb,rl]at row;have e1:ofNat m=M:=by rw[eM];exact e_ofNat hA m
 obtain⟨N,eN⟩:∃z:Int,z=n:=⟨_,rfl⟩;have e2:ofNat n=N:=by rw[eN];exact e_ofNat hA n
 refine hA.roundR Try.func55 r55_ok (zc ?_);refine br (I<M) (by rw[e_lss hA]) (fun _=>?_) (fun q=>by omega)<;>refine zc ?_;refine zq ?_;refine clone_ok hA hlow row (by omega) (fun h1 b1 c1 o1 x1 lb=>⟨_,_,_,rfl,?_⟩)
 (refine zq ?_;repeat ((first|rw[e1]);refine zq ?_))
 rw[e_app hA];obtain⟨k1,k2,k3,k4⟩:=o1;have ec1:c1=someCap 1 n:=by rcases k4 with ⟨_,q⟩|q;omega;exact q
 have lrow:(gt g I).length=n:=row.len;refine⟨_,_,_,_,by rw[ec1];exact append_zeros2 (m:=m) eM k1 k2 (by omega) (by omega) (by omega) (by omega) (all_flat nC_ok _),?_⟩;obtain⟨h2,eh2⟩:∃z,z=(h1.kill b1).push 1 ((gt g I).flatMap nC++List.replicate m (Value.int IntKind.i64 0)):=⟨_,rfl⟩;have x2:Ext h h2:=by rw[eh2];exact(x1.kill lb).trans (.push _ _ _)
 have nb0:h.next<=h1.next:=x1.next;have nb1:h1.next<h2.next:=by rw[eh2];exact Nat.lt_succ_self _
 have o2:Own h2 h1.next 1 ((gt g I).flatMap nC++List.replicate m (Value.int IntKind.i64 0)):=by rw[eh2];exact Own.push (h1.kill b1) 1 _
 rw[<-eh2];obtain⟨f,ef⟩:∃z:Nat->Int,z=fun j=>if j<n then gt (gt g I) (j:Int)else 0:=⟨_,rfl⟩
 have ecs:(gt g I).flatMap nC++List.replicate m (Value.int IntKind.i64 0)=(lst f w).flatMap nC:=by
  have e1:List.replicate m (Value.int IntKind.i64 0)=(List.replicate m (0:Int)).flatMap nC:=by
   have:∀k,List.replicate k (Value.int IntKind.i64 0)=(List.replicate k (0:Int)).flatMap nC:=fun k=>by
    induction k with
    |zero=>rfl
    |succ k ih=>rw[List.replicate_succ,List.replicate_succ,List.flatMap_cons,<-ih];rfl
   exact this m
  rw[e1,<-List.flatMap_append]
  congr 1
  apply List.ext_getElem?;intro j;by_cases c:j<w
  ·rw[lst_at f c,ef]
   by_cases c2:j<n
   ·rw[List.getElem?_append_left (by omega),gt_some _ (by omega)]
    simp only[if_pos c2]
   ·rw[List.getElem?_append_right (by omega),List.getElem?_replicate,if_pos (by omega)]
    simp only[if_neg c2]
  ·rw[List.getElem?_eq_none (by rw[List.length_append,List.length_replicate,lrow];omega),List.getElem?_eq_none (by rw[lst_len];omega)]
 rw[ecs]at o2;obtain⟨h3,w1,w2,w3⟩:=Own.setRow o2 nC_len (i:=n+i) (by rw[lst_len];omega) (1:Int);have x3:Ext h h3:=w3.ext x2 nb0;have e3:(lst f w).set (n+i) 1=lst (joinM g n i) w:=by
  rw[lst_set];refine lst_congr (fun j hj=>?_);unfold joinM;rw[ef,<-eI];by_cases c:j=n+i
  ·rw[if_pos c,if_neg (by omega),if_pos c]
  ·rw[if_neg c]
   by_cases c2:j<n
   ·simp only[if_pos c2]
   ·simp only[if_neg c2,if_neg c]
 rw[e3]at w2;have t3:=t.loose x3 w2 nb0 (by rw[w3.next];exact nb1);generalize hnb:h1.next=nb at *;have a3:arith .add .i64 N I=N+I:=add64 hA (by omega) (by omega);obtain⟨J,eJ⟩:∃z:Int,z=N+I:=⟨_,rfl⟩;rw[<-eJ]at a3;have w1:wr h2 nb (place 0 J 1) [.int .i64 1] h3:=wr_ok hA (by rw[show 0+J.toNat*1=(n+i)*1 by omega];exact w1);obtain⟨cw,ecw⟩:∃z,z=someCap 1 (n+m):=⟨_,rfl⟩;rw[<-ecw];obtain⟨wn,ewn⟩:∃z,z=n+m:=⟨_,rfl⟩;rw[<-ewn]
 (refine zq ?_;repeat ((first|rw[e2]|rw[a3]);refine zq ?_))
 have en:∀z,z<i->Ext.put A i (joinM g n i) z=A z:=fun z hz=>Ext.put_ne _ (by omega)
 obtain⟨D,MM,rn⟩:=Ext.Rnd.start (w:=w) (k:=i) (A:=Ext.put A i (joinM g n i)) (F0:=joinM g n) (hf.congr en) ((Ext.Lat.of_eq en).trans hl) (fun y _ j=>join_le h9 y j) (by omega) (join_nz g n i w (by omega)) (Ext.put_at _);obtain⟨bs2,ebs⟩:∃z,z=fun y=>if y=i then nb else bs y:=⟨_,rfl⟩
 rw[<-ebs]at t3;have eb2:nb=bs2 i:=by rw[ebs];simp only[if_true]
 have ewn':wn=w:=by omega
 rw[ewn',eb2];refine put_ok hA hI (sb:=sb) (bs:=bs2) hl0 (by omega) (by rw[ecw,hw]) (fun y _ j=>join_le h9 y j) t3 rn (fun h4 ra' rc' bs' A' t4 sk=>?_);refine zq ?_;rw[add64 hA (by omega) (by omega)];exact ih (i+1) (I+1) h4 ra' rc' bs' A' (by omega) (by omega) (by omega) t4 sk.hnf sk.lat
theorem reduced_ok(hI:InsC F){h:AHeap}(hlow:h.low<=h.next){m n w ac:Nat}{aa:Option Addr}{hds:List Hd}{g:List (List Int)}(hw:w=n+m)(n1:1<=n)(n4:n<=4)(m4:m<=4)(hg:GrR nC 1 h aa m hds g)(hn:∀y:Int,0<=y->y<m->(gt hds y).n=n)(h9:∀i j,(gt (gt g i) j).natAbs<=9){Q:Value->AHeap->Prop}
  (hQ:∀h' sb ra rc bs A,Stm h h' sb m m w ra rc bs A->Ext.Hnf w m A->Ext.Lat w m A (joinM g n)->Q (.slice ra m rc) h') :
  call 55 [.slice aa m ac] h Q:=by
 obtain⟨M,eM⟩:∃z:Int,z=m:=⟨_,rfl⟩;have e1:ofNat m=M:=by rw[eM];exact e_ofNat hA m
 refine hA.bodyR Try.func55 r55_ok (hA.alike _ _ _ rfl) hlow (zc ?_)
 (refine zq ?_;repeat ((first|rw[e1]);refine zq ?_))
 have xp:Ext h (push h 1 [.slice none 0 0]):=by rw[e_push hA];exact .push _ _ _
 have t0:Stm h (push h 1 [.slice none 0 0]) (next h) 0 0 w none 0 (fun _=>0) (fun _ _=>0):=by
  rw[e_push hA,e_next hA];exact⟨⟨.push _ _ _,fun y hy=>by omega,fun y hy=>by omega,fun y hy=>by omega,fun y z hy=>by omega⟩,Own.push _ _ _,.nil _ _,Nat.le_refl _,Nat.le_refl _,Nat.lt_succ_self _,.none _,fun y hy=>by omega,fun ad had=>by cases had⟩
 refine red_loop hA hI (sb:=next h) hlow hw n1 n4 m4 hg hn h9 eM (fun h' kn T ra rc bs A t hf hl=>?_) m 0 0 _ none 0 (fun _=>0) (fun _ _=>0) (by omega) (by omega) rfl t0 ⟨fun i hi=>by omega,fun i hi=>by omega,fun i j hi hj=>by omega,fun i j hi hj=>by omega⟩ ⟨fun i hi=>by omega,fun i hi=>by omega,1,.inl rfl,fun d J I=>?_⟩
 ·have r1:rd h' (next h) (addN 0 0) 1 [.slice ra m rc]:=by rw[e_addN hA];exact rd_at hA (t.own.readG (o:=0) (n:=1) (Nat.le_refl _))
  have hq:=hQ h' (next h) ra rc bs A t hf hl;generalize next h=sb at *;refine zq ?_;exact hq
 ·show Ext.unit I=1*Ext.unit I
  omega
end Go.Proofs.Ytdpbiegfljmhmaa
namespace Go.Proofs.Ytdpbiegfljmhmaa
open Go.Sim
set_option maxRecDepth 100000
structure Grd(h0 h:AHeap)(k w:Nat)(a:Option Addr)(c:Nat)(bs:Nat->Nat)(F:Nat->Ext.Vec):Prop where
 rows:RowsB h0 h k w bs F
 apd:Apd h 1 a k c ((hdS bs w k).flatMap Hd.cells)
 fr:From h0.next a
 nra:∀ad,a=some ad->∀y,y<k->ad.block≠bs y
theorem Grd.more{h0 h h':AHeap}{k w c:Nat}{a:Option Addr}{bs:Nat->Nat}{F:Nat->Ext.Vec}(t:Grd h0 h k w a c bs F)(e:Ext h h'):Grd h0 h' k w a c bs F:=⟨t.rows.more e,t.apd.ext e,t.fr,t.nra⟩
theorem Grd.head{h0 h:AHeap}{k w c:Nat}{a:Option Addr}{bs:Nat->Nat}{F:Nat->Ext.Vec}(t:Grd h0 h k w a c bs F){y:Nat}(hy:y<k):∃b,a=some ⟨b,0,none⟩/\b<h.next/\h.readG ⟨b,0+y*1,none⟩ 1=some [.slice (some ⟨bs y,0,none⟩) w (someCap 1 w)]:=by
 rcases t.apd with ⟨_,q,_⟩|⟨b,e,_,hb,hl,ho⟩
 ·omega
 refine⟨b,e,hb,?_⟩;have r:=Own.rows ho hd_len (by omega) hb;rw[show(hdS bs w k).length=k from lst_len _ _]at r;obtain⟨b',o,e',_,q⟩:=r.at (i:=(y:Int)) (by omega) (by omega);cases e';have:=q 0 1 (by omega) (by omega);unfold hdS at this;rw[lst_gt _ hy]at this;exact this
theorem Stm.grd{h0 h:AHeap}{sb k n w rc:Nat}{ra:Option Addr}{bs:Nat->Nat}{F:Nat->Ext.Vec}(t:Stm h0 h sb k n w ra rc bs F):Grd h0 h k w ra rc bs F:=
 ⟨⟨t.rows.ext,fun y hy=>t.rows.row y (by have:=t.kn;omega),fun y hy=>t.rows.old y (by have:=t.kn;omega),fun y hy=>t.rows.lt y (by have:=t.kn;omega),fun y z hy hz=>t.rows.inj y z (by have:=t.kn;omega) (by have:=t.kn;omega)⟩,t.apd,t.fr,fun ad had y hy=>(t.nra ad had).2 y (by have:=t.kn;omega)⟩
structure Hds(h0 h:AHeap)(k w:Nat)(a:Option Addr)(c:Nat)(bs:Nat->Nat):Prop where
 apd:Apd h 1 a k c ((hdS bs w k).flatMap Hd.cells)
 fr:From h0.next a
theorem hdS_succ(bs:Nat->Nat)(w k:Nat):hdS bs w (k+1)=hdS bs w k++[⟨some ⟨bs k,0,none⟩,w,someCap 1 w⟩]:=lst_succ _ _
theorem RowsB.tail{h0 h:AHeap}{k w n m:Nat}{bs:Nat->Nat}{F:Nat->Ext.Vec}(t:RowsB h0 h k w bs F){y:Nat}(hy:y<k)(hw:w=n+m):Rows nC 1 h (some ⟨bs y,0+n*1,none⟩) m (lst (fun j=>F y (n+j)) m):=by
 have r:=t.rowR hy;refine⟨?_,nC_len,by omega⟩;have:=r.cells.part (i:=n) (m:=m) (by omega);have e:((lst (F y) w).flatMap nC).drop (n*1)=(lst (fun j=>F y (n+j)) m).flatMap nC:=by
  have el:lst (F y) w=lst (F y) n++lst (fun j=>F y (n+j)) m:=by
   apply List.ext_getElem?;intro j;by_cases c:j<w
   ·rw[lst_at _ c]
    by_cases d:j<n
    ·rw[List.getElem?_append_left (by rw[lst_len];exact d),lst_at _ d]
    ·rw[List.getElem?_append_right (by rw[lst_len];omega),lst_len,lst_at _ (by omega),show n+(j-n)=j by omega]
   ·rw[List.getElem?_eq_none (by rw[lst_len];omega),List.getElem?_eq_none (by rw[List.length_append,lst_len,lst_len];omega)]
  rw[el,List.flatMap_append,List.drop_append_of_le_length (by rw[flatE_len nC_len,lst_len];omega),List.drop_eq_nil_of_le (by rw[flatE_len nC_len,lst_len];omega),List.nil_append]
 rw[e,List.take_of_length_le (by rw[flatE_len nC_len,lst_len];omega)]at this;exact this
variable{F:Prims}{call head arith cmp scmp bnot bsame conv neg imax imin ofNat slen place inR nz geZ rd wr push next mkOK nat zeros sadd eqAgg cut slc sslc strAt part app cpy putAt fresh lowered bump wrote addN lt ne fpAll fpApp brk yn rng mget mput mnew bytes clr:_}(hA:AP F ⟨call,head,arith,cmp,scmp,bnot,bsame,conv,neg,imax,imin,ofNat,slen,place,inR,nz,geZ,rd,wr,push,next,mkOK,nat,zeros,sadd,eqAgg,cut,slc,sslc,strAt,part,app,cpy,putAt,fresh,lowered,bump,wrote,addN,lt,ne,fpAll,fpApp,brk,yn,rng,mget,mput,mnew,bytes,clr⟩)
include hA
set_option maxHeartbeats 1000000 in
theorem part_loop{h0:AHeap}(hl0:h0.low<=h0.next){m n w r s rc:Nat}{ra:Option Addr}{bs:Nat->Nat}{A:Nat->Ext.Vec}(hw:w=n+m)(n4:n<=4)(m1:1<=m)(m4:m<=4)(hr:r<=m)(es:r+s=m)(lo:∀y,y<r->Ext.leadV w (A y)<n)(hi:∀y,r<=y->y<m->n<=Ext.leadV w (A y)){M N:Int}(eM:M=m)(eN:N=n){Q:Exit->SS->Prop}
  (hQ:∀(h':AHeap) (kn:Nat) (T:List (Nat×List Value)) pa pc qa qc rb,RowsB h0 h' m w bs A->Hds h0 h' r w pa pc bs->Grd h0 h' s m qa qc rb (fun y j=>A (r+y) (n+j))->(∀ad,pa=some ad->∀y,y<m->ad.block≠bs y)->Q (.exit 0) ⟨[(2,.slice pa r pc),(3,.slice qa s qc)],kn,T,h'⟩) :
  ∀(d i u v:Nat) (I:Int) (h:AHeap) (pa qa:Option Addr) (pc qc:Nat) (rb:Nat->Nat),m-i<=d->i<=m->I=i->u=min i r->v=i-r->Grd h0 h m w ra rc bs A->Hds h0 h u w pa pc bs->Grd h0 h v m qa qc rb (fun y j=>A (r+y) (n+j))->
   (∀ad,pa=some ad->(∀y,y<m->ad.block≠bs y)/\(∀y,y<v->ad.block≠rb y)/\∀bd,qa=some bd->ad.block≠bd.block)->(∀ad,qa=some ad->∀y,y<m->ad.block≠bs y)->
   (∀ad,ra=some ad->(∀bd,pa=some bd->ad.block≠bd.block)/\∀bd,qa=some bd->ad.block≠bd.block)->
   head 29 3 0 ⟨[(2,.slice pa u pc),(3,.slice qa v qc),(4,.int .i64 N),(12,.slice ra m rc),(13,.int .i64 M),(14,.int .i64 I)],0,[],h⟩ Q:=by
 refine upTo (fun d ih=>?_);intro i u v I h pa qa pc qc rb hd hi' eI eu ev t p q z1 z2 z5;by_cases ci:i<m
 rotate_left
 ·refine hA.roundR Try.func29 r29_ok (zc ?_)
  refine br (I<M) (by rw[e_lss hA]) (fun q=>by omega) (fun _=>?_)<;>refine zc ?_;obtain rfl:u=r:=by omega
  obtain rfl:v=s:=by omega
  exact hQ h _ _ pa pc qa qc rb t.rows p q (fun ad had=>(z1 ad had).1)
 obtain⟨d,rfl⟩:∃k,d=k+1:=⟨d-1,by omega⟩
 replace ih:=ih d rfl
 have hlow:h.low<=h.next:=t.rows.ext.lowOK hl0;obtain⟨ab,rfl,hab,q1⟩:=t.head ci;obtain⟨cw,ecw⟩:∃z,z=someCap 1 w:=⟨_,rfl⟩;rw[<-ecw]at q1;have r1:rd h ab (place 0 I 1) 1 [.slice (some ⟨bs i,0,none⟩) w cw]:=rd_ok hA (by rw[eI];exact q1);obtain⟨z6,z7⟩:=z5 _ rfl;refine hA.roundR Try.func29 r29_ok (zc ?_);refine br (I<M) (by rw[e_lss hA]) (fun _=>?_) (fun q=>by omega)<;>refine zc ?_;refine zq ?_;refine lead_ok hA hlow (by omega) (fun x hx=>t.rows.el ci hx) (fun L eL=>⟨L,rfl,?_⟩);refine zq ?_;refine br (L<N) (by rw[e_lss hA]) (fun cl=>?_) (fun cl=>?_)<;>refine zc ?_
 ·have hir:i<r:=by
   rcases Nat.lt_or_ge i r with c|c
   ·exact c
   ·have:=hi i c ci;omega
  obtain rfl:u=i:=by omega
  obtain rfl:v=0:=by omega
  refine zq ?_;refine appK_ok hA TLL hd_len (by omega) hd_ok (v:=(⟨some ⟨bs u,0,none⟩,w,cw⟩:Hd)) p.apd (by omega) (fun b' h' a' x' n' nb' k'=>?_);rw[ecw,<-hdS_succ]at a';have xe:Ext h0 h':=x' h0 t.rows.ext p.fr;have kr:∀y,y<m->h'.m.get (bs y)=h.m.get (bs y):=fun y hy=>k' _ (t.rows.lt y hy) (fun ad had=>(z1 ad had).1 y hy)
  have t2:Grd h0 h' m w (some ⟨ab,0,none⟩) rc bs A:=⟨t.rows.keep xe (Nat.le_of_lt n') kr,t.apd.of_get (Nat.le_of_lt n') (fun ad had hl=>by cases had;exact k' ab hab (fun ad had=>(z6 ad had).symm)),t.fr,t.nra⟩;have q2:Grd h0 h' 0 m qa qc rb (fun y j=>A (r+y) (n+j)):=⟨q.rows.keep xe (Nat.le_of_lt n') (fun y hy=>by omega),q.apd.of_get (Nat.le_of_lt n') (fun ad had hl=>k' _ hl (fun bd hbd=>(z1 bd hbd).2.2 ad had)),q.fr,q.nra⟩;have hn0:=t.rows.ext.next;have p2:Hds h0 h' (u+1) w (some ⟨b',0,none⟩) (someCap 1 (u+1)) bs:=⟨a',fun ad had=>by cases had;show h0.next<=b';omega⟩;generalize someCap 1 (u+1)=cc at *;obtain⟨u1,eu1⟩:∃z,z=u+1:=⟨_,rfl⟩;rw[<-eu1]at p2 ⊢;refine zq ?_;rw[add64 hA (by omega) (by omega)];refine ih (u+1) u1 0 (I+1) h' (some ⟨b',0,none⟩) qa cc qc rb (by omega) (by omega) (by omega) (by omega) (by omega) t2 p2 q2 (fun ad had=>?_) z2 (fun ad had=>?_)
  ·cases had
   exact⟨fun y hy=>by have:=t.rows.lt y hy;show b'≠_;omega,fun y hy=>by omega,fun bd hbd=>by have:=q.apd.lt bd hbd;show b'≠_;omega⟩
  ·cases had
   exact⟨fun bd hbd=>by cases hbd;show ab≠b';omega,z7⟩
 ·have hir:r<=i:=by
   rcases Nat.lt_or_ge i r with c|c
   ·have:=lo i c;omega
   ·exact c
  obtain rfl:u=r:=by omega
  refine zq ?_;rw[ecw];refine slc_any hA TI1 (n:=w) (i:=N) (by omega) (by omega) (by omega) (fun c'=>?_);rw[show 0+N.toNat*1=0+n*1 by omega,show w-N.toNat=m by omega,<-ecw];obtain⟨o,eo⟩:∃z,z=0+n*1:=⟨_,rfl⟩;have tl:=t.rows.tail ci hw;rw[<-eo]at tl ⊢;refine zq ?_;refine clone_ok hA hlow tl (by omega) (fun h1 b1 c1 o1 x1 lb=>⟨_,_,_,rfl,?_⟩);obtain⟨k1,k2,k3,k4⟩:=o1;have ec1:c1=someCap 1 m:=by rcases k4 with ⟨_,q⟩|q;omega;exact q
  have t1:=t.more x1;have p1:=p.apd.ext x1;have q1:=q.more x1;have n1:=x1.next;refine zq ?_;refine appK_ok hA TLL hd_len (by omega) hd_ok (v:=(⟨some ⟨b1,0,none⟩,m,c1⟩:Hd)) q1.apd (by omega) (fun b' h' a' x' n' nb' k'=>?_);have xe:Ext h0 h':=x' h0 t1.rows.ext q.fr;have hn0:=t1.rows.ext.next;have kr:∀y,y<m->h'.m.get (bs y)=h1.m.get (bs y):=fun y hy=>k' _ (t1.rows.lt y hy) (fun ad had=>z2 ad had y hy)
  have t2:Grd h0 h' m w (some ⟨ab,0,none⟩) rc bs A:=⟨t1.rows.keep xe (Nat.le_of_lt n') kr,t1.apd.of_get (Nat.le_of_lt n') (fun ad had hl=>by cases had;exact k' ab (by omega) (fun ad had=>(z7 ad had).symm)),t.fr,t.nra⟩;have p2:Hds h0 h' u w pa pc bs:=⟨p1.of_get (Nat.le_of_lt n') (fun ad had hl=>k' _ hl (fun bd hbd=>((z1 ad had).2.2 bd hbd).symm)),p.fr⟩;obtain⟨rb2,erb⟩:∃z,z=fun y=>if y=v then b1 else rb y:=⟨_,rfl⟩
  have rbv:rb2 v=b1:=by rw[erb];simp only[if_true]
  have rbn:∀y,y<v->rb2 y=rb y:=fun y hy=>by rw[erb];simp only[if_neg (show ¬y=v by omega)]
  have ehd:hdS rb m v++[(⟨some ⟨b1,0,none⟩,m,c1⟩:Hd)]=hdS rb2 m (v+1):=by
   rw[hdS_succ,rbv,ec1]
   congr 1
   exact lst_congr (fun y hy=>by rw[rbn y hy])
  rw[ehd]at a';have hlt:=q.rows.lt;have ev2:u+v=i:=by omega
  have q2:Grd h0 h' (v+1) m (some ⟨b',0,none⟩) (someCap 1 (v+1)) rb2 (fun y j=>A (u+y) (n+j)):=by
   refine⟨⟨xe,fun y hy=>?_,fun y hy=>?_,fun y hy=>?_,fun y z hy hz e=>?_⟩,a',fun ad had=>by cases had;show h0.next<=b';omega,fun ad had y hy=>?_⟩
   ·by_cases c:y=v
    ·rw[c,rbv,ev2];exact k1.of_get (k' b1 k2 (fun ad had=>by have:=q.apd.lt ad had;omega))
    ·rw[rbn y (by omega)];exact(q1.rows.row y (by omega)).of_get (k' _ (q1.rows.lt y (by omega)) (fun ad had=>q.nra ad had y (by omega)))
   ·by_cases c:y=v
    ·rw[c,rbv];have:=t.rows.ext.next;omega
    ·rw[rbn y (by omega)];exact q.rows.old y (by omega)
   ·by_cases c:y=v
    ·rw[c,rbv];omega
    ·rw[rbn y (by omega)];have:=hlt y (by omega);omega
   ·by_cases c:y=v<;>by_cases d:z=v
    ·rw[c,d]
    ·rw[c,rbv,rbn z (by omega)]at e;have:=hlt z (by omega);omega
    ·rw[d,rbv,rbn y (by omega)]at e;have:=hlt y (by omega);omega
    ·rw[rbn y (by omega),rbn z (by omega)]at e;exact q.rows.inj y z (by omega) (by omega) e
   ·cases had
    by_cases c:y=v
    ·rw[c,rbv];show b'≠b1;omega
    ·rw[rbn y (by omega)];have:=hlt y (by omega);show b'≠_;omega
  have pl:=p.apd.lt;generalize someCap 1 (v+1)=cc at *;obtain⟨v1,ev1⟩:∃z,z=v+1:=⟨_,rfl⟩;rw[<-ev1]at q2 ⊢;refine zq ?_;rw[add64 hA (by omega) (by omega)];refine ih (i+1) u v1 (I+1) h' pa (some ⟨b',0,none⟩) pc cc rb2 (by omega) (by omega) (by omega) (by omega) (by omega) t2 p2 q2 (fun ad had=>⟨(z1 ad had).1,fun y hy=>?_,fun bd hbd=>?_⟩) (fun ad had y hy=>?_) (fun ad had=>?_)
  ·by_cases c:y=v
   ·rw[c,rbv];have:=pl ad had;omega
   ·rw[rbn y (by omega)];exact(z1 ad had).2.1 y (by omega)
  ·cases hbd;have:=pl ad had;show _≠b';omega
  ·cases had;have:=t1.rows.lt y hy;show b'≠_;omega
  ·cases had
   exact⟨z6,fun bd hbd=>by cases hbd;show ab≠b';omega⟩
theorem parted_ok(hI:InsC F){h:AHeap}(hlow:h.low<=h.next){m n w ac:Nat}{aa:Option Addr}{hds:List Hd}{g:List (List Int)}(hw:w=n+m)(n1:1<=n)(n4:n<=4)(m1:1<=m)(m4:m<=4)(hg:GrR nC 1 h aa m hds g)(hn:∀y:Int,0<=y->y<m->(gt hds y).n=n)(h9:∀i j,(gt (gt g i) j).natAbs<=9){Q:Value->AHeap->Prop}
  (hQ:∀h' r s pa pc qa qc bs rb A,Ext.Hnf w m A->Ext.Lat w m A (joinM g n)->r+s=m->(∀y,y<r->Ext.leadV w (A y)<n)->(∀y,r<=y->y<m->n<=Ext.leadV w (A y))->RowsB h h' m w bs A->Hds h h' r w pa pc bs->Grd h h' s m qa qc rb (fun y j=>A (r+y) (n+j))->(∀ad,pa=some ad->∀y,y<m->ad.block≠bs y)->Q (.tuple #[.slice pa r pc,.slice qa s qc]) h') :
  call 29 [.slice aa m ac] h Q:=by
 obtain⟨ab,ao,rfl,_,q1⟩:=hg.hd.at (i:=0) (by omega) (by omega);have q2:=q1 0 1 (by omega) (by omega);have row:=hg.row 0 (by omega) (by omega);have rl:=hn 0 (by omega) (by omega);obtain⟨b,o,eb,_⟩:=row.at (i:=0) (by omega) (by rw[rl];omega);obtain⟨hc,ehc⟩:∃z,z=(gt hds 0).c:=⟨_,rfl⟩;have hcell:((gt hds 0).cells.drop 0).take 1=[.slice (some ⟨b,o,none⟩) n hc]:=by
  unfold Hd.cells;rw[eb,rl,ehc];rfl
 rw[hcell]at q2;have r1:rd h ab (place ao 0 1) 1 [.slice (some ⟨b,o,none⟩) n hc]:=rd_ok hA q2;obtain⟨N,eN⟩:∃z:Int,z=n:=⟨_,rfl⟩;have e2:ofNat n=N:=by rw[eN];exact e_ofNat hA n
 obtain⟨M,eM⟩:∃z:Int,z=m:=⟨_,rfl⟩;have e1:ofNat m=M:=by rw[eM];exact e_ofNat hA m
 refine hA.bodyR Try.func29 r29_ok (hA.alike _ _ _ rfl) hlow (zc ?_)
 (refine zq ?_;repeat ((first|rw[e2]);refine zq ?_))
 refine reduced_ok hA hI hlow hw n1 n4 m4 hg hn h9 (fun h1 sb ra rc bs A st hf hl=>?_);obtain⟨r,hr,lo,hi⟩:=hf.stp.parts n;refine⟨_,_,_,rfl,?_⟩
 (refine zq ?_;repeat ((first|rw[e1]);refine zq ?_))
 refine part_loop hA (h0:=h) (s:=m-r) hlow hw n4 m1 m4 hr (by omega) lo hi eM eN (fun h' kn T pa pc qa qc rb x1 x2 x3 x4=>?_) m 0 0 0 0 h1 none none 0 0 (fun _=>0) (by omega) (by omega) rfl (by omega) (by omega) st.grd ⟨.nil _ _,.none _⟩ ⟨⟨st.rows.ext,fun y hy=>by omega,fun y hy=>by omega,fun y hy=>by omega,fun y z hy=>by omega⟩,.nil _ _,.none _,fun ad had=>by cases had⟩ (fun ad had=>by cases had) (fun ad had=>by cases had) (fun ad had=>⟨(fun bd hbd=>by cases hbd),(fun bd hbd=>by cases hbd)⟩);have hq:=hQ h' r (m-r) pa pc qa qc bs rb A hf hl (by omega) lo hi x1 x2 x3 x4;generalize m-r=s at *;refine zq ?_;exact hq
