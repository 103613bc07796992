import Derived.Test.YtogliemiljhliaaRdJ
import Derived.Test.YtogliemiljhliaaSortH
set_option linter.unusedSimpArgs false
set_option linter.unusedVariables false
namespace Go.Proofs.Ytogliemiljhliaa
open Go.Sim
set_option maxRecDepth 100000
def R0(l right:List Int):Nat->Nat->Int:=fun i j=>gt (gt (longs (rowsL l) right) (i:Int)) (j:Int)
def S0(l right:List Int):St:=⟨R0 l right,[],1⟩
def SE(l right:List Int):St:=run (pairsL l.length).length (S0 l right) (wid l)
def Okay(l right:List Int):Prop:=∀c,c<=wid l->(run (pairsL l.length).length (S0 l right) c).lead≠0/\(run (pairsL l.length).length (S0 l right) c).lead.natAbs<=1000000000/\(run (pairsL l.length).length (S0 l right) c).bound.length<=(pairsL l.length).length/\∀i j,i<(pairsL l.length).length->j<=wid l->((run (pairsL l.length).length (S0 l right) c).R i j).natAbs<=1000000000
theorem rowsL_len(l:List Int):(rowsL l).length=(pairsL l.length).length:=by unfold rowsL;rw[List.length_map]
theorem rowsL_gt{l:List Int}{y:Int}(y0:0<=y)(y1:y<(pairsL l.length).length):gt (rowsL l) y=rowF l (gt (pairsL l.length) y):=by unfold rowsL;rw[gt_map (rowF l) _ y0 y1]
theorem longs_gt{rows:List (List Int)}{right:List Int}(h:right.length=rows.length){y:Int}(y0:0<=y)(y1:y<rows.length):gt (longs rows right) y=gt rows y++[gt right y]:=by
 unfold longs gt;rw[List.getD_eq_getElem?_getD,List.getElem?_zipWith,List.getD_eq_getElem?_getD,List.getD_eq_getElem?_getD,List.getElem?_eq_getElem (show y.toNat<rows.length by omega),List.getElem?_eq_getElem (show y.toNat<right.length by omega)];rfl
variable{F:Prims}{call head arith cmp scmp bnot bsame conv neg imax imin ofNat slen place inR nz geZ rd wr push next mkOK nat zeros sadd eqAgg cut slc sslc strAt part app cpy putAt fresh lowered bump wrote addN lt ne fpAll fpApp brk yn rng mget mput mnew bytes clr:_}(hA:AP F ⟨call,head,arith,cmp,scmp,bnot,bsame,conv,neg,imax,imin,ofNat,slen,place,inR,nz,geZ,rd,wr,push,next,mkOK,nat,zeros,sadd,eqAgg,cut,slc,sslc,strAt,part,app,cpy,putAt,fresh,lowered,bump,wrote,addN,lt,ne,fpAll,fpApp,brk,yn,rng,mget,mput,mnew,bytes,clr⟩)
include hA
set_option maxHeartbeats 1000000 in
theorem reduce_ok{h:AHeap}(hlow:h.low<=h.next){a:Option Addr}{N c:Nat}{l:List Int}(hl:Is h a N l)(ln:Line l){ar:Option Addr}{M cr:Nat}{right:List Int}(hr:Is h ar M right)(hM:M=(pairsL l.length).length)(ok:Okay l right)(w100:wid l<50){Q:Value->AHeap->Prop}
  (hQ:∀h' oa bs ba nb cb n,n=wid l->MatW iC 1 (n+1) h h' oa bs M (n+1) (SE l right).R->Is h' ba nb ((SE l right).bound.map Int.ofNat)->Ext h h'->Q (.agg #[.slice (some ⟨oa,0,none⟩) M (someCap 1 M),.int .i64 (n:Nat),.slice ba nb cb,.int .i64 (SE l right).lead]) h') :
  call 45 [.slice a N c,.slice ar M cr] h Q:=by
 have lN:=hl.len;have n5:=ln.n5;have n2:=ln.n2;have lM:=pairsL_len l.length n5;have hM1:0<M/\M<=10:=by
  rw[hM,lM];have:l.length=2\/l.length=3\/l.length=4\/l.length=5:=by omega
  rcases this with e|e|e|e<;>rw[e]<;>decide
 obtain⟨h1,w1,o1,r1⟩:=(Own.push h 4 [.slice none 0 0,.int .i64 0,.slice none 0 0,.int .i64 0]).write (o:=0) (vs:=[.slice none 0 0,.int .i64 0,.slice none 0 0,.int .i64 1]) (Nat.le_refl _);have w1:wr (push h 4 [.slice none 0 0,.int .i64 0,.slice none 0 0,.int .i64 0]) (next h) 0 [.slice none 0 0,.int .i64 0,.slice none 0 0,.int .i64 1] h1:=by rw[e_push hA,e_next hA];exact wr_at hA w1
 have x1:Ext h h1:=r1.ext (.push h 4 _) (Nat.le_refl _);obtain⟨sb,hsb⟩:∃z,z=h.next:=⟨_,rfl⟩;have n1:h1.next=sb+1:=by rw[r1.next,hsb];rfl
 refine hA.bodyR Try.func45 r45_ok (hA.alike _ _ _ rfl) hlow (zc ?_);refine zq ?_;rw[e_next hA,<-hsb];refine rows_ok2 hA (x1.lowOK hlow) (hl.ext x1) ln (fun h2 ak k co hs g2 hk k10 x2 f2 f3=>⟨_,_,_,rfl,?_⟩);have y2:=x1.trans x2;refine zc ?_;rw[e_ofNat hA];rw[<-lN]at hk;obtain rfl:k=M:=by omega
 obtain⟨n,hn⟩:∃z,z=wid l:=⟨_,rfl⟩;have rlen:∀y:Int,0<=y->y<k->(gt (rowsL l) y).length=n:=fun y y0 y1=>by rw[rowsL_gt y0 (by omega),rowF_len,hn]
 have hx2:=x2.next;refine build_loop hA hlow hr (sb:=sb) g2 (fun ad e=>by have:=f2 ad e;omega) (fun y y0 y1 ad e=>by have:=f3 y y0 y1 ad e;omega) (w:=n) rlen (by omega) (by omega) rfl rfl (by omega) (fun h3 ao c3 bs3 a3 f4 w3 out ns na ls os=>?_) k 0 0 h2 none 0 [] (by omega) (by omega) rfl (Nat.le_refl _) (fun _ _ _=>rfl) (.none _) (by simpa[hds]using Apd.nil h2 1) (.none _) (by simpa using (GrW.nil h iC_len (by omega)).more y2) (fun ad e=>by cases e) (by simp) (fun ad e=>by cases e) (by omega) ?_
 rotate_left
 ·have o1':Own h1 sb 4 [.slice none 0 0,.int .i64 0,.slice none 0 0,.int .i64 1]:=by rw[hsb];exact o1
  rw[if_pos rfl];exact o1'.ext x2 (by omega)
 have ll:right.length=(rowsL l).length:=by rw[rowsL_len,hr.len];omega
 have lg:(longs (rowsL l) right).length=k:=by rw[longs_len ll,rowsL_len];omega
 rw[if_neg (by omega)]at os;obtain⟨oa,rfl⟩:∃b,ao=some ⟨b,0,none⟩:=by
  rcases a3 with ⟨_,w,_⟩|⟨b,e,_⟩
  ·omega
  ·exact⟨b,e⟩
 obtain rfl:c3=someCap 1 k:=by
  rcases a3 with ⟨w,_⟩|⟨b,_,e,_⟩
  ·cases w
  ·exact e
 have mat:=w3.mat (b:=oa) (w:=n+1) (by rw[lg];exact a3) (f4 _ rfl) (out _ rfl) (fun y y0 y1=>by
  rw[lg]at y1;rw[longs_gt ll y0 (by rw[rowsL_len];omega),List.length_append,rlen y y0 y1];rfl)
 rw[lg]at mat;obtain⟨h4,w4,o4,r4⟩:=(Own.push h3 1 [.int .i64 0]).write (o:=0) (vs:=[.int .i64 0]) (Nat.le_refl _);have w4:wr (push h3 1 [.int .i64 0]) (next h3) 0 [.int .i64 0] h4:=by rw[e_push hA,e_next hA];exact wr_at hA w4
 have x4:Ext h3 h4:=r4.ext (.push h3 1 [.int .i64 0]) (Nat.le_refl _);have n4:h4.next=h3.next+1:=by rw[r4.next];rfl
 have hx3:=w3.ext.next;have lto:=mat.lto;have el:El h h4 sb oa (n+1) k n (someCap 1 k) (fun y=>bs3.getD y 0) none 0 0 h3.next (run k (S0 l right) 0) 0:=
  ⟨mat.more x4,.nil _ _,.none _,rfl,os.ext x4 ls,by omega,by omega,fun y hy q=>ns (by rw[q];exact bs_mem (by rw[w3.len,lg];exact hy)),fun q=>na _ rfl q.symm,fun ad e=>(by cases e),o4,by omega,by omega,by omega,by omega,fun y hy=>by have:=mat.ltr y hy;omega,fun ad e=>(by cases e)⟩
 refine zq ?_;rw[e_next hA];refine elim_loop hA hlow (n:=n) (by omega) (by omega) (by omega) (S0:=S0 l right) (fun c hc=>?_) (fun h5 bs5 ba nb cb qb c5 e5=>?_) n 0 0 h4 _ _ _ _ _ (by omega) (by omega) rfl el
 ·have:=ok c (by omega)
  rw[<-hk]at this;rw[hn];exact⟨this.1,this.2.2.1,this.2.2.2⟩
 have v5:rd h5 sb 0 4 [.slice (some ⟨oa,0,none⟩) k (someCap 1 k),.int .i64 n,.slice ba nb cb,.int .i64 (run k (S0 l right) n).lead]:=rd_at hA (Own.readG e5.red (o:=0) (n:=4) (Nat.le_of_ble_eq_true rfl));have hQ':=hQ h5 oa bs5 ba nb cb n hn;have eS:run k (S0 l right) n=SE l right:=by unfold SE;rw[hn,<-hM]
 rw[eS]at v5 e5;have rb:=e5.bnd.cells;have hQ':=hQ' e5.mat (by
  have e:nb=((SE l right).bound.map Int.ofNat).length:=by rw[List.length_map];exact e5.nbl
  refine⟨?_,iC_len,by omega⟩;exact rb) e5.mat.ext
 generalize someCap 1 k=ck at *;generalize (SE l right).lead=L at *;refine zq ?_;refine⟨_,_,_,_,_,_,_,_,v5,?_⟩;refine zq ?_;exact hQ'
end Go.Proofs.Ytogliemiljhliaa
namespace Go.Proofs.Ytogliemiljhliaa
open Go.Sim
set_option maxRecDepth 100000
structure Fc where
 n:Int
 d:Int
 deriving Inhabited,DecidableEq
def fC(x:Fc):List Value:=[.int .i64 x.n,.int .i64 x.d]
theorem fC_len(x:Fc):(fC x).length=2:=rfl
theorem fC_ok(x:Fc):(fC x).all cellOK=true:=rfl
theorem TF:SliceT Try.prog 50 52 2:=⟨by kernel_rfl,by kernel_rfl,⟨16,by kernel_rfl,by omega⟩,⟨.agg #[.int .i64 0,.int .i64 0],by kernel_rfl,rfl⟩⟩
theorem TFF:SliceT Try.prog 33 50 1:=⟨by kernel_rfl,by kernel_rfl,⟨24,by kernel_rfl,by omega⟩,⟨.slice none 0 0,by kernel_rfl,rfl⟩⟩
def fr(a b:Int):Fc:=⟨(rq a b).num,(rq a b).den⟩
theorem rq_div(a b:Int):rq a b=Rat.divInt a b:=by unfold rq;rw[Rat.divInt_eq_div]
theorem fits_rq{a b:Int}(ha:a.natAbs<=1000000000000000000)(hb:b.natAbs<=1000000000000000000)(h0:b≠0):fits (rq a b):=by
 unfold fits;rw[rq_div,Rat.num_divInt,Rat.den_divInt,if_neg h0];have h1:(b.sign*a / (Int.gcd b a:Int)).natAbs<=a.natAbs:=by
  refine Nat.le_trans (Int.natAbs_ediv_le_natAbs _ _) ?_;rw[Int.natAbs_mul];have:b.sign.natAbs<=1:=by
   rcases Int.lt_trichotomy b 0 with q|q|q
   ·rw[Int.sign_eq_neg_one_of_neg q];decide
   ·omega
   ·rw[Int.sign_eq_one_of_pos q];decide
  calc b.sign.natAbs*a.natAbs<=1*a.natAbs:=Nat.mul_le_mul_right _ this
   _=a.natAbs:=Nat.one_mul _
 have h2:b.natAbs / Int.gcd b a<=b.natAbs:=Nat.div_le_self _ _;omega
theorem fr_is{a b:Int}(ha:a.natAbs<=1000000000000000000)(hb:b.natAbs<=1000000000000000000)(h0:b≠0):isF (fr a b).n (fr a b).d (rq a b):=⟨rfl,rfl,fits_rq ha hb h0⟩
theorem fr_zero(b:Int):fr 0 b=⟨0,1⟩:=by
 have:rq 0 b=0:=by unfold rq;rw[Rat.intCast_zero,Rat.div_def,Rat.zero_mul]
 unfold fr;rw[this];rfl
theorem fr_int(a:Int):fr a 1=⟨a,1⟩:=by
 have:rq a 1=(a:Rat):=by unfold rq;rw[Rat.intCast_one];grind
 unfold fr;rw[this,Rat.num_intCast,Rat.den_intCast];rfl
theorem rq_ne{a b:Int}(h0:b≠0):rq a b=0↔a=0:=by
 have hb:(b:Rat)≠0:=fun q=>h0 (Rat.intCast_eq_zero_iff.1 q)
 constructor
 ·intro h
  have:(a:Rat)=0:=by
   have e:(a:Rat)=rq a b*(b:Rat):=by unfold rq;rw[Rat.div_mul_cancel hb]
   rw[e,h,Rat.zero_mul]
  exact Rat.intCast_eq_zero_iff.1 this
 ·rintro rfl
  unfold rq;rw[Rat.intCast_zero,Rat.div_def,Rat.zero_mul]
theorem fr_num{a b:Int}(h0:b≠0):(fr a b).n=0↔a=0:=by
 unfold fr;rw[Rat.num_eq_zero];exact rq_ne h0
structure Vec{α:Type}[Inhabited α](enc:α->List Value)(es:Nat)(h0 h:AHeap)(b n:Nat)(f:Nat->α):Prop where
 ext:Ext h0 h
 own:Own h b es ((lst f n).flatMap enc)
 old:h0.next<=b
 lt:b<h.next
 each:∀x,(enc x).length=es
 pos:0<es
section
variable{α:Type}[Inhabited α]{enc:α->List Value}{es:Nat}{h0 h:AHeap}{b n:Nat}{f:Nat->α}
theorem Vec.more{h':AHeap}(t:Vec enc es h0 h b n f)(e:Ext h h'):Vec enc es h0 h' b n f:=⟨t.ext.trans e,t.own.ext e t.lt,t.old,Nat.lt_of_lt_of_le t.lt e.next,t.each,t.pos⟩
theorem Vec.congr{g:Nat->α}(t:Vec enc es h0 h b n f)(e:∀i,i<n->f i=g i):Vec enc es h0 h b n g:=⟨t.ext,by rw[<-lst_congr e];exact t.own,t.old,t.lt,t.each,t.pos⟩
theorem Vec.rows(t:Vec enc es h0 h b n f):Rows enc es h (some ⟨b,0,none⟩) n (lst f n):=by
 have r:=Own.rows t.own t.each t.pos t.lt;rw[lst_len]at r;exact r
theorem Vec.set(t:Vec enc es h0 h b n f){i:Nat}(hi:i<n)(v:α):∃h',h.write b (0+i*es) (enc v)=some h'/\Vec enc es h0 h' b n (fun j=>if j=i then v else f j)/\Wrote h h' b:=by
 obtain⟨h',w1,w2,w3⟩:=Own.setRow t.own t.each (i:=i) (by rw[lst_len];exact hi) v;rw[lst_set]at w2;exact⟨h',by rw[Nat.zero_add];exact w1,⟨w3.ext t.ext t.old,w2,t.old,by rw[w3.next];exact t.lt,t.each,t.pos⟩,w3⟩
end
theorem copies_lst{α:Type}{enc:α->List Value}(v:α)(n:Nat):copies (enc v) n=(lst (fun _=>v) n).flatMap enc:=by
 have:lst (fun _=>v) n=List.replicate n v:=by unfold lst;exact List.map_const' ..|>.trans (by rw[List.length_range])
 rw[this]
 induction n with
 |zero=>rfl
 |succ n ih=>unfold copies;rw[ih (by unfold lst;exact List.map_const' ..|>.trans (by rw[List.length_range])),List.replicate_succ,List.flatMap_cons]
end Go.Proofs.Ytogliemiljhliaa
namespace Go.Proofs.Ytogliemiljhliaa
open Go.Sim
set_option maxRecDepth 100000
def oneTo(i:Nat)(j:Nat):Fc:=if j<i then⟨0,1⟩else⟨0,0⟩
def fillR(R:Nat->Nat->Int)(bound:List Nat)(lead:Int)(col:Nat)(by_:Int):Nat->Nat->Fc
 |0,_=>⟨0,1⟩
 |k+1,x=>if x=bound.getD k 0 then fr (by_*R k col) lead else fillR R bound lead col by_ k x
variable{F:Prims}{call head arith cmp scmp bnot bsame conv neg imax imin ofNat slen place inR nz geZ rd wr push next mkOK nat zeros sadd eqAgg cut slc sslc strAt part app cpy putAt fresh lowered bump wrote addN lt ne fpAll fpApp brk yn rng mget mput mnew bytes clr:_}(hA:AP F ⟨call,head,arith,cmp,scmp,bnot,bsame,conv,neg,imax,imin,ofNat,slen,place,inR,nz,geZ,rd,wr,push,next,mkOK,nat,zeros,sadd,eqAgg,cut,slc,sslc,strAt,part,app,cpy,putAt,fresh,lowered,bump,wrote,addN,lt,ne,fpAll,fpApp,brk,yn,rng,mget,mput,mnew,bytes,clr⟩)
include hA
theorem zeros_loop{h0:AHeap}{b n:Nat}{N:Int}(eN:N=n)(n100:n<=100){Q:Exit->SS->Prop}
  (hQ:∀h',Vec fC 2 h0 h' b n (fun _=>⟨0,1⟩)->Q (.exit 0) ⟨[(3,.slice (some ⟨b,0,none⟩) n n)],0,[],h'⟩) :
  ∀(d i:Nat) (I:Int) (h:AHeap),n-i=d->i<=n->I=i->Vec fC 2 h0 h b n (oneTo i)->
   head 73 3 0 ⟨[(3,.slice (some ⟨b,0,none⟩) n n),(8,.int .i64 N),(9,.int .i64 I)],0,[],h⟩ Q:=by
 intro d
 induction d with
 |zero=>
  intro i I h hd hi eI t;refine hA.roundR Try.func73 r73_ok (zc ?_);refine br (I<N) (by rw[e_lss hA]) (fun q=>by omega) (fun _=>?_)<;>refine zc ?_;exact hQ h (t.congr (fun j hj=>by unfold oneTo;rw[if_pos (by omega)]))
 |succ d ih=>
 intro i I h hd hi eI t;obtain⟨h1,w1,t1,r1⟩:=t.set (i:=i) (by omega) (⟨0,1⟩:Fc);have w1:wr h b (place 0 I 2) [.int .i64 0,.int .i64 1] h1:=wr_ok hA (by rw[eI];exact w1);refine hA.roundR Try.func73 r73_ok (zc ?_);refine br (I<N) (by rw[e_lss hA]) (fun _=>?_) (fun q=>by omega)<;>refine zc ?_;refine zq ?_;rw[add64 hA (by omega) (by omega)];exact ih (i+1) (I+1) h1 (by omega) (by omega) (by omega) (t1.congr (fun j hj=>by
  unfold oneTo;by_cases c:j=i
  ·rw[if_pos c,if_pos (by omega)]
  ·rw[if_neg c]
   by_cases c2:j<i
   ·rw[if_pos c2,if_pos (by omega)]
   ·rw[if_neg c2,if_neg (by omega)]))
theorem zeros_ok{h:AHeap}(hlow:h.low<=h.next){n:Nat}{N:Int}(eN:N=n)(n100:n<=100){Q:Value->AHeap->Prop}
  (hQ:∀h' b,Vec fC 2 h h' b n (fun _=>⟨0,1⟩)->Q (.slice (some ⟨b,0,none⟩) n n) h'):call 73 [.int .i64 N] h Q:=by
 refine hA.bodyR Try.func73 r73_ok (hA.alike _ _ _ rfl) hlow (zc ?_);refine⟨mk_ok hA (by omega) (Int.le_refl _) (by omega),?_⟩;refine zc ?_;rw[e_zeros hA,e_next hA,e_push hA,e_nat hA,show N.toNat=n by omega];rw[show copies [Value.int .i64 0,.int .i64 0] n=(lst (fun _=>(⟨0,0⟩:Fc)) n).flatMap fC from copies_lst (enc:=fC) ⟨0,0⟩ n];rw[e_ofNat hA];refine zeros_loop hA (h0:=h) rfl n100 (fun h' t=>?_) n 0 0 _ (by omega) (by omega) rfl ⟨.push h 2 _,Own.push h 2 _,Nat.le_refl _,Nat.lt_succ_self _,fC_len,by omega⟩;refine zc ?_;exact hQ h' _ t
theorem fill_loop{h0:AHeap}(hlow:h0.low<=h0.next){sb oa cp m w cm k col b n:Nat}{bs:Nat->Nat}{ba:Option Addr}{cb:Nat}{R:Nat->Nat->Int}{bound:List Nat}{lead:Int}{hs:AHeap}(hsx:Ext hs h0)(M0:MatW iC 1 cp hs h0 oa bs m w R)(hR:Red h0 sb oa m cm n ba k cb lead)(hsb:sb<h0.next)(hba:Is h0 ba k (bound.map Int.ofNat))(hk:k<=m)(hcol:col<w)(hn:n<=100)(hm:m<=100)(hw:w<=100)
  (hbn:∀x,x∈bound->x<n) (hl:lead≠0) (hl2:lead.natAbs<=1000000000) (hRb:∀i,i<m->(R i col).natAbs<=1000000000) {C BY Kk:Int} (eC:C=col) (eK:Kk=k) (hby:BY=1\/BY=-1) {Q:Exit->SS->Prop}
  (hQ:∀h',Vec fC 2 h0 h' b n (fillR R bound lead col BY k)->Q (.exit 0) ⟨[(7,.slice (some ⟨b,0,none⟩) n n)],0,[],h'⟩) :
  ∀(d i:Nat) (I:Int) (h:AHeap),k-i=d->i<=k->I=i->Vec fC 2 h0 h b n (fillR R bound lead col BY i)->
   head 46 3 0 ⟨[(0,.pointer (some ⟨sb,0,none⟩)),(1,.int .i64 C),(2,.int .i64 BY),(7,.slice (some ⟨b,0,none⟩) n n),(20,.slice ba k cb),(21,.int .i64 Kk),(22,.int .i64 I)],0,[],h⟩ Q:=by
 have lb:=hba.len;rw[List.length_map]at lb;intro d
 induction d with
 |zero=>
  intro i I h hd hi eI t;obtain rfl:i=k:=by omega
  refine hA.roundR Try.func46 r46_ok (zc ?_);refine br (I<Kk) (by rw[e_lss hA]) (fun q=>by omega) (fun _=>?_)<;>refine zc ?_;exact hQ h t
 |succ d ih=>
 intro i I h hd hi eI t;obtain⟨pb,po,x,ea,_,hx,q1⟩:=is_at (hba.ext t.ext) (i:=I) (by omega) (by omega);subst ea;have q1:=rd_ok hA q1;have ex:x=(bound.getD i 0:Nat):=by
  rw[<-hx,eI];unfold gt;rw[List.getD_eq_getElem?_getD,show((i:Int)).toNat=i from rfl,List.getElem?_map,List.getD_eq_getElem?_getD,List.getElem?_eq_getElem (show i<bound.length by omega)];rfl
 have xn:bound.getD i 0<n:=by
  rw[List.getD_eq_getElem?_getD,List.getElem?_eq_getElem (show i<bound.length by omega)];exact hbn _ (List.getElem_mem _)
 obtain⟨h9,hh9⟩:∃z,z=bump h 23:=⟨_,rfl⟩;have x9:Ext h h9:=by rw[hh9];exact ext_bump hA _ _
 have e9:=t.ext.trans x9;have l9:=e9.lowOK hlow;have t9:=t.more x9;have M9:=M0.more e9;have red9:=Own.ext hR e9 hsb;obtain⟨v,hv⟩:∃z,z=R i col:=⟨_,rfl⟩;have r1:rd h9 sb (addN 0 0) 1 [.slice (some ⟨oa,0,none⟩) m cm]:=by rw[e_addN hA];exact rd_at hA (Own.readG red9 (o:=0) (n:=1) (Nat.le_of_ble_eq_true rfl))
 have r2:rd h9 sb (addN 0 3) 1 [.int .i64 lead]:=by rw[e_addN hA];exact rd_at hA (Own.readG red9 (o:=3) (n:=1) (Nat.le_of_ble_eq_true rfl))
 have r3:rd h9 oa (place 0 I 1) 1 [.slice (some ⟨bs i,0,none⟩) w cp]:=rd_ok hA (by rw[eI];exact M9.head (by omega));have r4:rd h9 (bs i) (place 0 C 1) 1 [.int .i64 v]:=rd_ok hA (by rw[eC,hv];exact M9.el (by omega) hcol);have bv:=hRb i (by omega);rw[<-hv]at bv;obtain⟨u,hu⟩:∃z,z=BY*v:=⟨_,rfl⟩;have bu:u.natAbs<=1000000000:=by rcases hby with e|e<;>rw[hu,e]<;>omega
 have m1:arith .mul .i64 BY v=u:=by rw[hu];rw[hu]at bu;exact mul64 hA (by omega) (by omega)
 refine hA.roundR Try.func46 r46_ok (zc ?_);refine br (I<Kk) (by rw[e_lss hA]) (fun _=>?_) (fun q=>by omega)<;>refine zc ?_;refine zq ?_;rw[<-hh9]
 (refine zq ?_;repeat ((first|rw[m1]);refine zq ?_))
 refine make_ok hA (low_fresh hA h9) (by unfold i64;omega) (by unfold i64;omega) (fun n' d' e k2 hz ez=>⟨_,_,_,rfl,?_⟩);have hF:=fits_rq (a:=u) (b:=lead) (by omega) (by omega) hl;obtain⟨z1,z2⟩:(⟨n',d'⟩:Fc)=fr u lead/\e=0:=by
  rcases k2 with ⟨w,_⟩|⟨_,⟨_,k3,k4,k5⟩|⟨w,_⟩⟩
  ·exact absurd w hl
  ·exact⟨by unfold fr rq;rw[k3,k4],k5⟩
  ·exact absurd hF w
 subst z2;obtain⟨hX,hhX⟩:∃z,z=lowered h9 hz:=⟨_,rfl⟩;have eX:Ext h9 hX:=by rw[hhX];exact ext_low hA l9 (.refl h9) ez
 have tX:=t9.more eX;refine zc ?_;rw[<-hhX];obtain⟨h1,w1,t1,_⟩:=tX.set (i:=bound.getD i 0) xn (⟨n',d'⟩:Fc);have w1:wr hX b (place 0 x 2) [.int .i64 n',.int .i64 d'] h1:=wr_ok hA (by rw[ex];exact w1);refine zq ?_;refine br ((0:Int)=0) (by rw[e_eql hA]) (fun _=>?_) (fun q=>absurd rfl q)<;>refine zc ?_;refine zq ?_;rw[add64 hA (by omega) (by omega)];refine ih (i+1) (I+1) h1 (by omega) (by omega) (by omega) (t1.congr (fun j hj=>?_));show _=(if j=bound.getD i 0 then fr (BY*R i col) lead else fillR R bound lead col BY i j);rw[<-hv,<-hu,z1]
theorem fill_ok{h0:AHeap}(hlow:h0.low<=h0.next){sb oa cp m w cm k col n:Nat}{bs:Nat->Nat}{ba:Option Addr}{cb:Nat}{R:Nat->Nat->Int}{bound:List Nat}{lead:Int}{hs:AHeap}(M0:MatW iC 1 cp hs h0 oa bs m w R)(hR:Red h0 sb oa m cm n ba k cb lead)(hsb:sb<h0.next)(hba:Is h0 ba k (bound.map Int.ofNat))(hk:k<=m)(hcol:col<w)(hn:n<=100)(hm:m<=100)(hw:w<=100)
  (hbn:∀x,x∈bound->x<n) (hl:lead≠0) (hl2:lead.natAbs<=1000000000) (hRb:∀i,i<m->(R i col).natAbs<=1000000000) {C BY:Int} (eC:C=col) (hby:BY=1\/BY=-1) {Q:Value->AHeap->Prop}
  (hQ:∀h' b,Vec fC 2 h0 h' b n (fillR R bound lead col BY k)->Q (.slice (some ⟨b,0,none⟩) n n) h'):call 46 [.pointer (some ⟨sb,0,none⟩),.int .i64 C,.int .i64 BY] h0 Q:=by
 obtain⟨N,eN⟩:∃z:Int,z=n:=⟨_,rfl⟩;have r1:rd h0 sb (addN 0 1) 1 [.int .i64 N]:=by rw[e_addN hA,eN];exact rd_at hA (Own.readG hR (o:=1) (n:=1) (Nat.le_of_ble_eq_true rfl))
 refine hA.bodyR Try.func46 r46_ok (hA.alike _ _ _ rfl) hlow (zc ?_);refine zq ?_;refine zeros_ok hA hlow eN hn (fun h1 b t=>⟨_,_,_,rfl,?_⟩);have r2:rd h1 sb (addN 0 2) 1 [.slice ba k cb]:=by rw[e_addN hA];exact rd_at hA (Own.readG (Own.ext hR t.ext hsb) (o:=2) (n:=1) (Nat.le_of_ble_eq_true rfl))
 refine zq ?_;rw[e_ofNat hA];refine fill_loop hA hlow M0.ext M0 hR hsb hba hk hcol hn hm hw hbn hl hl2 hRb eC rfl hby (fun h' t'=>?_) k 0 0 h1 (by omega) (by omega) rfl t;refine zc ?_;exact hQ h' b t'
