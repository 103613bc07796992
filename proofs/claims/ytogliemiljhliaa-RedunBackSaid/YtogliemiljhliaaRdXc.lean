import Derived.Test.YtogliemiljhliaaRdEx
import Derived.Test.YtogliemiljhliaaRdSa
import Derived.Test.YtogliemiljhliaaFracAlive
import Derived.Test.YtogliemiljhliaaSymApp
set_option linter.unusedSimpArgs false
set_option linter.unusedVariables false
namespace Go.Proofs.Ytogliemiljhliaa
open Go.Sim Ext
set_option maxRecDepth 100000
theorem row_sum{l:List Int}(ln:Line l){p:P2}(hp:p∈pairsL l.length)(v:Nat->Int):sumN (fun j=>gt (rowF l p) (j:Int)*v j) (wid l)=v p.i.toNat-v p.j.toNat+v (l.length+ixI (clsL l) (diffOf l p)).toNat:=by
 obtain⟨h0,h1,h2⟩:=mem_pairs.1 hp;obtain⟨i0,i1,i2⟩:=ixI_mem (diff_mem ln hp);have hwid:wid l=l.length+(clsL l).length:=rfl;rw[sumN_congr (g:=fun j=>(v j*(if j=p.i.toNat then 1 else 0)+v j*(if j=p.j.toNat then -1 else 0))+v j*(if j=(l.length+ixI (clsL l) (diffOf l p)).toNat then 1 else 0)) (wid l) (fun j hj=>by
  rw[rowF_gt ln hp (by omega) (by omega)];generalize ixI (clsL l) (diffOf l p)=k at *;by_cases a:(j:Int)=l.length+k
  ·rw[if_pos a,if_neg (by omega),if_neg (by omega),if_pos (by omega)];omega
  ·rw[if_neg a]
   by_cases b:(j:Int)=p.j
   ·rw[if_pos b,if_neg (by omega),if_pos (by omega),if_neg (by omega)];omega
   ·rw[if_neg b]
    by_cases c:(j:Int)=p.i
    ·rw[if_pos c,if_pos (by omega),if_neg (by omega),if_neg (by omega)];omega
    ·rw[if_neg c,if_neg (by omega),if_neg (by omega),if_neg (by omega)];omega),
  sumN_add (fun j=>v j*(if j=p.i.toNat then 1 else 0)+v j*(if j=p.j.toNat then -1 else 0)) (fun j=>v j*(if j=(l.length+ixI (clsL l) (diffOf l p)).toNat then 1 else 0)),
  sumN_add (fun j=>v j*(if j=p.i.toNat then 1 else 0)) (fun j=>v j*(if j=p.j.toNat then -1 else 0)),sumN_pick v (by omega),sumN_pick v (by omega),sumN_pick v (by omega)]
 omega
def Deg(l:List Int)(v:Nat->Int):Prop:=∀p,p∈pairsL l.length->sumN (fun j=>gt (rowF l p) (j:Int)*v j) (wid l)=0
theorem line_end{l right:List Int}(hr:right.length=(pairsL l.length).length)(ln:Line l)(hb:∀i:Int,0<=i->i<right.length->(gt right i).natAbs<=99) :
  Ech (pairsL l.length).length (SE l right) (wid l)/\Fine (pairsL l.length).length (wid l) (SE l right)/\∀v,Deg l v↔Nul (wid l) (pairsL l.length).length (SE l right).R v:=by
 have hA:∀j,j<wid l->vn (pairsL l.length).length (colV l right j)<=4:=fun j hj=>col_few hr ln hj
 have g0:Good (pairsL l.length).length (wid l) (colV l right) 4 (S0 l right) E 1:=Good.start (by omega);obtain⟨W,s,g⟩:=g0.run hA (wid l) (Nat.le_refl _);refine⟨Ech.run rfl (show(1:Int)≠0 by decide) (wid l),(line_fine hr ln hb (wid l) (Nat.le_refl _)).1,fun v=>?_⟩;rw[show(SE l right).R=(run (pairsL l.length).length (S0 l right) (wid l)).R from rfl,<-g.nul];constructor
 ·intro h r hr'
  rw[<-h (gt (pairsL l.length) (r:Int)) (gt_mem _ (by omega) (by omega))];exact sumN_congr _ (fun j hj=>by show R0 l right r j*v j=_;rw[R0_row hr ln hr' hj])
 ·intro h p hp
  obtain⟨i,i0,i1,e⟩:=mem_gt hp;have:=h i.toNat (by omega);rw[<-this];refine sumN_congr _ (fun j hj=>?_);show _=R0 l right i.toNat j*v j;rw[R0_row hr ln (by omega) hj,show((i.toNat:Nat):Int)=i by omega,e]
end Go.Proofs.Ytogliemiljhliaa
namespace Go.Proofs.Ytogliemiljhliaa
open Go.Sim Ext
set_option maxRecDepth 100000
def sumB(b:Nat->Nat->Int)(x:Nat->Int)(B:List Nat)(i k:Nat):Int:=lsum (fun c=>x c*b c k) (B.take i)
theorem sumB_succ{b:Nat->Nat->Int}{x:Nat->Int}{B:List Nat}{i k:Nat}(h:i<B.length):sumB b x B (i+1) k=sumB b x B i k+x (B.getD i 0)*b (B.getD i 0) k:=by
 unfold sumB lsum;rw[List.take_succ_eq_append_getElem h,List.map_append,List.sum_append,List.getD_eq_getElem?_getD,List.getElem?_eq_getElem h];simp
variable{F:Prims}{call head arith cmp scmp bnot bsame conv neg imax imin ofNat slen place inR nz geZ rd wr push next mkOK nat zeros sadd eqAgg cut slc sslc strAt part app cpy putAt fresh lowered bump wrote addN lt ne fpAll fpApp brk yn rng mget mput mnew bytes clr:_}(hA:AP F ⟨call,head,arith,cmp,scmp,bnot,bsame,conv,neg,imax,imin,ofNat,slen,place,inR,nz,geZ,rd,wr,push,next,mkOK,nat,zeros,sadd,eqAgg,cut,slc,sslc,strAt,part,app,cpy,putAt,fresh,lowered,bump,wrote,addN,lt,ne,fpAll,fpApp,brk,yn,rng,mget,mput,mnew,bytes,clr⟩)
include hA
theorem of31_ok{h:AHeap}(hlow:h.low<=h.next){n d:Int}{Q:Value->AHeap->Prop}(hQ:Q (.agg #[.int .i64 n,.int .i64 d]) h):call 24 [.int .i64 n,.int .i64 d] h Q:=by
 refine hA.bodyR Try.func24 r24_ok (hA.alike _ _ _ rfl) hlow (zc ?_);exact hQ
theorem spz_loop{h0:AHeap}(hlow:h0.low<=h0.next){b n:Nat}(n100:n<=100){v0:Value}{ax:Option Addr}{cx kn:Nat}{T:List (Nat×List Value)}{Q:Exit->SS->Prop}
  (hQ:∀h',Vec fC 2 h0 h' b n (fun _=>⟨0,1⟩)->Q (.exit 0) ⟨[(0,v0),(1,.slice ax n cx),(5,.slice (some ⟨b,0,none⟩) n n)],kn,T,h'⟩) :
  ∀(d i:Nat) (I:Int) (h:AHeap),n-i=d->i<=n->I=i->Vec fC 2 h0 h b n (oneTo i)->
   head 26 3 kn ⟨[(0,v0),(1,.slice ax n cx),(5,.slice (some ⟨b,0,none⟩) n n),(6,.int .i64 I)],kn,T,h⟩ Q:=by
 intro d
 induction d with
 |zero=>
  intro i I h hd hi eI t;refine hA.roundR Try.func26 r26_ok (zc ?_);refine br (I<(n:Int)) (by rw[e_lss hA,e_ofNat hA]) (fun q=>by omega) (fun _=>?_)<;>refine zc ?_;exact hQ h (t.congr (fun j hj=>by unfold oneTo;rw[if_pos (by omega)]))
 |succ d ih=>
 intro i I h hd hi eI t;obtain⟨h1,w1,t1,r1⟩:=t.set (i:=i) (by omega) (⟨0,1⟩:Fc);have w1:wr h b (place 0 I 2) [.int .i64 0,.int .i64 1] h1:=wr_ok hA (by rw[eI];exact w1);refine hA.roundR Try.func26 r26_ok (zc ?_);refine br (I<(n:Int)) (by rw[e_lss hA,e_ofNat hA]) (fun _=>?_) (fun q=>by omega)<;>refine zc ?_;refine zq ?_;refine of31_ok hA (t.ext.lowOK hlow) ⟨_,_,rfl,?_⟩;refine zq ?_;rw[add64 hA (by omega) (by omega)];exact ih (i+1) (I+1) h1 (by omega) (by omega) (by omega) (t1.congr (fun j hj=>by
  unfold oneTo;by_cases c:j=i
  ·rw[if_pos c,if_pos (by omega)]
  ·rw[if_neg c]
   by_cases c2:j<i
   ·rw[if_pos c2,if_pos (by omega)]
   ·rw[if_neg c2,if_neg (by omega)]))
theorem spl_loop{h:AHeap}{ab:Option Addr}{K cb:Nat}{hs:List Hd}{g:List (List Fc)}(hg:GrR fC 2 h ab K hs g){i:Nat}{I:Int}(eI:I=i)(hi:i<K){n c:Nat}(n100:n<=100)(hc:c<n){f:Nat->Fc}(hf:gt g (i:Int)=lst f n)(hn0:(f c).n≠0)(hz:∀y,c<y->y<n->(f y).n=0){v1 v5:Value}{kn:Nat}{T:List (Nat×List Value)}{Q:Exit->SS->Prop}
  (hQ:∀C:Int,C=c->Q (.exit 4) ⟨[(0,.slice ab K cb),(1,v1),(5,v5),(7,.int .i64 I),(8,.int .i64 C)],kn,T,h⟩) :
  ∀(d y:Nat) (Y:Int),y-c=d->c<=y->y<n->Y=y->
   head 26 10 kn ⟨[(0,.slice ab K cb),(1,v1),(5,v5),(7,.int .i64 I),(8,.int .i64 Y)],kn,T,h⟩ Q:=by
 intro d
 induction d with
 |zero=>
  intro y Y hd hy hyn eY;obtain rfl:y=c:=by omega
  obtain⟨bb,bo,ea,lb⟩:=hg.some (by omega);subst ea;have r0:=gr_head hA hg (y:=I) (by omega) (by omega);have rr:=hg.row I (by omega) (by omega);obtain⟨xa,xn,xc,hx⟩:∃x y z,gt hs I=⟨x,y,z⟩:=⟨_,_,_,rfl⟩;rw[hx]at r0 rr;rw[eI,hf]at rr;have rr:Rows fC 2 h xa xn (lst f n):=rr;obtain rfl:xn=n:=by rw[<-rr.len,lst_len]
  obtain⟨pb,po,ea,lp,r3⟩:=rr.at (i:=Y) (by omega) (by omega);subst ea;obtain⟨un,ud,hu⟩:∃p q,f y=⟨p,q⟩:=⟨_,_,rfl⟩;have r3:=r3 0 1 (by omega) (by omega);rw[show gt (lst f xn) Y=⟨un,ud⟩ by rw[eY,lst_gt _ (by omega)];exact hu]at r3;have r3:rd h pb (addN (place po Y 2) 0) 1 [.int .i64 un]:=rd_fld hA r3;rw[hu]at hn0;refine hA.roundR Try.func26 r26_ok (zc ?_);refine br (0<=Y) (by rw[e_geq hA]) (fun _=>?_) (fun q=>by omega)<;>refine zc ?_;refine zq ?_;refine br (un=0) (by rw[e_eql hA]) (fun q=>absurd q hn0) (fun _=>?_)<;>refine zc ?_;exact hQ Y eY
 |succ d ih=>
  intro y Y hd hy hyn eY;obtain⟨bb,bo,ea,lb⟩:=hg.some (by omega);subst ea;have r0:=gr_head hA hg (y:=I) (by omega) (by omega);have rr:=hg.row I (by omega) (by omega);obtain⟨xa,xn,xc,hx⟩:∃x y z,gt hs I=⟨x,y,z⟩:=⟨_,_,_,rfl⟩;rw[hx]at r0 rr;rw[eI,hf]at rr;have rr:Rows fC 2 h xa xn (lst f n):=rr;obtain rfl:xn=n:=by rw[<-rr.len,lst_len]
  obtain⟨pb,po,ea,lp,r3⟩:=rr.at (i:=Y) (by omega) (by omega);subst ea;obtain⟨un,ud,hu⟩:∃p q,f y=⟨p,q⟩:=⟨_,_,rfl⟩;have r3:=r3 0 1 (by omega) (by omega);rw[show gt (lst f xn) Y=⟨un,ud⟩ by rw[eY,lst_gt _ (by omega)];exact hu]at r3;have r3:rd h pb (addN (place po Y 2) 0) 1 [.int .i64 un]:=rd_fld hA r3;have z:=hz y (by omega) (by omega);rw[hu]at z;refine hA.roundR Try.func26 r26_ok (zc ?_);refine br (0<=Y) (by rw[e_geq hA]) (fun _=>?_) (fun q=>by omega)<;>refine zc ?_;refine zq ?_;refine br (un=0) (by rw[e_eql hA]) (fun _=>?_) (fun q=>absurd z q)<;>refine zc ?_;refine zq ?_;rw[sub64 hA (by omega) (by omega)];exact ih (y-1) (Y-1) (by omega) (by omega) (by omega) (by omega)
end Go.Proofs.Ytogliemiljhliaa
namespace Go.Proofs.Ytogliemiljhliaa
open Go.Sim
set_option maxRecDepth 100000
theorem wid_few{l:List Int}(ln:Line l):wid l<50:=by
 have h5:=ln.n5;have h:(clsL l).length<=(upN 32).length:=by unfold clsL;exact List.length_filter_le _ _
 have:(upN 32).length=32:=by decide
 unfold wid;omega
def ifOk{α:Type}(e:Int)(L:List α):List α:=if e=0 then L else []
theorem GrR.nil{α:Type}[Inhabited α]{enc:α->List Value}{es:Nat}(h:AHeap)(he:∀x,(enc x).length=es)(hp:0<es):GrR enc es h none 0 [] []:=⟨Rows.nil h hd_len (by omega),rfl,fun y y0 y1=>by omega⟩
variable{F:Prims}{call head arith cmp scmp bnot bsame conv neg imax imin ofNat slen place inR nz geZ rd wr push next mkOK nat zeros sadd eqAgg cut slc sslc strAt part app cpy putAt fresh lowered bump wrote addN lt ne fpAll fpApp brk yn rng mget mput mnew bytes clr:_}(hA:AP F ⟨call,head,arith,cmp,scmp,bnot,bsame,conv,neg,imax,imin,ofNat,slen,place,inR,nz,geZ,rd,wr,push,next,mkOK,nat,zeros,sadd,eqAgg,cut,slc,sslc,strAt,part,app,cpy,putAt,fresh,lowered,bump,wrote,addN,lt,ne,fpAll,fpApp,brk,yn,rng,mget,mput,mnew,bytes,clr⟩)
include hA
theorem gcls_ok{h:AHeap}(hlow:h.low<=h.next){a:Option Addr}{N c:Nat}{l:List Int}(hl:Is h a N l){Q:Value->AHeap->Prop}
  (hQ:∀e h' ao k co,CheckL l e->Is h' ao k (ifOk e (clsL l))->k<=100->Ext h h'->Q (.tuple #[.slice ao k co,.int .i64 e]) h'):call 10 [.slice a N c] h Q:=by
 have lN:=hl.len;refine hA.bodyR Try.func10 r10_ok (hA.alike _ _ _ rfl) hlow (zc ?_);refine chk_ok hA hlow hl (fun e h1 k1 x1=>⟨_,rfl,?_⟩);refine zc ?_;refine br (e≠0) (by rw[e_neq hA]) (fun c1=>?_) (fun c1=>?_)<;>refine zc ?_
 ·exact hQ e h1 none 0 0 k1 (by unfold ifOk;rw[if_neg c1];exact Rows.nil _ iC_len (by omega)) (by omega) x1
 have e0:e=0:=Decidable.of_not_not c1;have ln:=k1.zero e0;refine cls_ok hA (x1.lowOK hlow) (hl.ext x1) ln (fun h2 cb C co1 rc c1 c10 hb x2=>⟨_,_,_,rfl,?_⟩);refine zc ?_;exact hQ 0 h2 _ _ _ (e0 ▸ k1) rc (by omega) (x1.trans x2)
theorem gbas_ok{h:AHeap}(hlow:h.low<=h.next){a:Option Addr}{N c:Nat}{l:List Int}(hl:Is h a N l){Q:Value->AHeap->Prop}
  (hQ:∀e h' ao k co hs,CheckL l e->GrR fC 2 h' ao k hs (ifOk e (basL l))->k<=100->Ext h h'->Q (.tuple #[.slice ao k co,.int .i64 e]) h'):call 14 [.slice a N c] h Q:=by
 have lN:=hl.len;refine hA.bodyR Try.func14 r14_ok (hA.alike _ _ _ rfl) hlow (zc ?_);refine chk_ok hA hlow hl (fun e h1 k1 x1=>⟨_,rfl,?_⟩);refine zc ?_;refine br (e≠0) (by rw[e_neq hA]) (fun c1=>?_) (fun c1=>?_)<;>refine zc ?_
 ·exact hQ e h1 none 0 0 [] k1 (by unfold ifOk;rw[if_neg c1];exact GrR.nil _ fC_len (by omega)) (by omega) x1
 have e0:e=0:=Decidable.of_not_not c1;have ln:=k1.zero e0;refine basis_ok hA (x1.lowOK hlow) (hl.ext x1) ln (line_okay (zrow_len _) ln (zrow_small _)) (wid_few ln) (fun h2 ao k co hs g2 hk x2=>⟨_,_,_,rfl,?_⟩);refine zc ?_;exact hQ 0 h2 _ _ _ _ (e0 ▸ k1) g2 (by have:=basTo_len (SE l (zrow (pairsL l.length).length)) (wid l) (wid l);have:=wid_few ln;have e9:(basL l).length=(basTo (SE l (zrow (pairsL l.length).length)) (wid l) (wid l)).length:=rfl;omega) (x1.trans x2)
end Go.Proofs.Ytogliemiljhliaa
namespace Go.Proofs.Ytogliemiljhliaa
open Go.Sim Ext
set_option maxRecDepth 100000
def SZ(l:List Int):St:=SE l (zrow (pairsL l.length).length)
theorem bas_eq{l:List Int}(e:Ech (pairsL l.length).length (SZ l) (wid l)):basL l=(freeL (SZ l) (wid l)).map (fun c=>lst (fun y=>fr (bV (SZ l) c y) (SZ l).lead) (wid l)):=by
 unfold basL;rw[bas_free];exact List.map_congr_left (fun c hc=>bvec_bV e (mem_free.1 hc).2)
variable{F:Prims}{call head arith cmp scmp bnot bsame conv neg imax imin ofNat slen place inR nz geZ rd wr push next mkOK nat zeros sadd eqAgg cut slc sslc strAt part app cpy putAt fresh lowered bump wrote addN lt ne fpAll fpApp brk yn rng mget mput mnew bytes clr:_}(hA:AP F ⟨call,head,arith,cmp,scmp,bnot,bsame,conv,neg,imax,imin,ofNat,slen,place,inR,nz,geZ,rd,wr,push,next,mkOK,nat,zeros,sadd,eqAgg,cut,slc,sslc,strAt,part,app,cpy,putAt,fresh,lowered,bump,wrote,addN,lt,ne,fpAll,fpApp,brk,yn,rng,mget,mput,mnew,bytes,clr⟩)
include hA
