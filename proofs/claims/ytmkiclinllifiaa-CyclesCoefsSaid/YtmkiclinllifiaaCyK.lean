import Derived.Test.YtmkiclinllifiaaQuO
import Derived.Test.YtmkiclinllifiaaSortH
import Derived.Test.YtmkiclinllifiaaSymFacts
import Derived.Test.YtmkiclinllifiaaCyJ
import Derived.Test.YtmkiclinllifiaaCyU
import Derived.Test.YtmkiclinllifiaaSymSlc
set_option linter.unusedSimpArgs false
set_option linter.unusedVariables false
namespace Go.Proofs.Ytmkiclinllifiaa
open Go.Sim
set_option maxRecDepth 100000
def hdr(es n b:Nat):Value:=.slice (some ⟨b,0,none⟩) n (someCap es n)
variable{F:Prims}{call head arith cmp scmp bnot bsame conv neg imax imin ofNat slen place inR nz geZ rd wr push next mkOK nat zeros sadd eqAgg cut slc sslc strAt part app cpy putAt fresh lowered bump wrote addN lt ne fpAll fpApp brk yn rng mget mput mnew bytes clr mrng ment:_}(hA:AP F ⟨call,head,arith,cmp,scmp,bnot,bsame,conv,neg,imax,imin,ofNat,slen,place,inR,nz,geZ,rd,wr,push,next,mkOK,nat,zeros,sadd,eqAgg,cut,slc,sslc,strAt,part,app,cpy,putAt,fresh,lowered,bump,wrote,addN,lt,ne,fpAll,fpApp,brk,yn,rng,mget,mput,mnew,bytes,clr,mrng,ment⟩)
include hA
theorem appK_ok{t e es:Nat}(hT:SliceT Try.prog t e es){α:Type}{enc:α->List Value}(he:∀x,(enc x).length=es)(hp0:0<es)(hok:∀x,(enc x).all cellOK=true){h:AHeap}{a:Option Addr}{n c:Nat}{l:List α}{v:α}(hp:Apd h es a n c (l.flatMap enc))(hn:n<=100000){C:Option Addr->Nat->Nat->AHeap->Prop}
  (hC:∀b' h',Apd h' es (some ⟨b',0,none⟩) (n+1) (someCap es (n+1)) ((l++[v]).flatMap enc)->(∀h0,Ext h0 h->From h0.next a->Ext h0 h')->h.next<h'.next->h.next<b'->(∀i,i<h.next->(∀ad,a=some ad->ad.block≠i)->h'.m.get i=h.m.get i)->C (some ⟨b',0,none⟩) (n+1) (someCap es (n+1)) h') :
  app [t,t] [.slice a n c,.slice (some ⟨next h,0,none⟩) 1 1] (push h es (enc v)) C:=by
 rw[e_app hA,e_push hA,e_next hA];have hs:Cells (h.push es (enc v)) (some ⟨h.next,0,none⟩) 1 es (enc v):=⟨rfl,by simp[AHeap.push],by rw[(Own.push h es _).readG (by rw[he];omega),List.drop_zero,List.take_of_length_le (by rw[he];omega)]⟩;obtain⟨a',c',h',h1,h2,h3,h4,h5,h6⟩:=append_keep hT hT.und (c2:=1) (hp.ext (.push h es (enc v))) hs (all_flat hok l) (hok v) (by omega) (by omega);rcases h2 with ⟨_,w,_⟩|⟨b',rfl,rfl,w1,w2,w3⟩
 ·omega
 have nx:(h.push es (enc v)).next=h.next+1:=rfl;refine⟨_,n+1,_,h',h1,hC b' h' (.inr ⟨b',rfl,rfl,w1,by rw[flatE_len he];simp only[List.length_append,List.length_cons,List.length_nil];have:=hp.cells.length;rw[flatE_len he]at this;rw[Nat.eq_of_mul_eq_mul_right hp0 this],?_⟩) (fun h0 e0 f0=>(h3 h0 (e0.trans (.push _ _ _)) f0).1) (by omega) (by have:=h5 _ rfl;simp only at this;omega) (fun i hi ha=>?_)⟩
 ·simpa using w3
 ·rw[h6 i (by omega) ha]
  exact(Ext.push h es (enc v)).get i hi
end Go.Proofs.Ytmkiclinllifiaa
namespace Go.Proofs.Ytmkiclinllifiaa
open Go.Sim
set_option maxRecDepth 100000
structure Hd where
 a:Option Addr
 n:Nat
 c:Nat
 deriving Inhabited
def Hd.cells(k:Hd):List Value:=[.slice k.a k.n k.c]
theorem hd_len(k:Hd):k.cells.length=1:=rfl
theorem hd_ok(k:Hd):k.cells.all cellOK=true:=rfl
structure GrR{α:Type}[Inhabited α](enc:α->List Value)(es:Nat)(h:AHeap)(a:Option Addr)(N:Nat)(hs:List Hd)(g:List (List α)):Prop where
 hd:Rows Hd.cells 1 h a N hs
 len:g.length=N
 row:∀y:Int,0<=y->y<N->Rows enc es h (gt hs y).a (gt hs y).n (gt g y)
theorem GrR.ext{α:Type}[Inhabited α]{enc:α->List Value}{es:Nat}{h h':AHeap}{a:Option Addr}{N:Nat}{hs:List Hd}{g:List (List α)}(t:GrR enc es h a N hs g)(e:Ext h h'):GrR enc es h' a N hs g:=⟨t.hd.ext e,t.len,fun y y0 y1=>(t.row y y0 y1).ext e⟩
theorem GrR.some{α:Type}[Inhabited α]{enc:α->List Value}{es:Nat}{h:AHeap}{a:Option Addr}{N:Nat}{hs:List Hd}{g:List (List α)}(t:GrR enc es h a N hs g)(hN:0<N):∃b o,a=Option.some ⟨b,o,none⟩/\b<h.next:=by
 obtain⟨b,o,e,l,_⟩:=t.hd.at (i:=0) (by omega) (by omega);exact⟨b,o,e,l⟩
variable{F:Prims}{call head arith cmp scmp bnot bsame conv neg imax imin ofNat slen place inR nz geZ rd wr push next mkOK nat zeros sadd eqAgg cut slc sslc strAt part app cpy putAt fresh lowered bump wrote addN lt ne fpAll fpApp brk yn rng mget mput mnew bytes clr mrng ment:_}(hA:AP F ⟨call,head,arith,cmp,scmp,bnot,bsame,conv,neg,imax,imin,ofNat,slen,place,inR,nz,geZ,rd,wr,push,next,mkOK,nat,zeros,sadd,eqAgg,cut,slc,sslc,strAt,part,app,cpy,putAt,fresh,lowered,bump,wrote,addN,lt,ne,fpAll,fpApp,brk,yn,rng,mget,mput,mnew,bytes,clr,mrng,ment⟩)
include hA
theorem gr_head{α:Type}[Inhabited α]{enc:α->List Value}{es:Nat}{h:AHeap}{b o N:Nat}{hs:List Hd}{g:List (List α)}(t:GrR enc es h (some ⟨b,o,none⟩) N hs g){y:Int}(y0:0<=y)(y1:y<N):rd h b (place o y 1) 1 [.slice (gt hs y).a (gt hs y).n (gt hs y).c]:=by
 obtain⟨b',o',e,_,w⟩:=t.hd.at y0 y1;cases e;exact rd_ok hA (w 0 1 (by omega) (by omega))
end Go.Proofs.Ytmkiclinllifiaa
namespace Go.Proofs.Ytmkiclinllifiaa
open Go.Sim
set_option maxRecDepth 100000
variable{F:Prims}{call head arith cmp scmp bnot bsame conv neg imax imin ofNat slen place inR nz geZ rd wr push next mkOK nat zeros sadd eqAgg cut slc sslc strAt part app cpy putAt fresh lowered bump wrote addN lt ne fpAll fpApp brk yn rng mget mput mnew bytes clr mrng ment:_}(hA:AP F ⟨call,head,arith,cmp,scmp,bnot,bsame,conv,neg,imax,imin,ofNat,slen,place,inR,nz,geZ,rd,wr,push,next,mkOK,nat,zeros,sadd,eqAgg,cut,slc,sslc,strAt,part,app,cpy,putAt,fresh,lowered,bump,wrote,addN,lt,ne,fpAll,fpApp,brk,yn,rng,mget,mput,mnew,bytes,clr,mrng,ment⟩)
include hA
theorem appKD_ok{t e es:Nat}(hT:SliceT Try.prog t e es){α:Type}{enc:α->List Value}(he:∀x,(enc x).length=es)(hp0:0<es)(hok:∀x,(enc x).all cellOK=true){X:AHeap}{i:Nat}(hi:i<X.next)
  {a:Option Addr} {n c:Nat} {l:List α} {v:α} (hp:Apd X es a n c (l.flatMap enc)) (hai:∀ad,a=some ad->ad.block≠i) (hn:n<=100000) {C:Option Addr->Nat->Nat->AHeap->Prop}
  (hC:∀b' h',Apd (lowered (putAt X i es (enc v)) h') es (some ⟨b',0,none⟩) (n+1) (someCap es (n+1)) ((l++[v]).flatMap enc)->X.next<=b'->X.next<=(lowered (putAt X i es (enc v)) h').next->(∀j,j<X.next->j≠i->(∀ad,a=some ad->ad.block≠j)->(lowered (putAt X i es (enc v)) h').m.get j=X.m.get j)->(∀h0,Ext h0 X->h0.low<=h0.next->h0.next<=i->From h0.next a->Ext h0 (lowered (putAt X i es (enc v)) h'))->C (some ⟨b',0,none⟩) (n+1) (someCap es (n+1)) h') :
  app [t,t] [.slice a n c,.slice (some ⟨i,0,none⟩) 1 1] (fresh (putAt X i es (enc v))) C:=by
 rw[e_putAt hA]at hC ⊢;simp only[e_lowered hA]at hC;rw[e_fresh hA,e_app hA];have g1:∀j,j≠i->(X.putAt i es (enc v)).m.get j=X.m.get j:=fun j hj=>by unfold AHeap.putAt;simp only[];rw[Tri.get_set_ne _ _ (fun q=>hj q.symm)]
 have o1:Own (X.putAt i es (enc v)).freshed i es (enc v):=Own.putAt X i es (enc v);have hp1:Apd (X.putAt i es (enc v)).freshed es a n c (l.flatMap enc):=Apd.of_get hp (Nat.le_refl _) (fun ad had _=>g1 _ (hai ad had));have hs:Cells (X.putAt i es (enc v)).freshed (some ⟨i,0,none⟩) 1 es (enc v):=⟨rfl,hi,by rw[o1.readG (by rw[he];omega),List.drop_zero,List.take_of_length_le (by rw[he];omega)]⟩;obtain⟨a',c',h',h1,h2,h3,h4,h5,h6⟩:=append_keep hT hT.und (c2:=1) hp1 hs (all_flat hok l) (hok v) (by omega) (by omega);rcases h2 with ⟨_,w,_⟩|⟨b',rfl,rfl,w1,w2,w3⟩
 ·omega
 refine⟨_,n+1,_,h',h1,hC b' h' (.inr ⟨b',rfl,rfl,w1,by rw[flatE_len he];simp only[List.length_append,List.length_cons,List.length_nil];have:=hp.cells.length;rw[flatE_len he]at this;rw[Nat.eq_of_mul_eq_mul_right hp0 this],?_⟩) (h5 _ rfl) h4 (fun j j0 j1 j2=>(h6 j j0 j2).trans (g1 j j1)) (fun h0 x l0 x1 x2=>?_)⟩
 ·have w4:Own (h'.lowered (X.putAt i es (enc v)).low) b' es (l.flatMap enc++enc v):=w3
  simpa using w4
 ·have xP:Ext h0 (X.putAt i es (enc v)):=⟨x.next,x.low,x.lowG,fun j hj=>(g1 j (by omega)).trans (x.get j hj)⟩
  exact Ext.lower' (h3 h0 (xP.trans (Ext.freshed _)) x2).1 xP l0
end Go.Proofs.Ytmkiclinllifiaa
namespace Go.Proofs.Ytmkiclinllifiaa
open Go.Sim
theorem append_full{P:Program}{t t2 e es:Nat}(hT:SliceT P t e es)(ht2:P.underlying t2=some (.slice e)){h:AHeap}{b n n2 c2:Nat}{a2:Option Addr}{cells news:List Value}(ho:Own h b es cells)(hb:b<h.next)(hl:cells.length=n*es)(hn:n<=1000)(hs:Cells h a2 n2 es news)(hok:cells.all cellOK=true)(hok2:news.all cellOK=true)(h0:0<n2)(hbig:n2<=1000000) :
  ∃c',appendH P h [t,t2] [.slice (some ⟨b,0,none⟩) n n,.slice a2 n2 c2]=some (.slice (some ⟨h.next,0,none⟩) (n+n2) c',h.push es (cells++news)):=by
 obtain⟨by_,hby,hby2⟩:=hT.bytes;obtain⟨z,hz,hz2⟩:=hT.zero;have hnl:=hs.length;have hnews:newsA P h e es false (.slice a2 n2 c2)=some (n2,news):=by
  unfold newsA;simp only[cond_false];cases a2 with
  |none=>obtain⟨rfl,rfl⟩:=hs;simp
  |some ad=>
   obtain⟨h1,h2,h3⟩:=hs;simp only[h3]
 have hcl:capLow n=n:=Nat.mod_eq_of_lt (by unfold slack;omega);unfold appendH;simp only[hT.und,hT.size,hby,ht2,hz,isIntDesc,hnews];rw[hcl,ble_false (by omega)];simp only[cond_false];rw[ble_true (show n+n2<=1073741824 by omega),ble_true hby2,hok2,hz2,hnl];simp only[Bool.and_self,Nat.beq_refl,cond_true];have hr:h.readG ⟨b,0,none⟩ (n*es)=some cells:=by rw[ho.readG (by omega)];simp[<-hl]
 simp only[hr];rw[blt_true (show n<slack by unfold slack;omega),hok];simp only[cond_true];exact⟨_,rfl⟩
variable{F:Prims}{call head arith cmp scmp bnot bsame conv neg imax imin ofNat slen place inR nz geZ rd wr push next mkOK nat zeros sadd eqAgg cut slc sslc strAt part app cpy putAt fresh lowered bump wrote addN lt ne fpAll fpApp brk yn rng mget mput mnew bytes clr mrng ment:_}(hA:AP F ⟨call,head,arith,cmp,scmp,bnot,bsame,conv,neg,imax,imin,ofNat,slen,place,inR,nz,geZ,rd,wr,push,next,mkOK,nat,zeros,sadd,eqAgg,cut,slc,sslc,strAt,part,app,cpy,putAt,fresh,lowered,bump,wrote,addN,lt,ne,fpAll,fpApp,brk,yn,rng,mget,mput,mnew,bytes,clr,mrng,ment⟩)
include hA
theorem put_ext{h0 X:AHeap}(x0:Ext h0 X){i es:Nat}(i0:h0.next<=i)(cs:List Value):Ext h0 (putAt X i es cs)/\Own (putAt X i es cs) i es cs/\(putAt X i es cs).next=X.next/\(∀j,j≠i->(putAt X i es cs).m.get j=X.m.get j):=by
 rw[e_putAt hA];have g1:∀j,j≠i->(X.putAt i es cs).m.get j=X.m.get j:=fun j hj=>by unfold AHeap.putAt;simp only[];rw[Tri.get_set_ne _ _ (fun q=>hj q.symm)]
 exact⟨⟨x0.next,x0.low,x0.lowG,fun j hj=>(g1 j (by omega)).trans (x0.get j hj)⟩,Own.putAt X i es cs,rfl,g1⟩
end Go.Proofs.Ytmkiclinllifiaa
namespace Go.Proofs.Ytmkiclinllifiaa
open Go.Sim
set_option maxRecDepth 100000
def iC(x:Int):List Value:=[.int .i64 x]
theorem iC_len(x:Int):(iC x).length=1:=rfl
theorem iC_ok(x:Int):(iC x).all cellOK=true:=rfl
theorem iC_flat(p:List Int):p.flatMap iC=p.map (.int .i64):=by
 induction p with
 |nil=>rfl
 |cons x p ih=>rw[List.flatMap_cons,ih];rfl
theorem TI1:SliceT Try.prog 38 3 1:=⟨by kernel_rfl,by kernel_rfl,⟨8,by kernel_rfl,by omega⟩,⟨.int .i64 0,by kernel_rfl,rfl⟩⟩
theorem TL1:SliceT Try.prog 33 38 1:=⟨by kernel_rfl,by kernel_rfl,⟨24,by kernel_rfl,by omega⟩,⟨.slice none 0 0,by kernel_rfl,rfl⟩⟩
theorem pairs_enc:∀(t:List F2),pairsOf (encE pairK boolK (onK t))=some (t.map F2.t)
 | []=>rfl
 |p :: t=>by
  have ih:=pairs_enc t;show(match pairK p.t,pairsOf (encE pairK boolK (onK t))with
   | .agg ⟨[.int .i64 a,.int .i64 b]⟩,some l=>some ((a,b) :: l)
   |_,_=>none)=_
  rw[ih];rfl
def circF(t:List F2)(p:F2):List Int:=p.n :: ((pathR (trT t) p.d p.n).getD []).dropLast
variable{F:Prims}{call head arith cmp scmp bnot bsame conv neg imax imin ofNat slen place inR nz geZ rd wr push next mkOK nat zeros sadd eqAgg cut slc sslc strAt part app cpy putAt fresh lowered bump wrote addN lt ne fpAll fpApp brk yn rng mget mput mnew bytes clr mrng ment:_}(hA:AP F ⟨call,head,arith,cmp,scmp,bnot,bsame,conv,neg,imax,imin,ofNat,slen,place,inR,nz,geZ,rd,wr,push,next,mkOK,nat,zeros,sadd,eqAgg,cut,slc,sslc,strAt,part,app,cpy,putAt,fresh,lowered,bump,wrote,addN,lt,ne,fpAll,fpApp,brk,yn,rng,mget,mput,mnew,bytes,clr,mrng,ment⟩)
include hA
theorem way_call(hW:LW F){h:AHeap}{id:Nat}{t:List F2}(hm:h.m.get id=some (.map (encE pairK boolK (onK t))))(hg:grows (trT t)=true)(ht:t.length<=1000){x y:Int}{Q:Value->AHeap->Prop}
  (hno:pathR (trT t) x y=none->Q (.slice none 0 0) h) (hyes:∀p,pathR (trT t) x y=some p->Q (.slice (some ⟨h.next,0,none⟩) p.length (someCap 1 p.length)) (h.push 1 (p.map (.int .i64)))) :
  call 44 [.map (some id),.int .i64 x,.int .i64 y] h Q:=by
 have hr:(t.map F2.t).reverse=trT t:=rfl;cases c:pathR (trT t) x y with
 |none=>
  refine hA.prim (h':=h) (v:=.slice none 0 0) ?_ (hno c);rw[hW.way];unfold wayF;simp only[hm,pairs_enc,hr,hg,Bool.true_and,ble_true (show(t.map F2.t).length<=1000 by rw[List.length_map];exact ht),cond_true,c]
 |some p=>
  refine hA.prim (h':=h.push 1 (p.map (.int .i64))) (v:=.slice (some ⟨h.next,0,none⟩) p.length (someCap 1 p.length)) ?_ (hyes p c);rw[hW.way];unfold wayF;simp only[hm,pairs_enc,hr,hg,Bool.true_and,ble_true (show(t.map F2.t).length<=1000 by rw[List.length_map];exact ht),cond_true,c]
structure BaI(h0:AHeap)(a':Option Addr)(k c':Nat)(hs:List Hd)(g:List (List Int))(h:AHeap):Prop where
 ext:Ext h0 h
 hd:Apd h 1 a' k c' (hs.flatMap Hd.cells)
 fr:From h0.next a'
 lh:hs.length=k
 lg:g.length=k
 row:∀y:Int,0<=y->y<k->Rows iC 1 h (gt hs y).a (gt hs y).n (gt g y)/\∀ad,(gt hs y).a=some ad->h0.next<ad.block/\∀ad',a'=some ad'->ad.block≠ad'.block
omit hA in
theorem BaI.more{h0:AHeap}{a':Option Addr}{k c':Nat}{hs:List Hd}{g:List (List Int)}{h h':AHeap}(b:BaI h0 a' k c' hs g h)(x:Ext h h'):BaI h0 a' k c' hs g h':=
 ⟨b.ext.trans x,b.hd.ext x,b.fr,b.lh,b.lg,fun y y0 y1=>⟨(b.row y y0 y1).1.ext x,(b.row y y0 y1).2⟩⟩
theorem ba_loop(hW:LW F){h0:AHeap}(hlow0:h0.low<=h0.next){a:Option Addr}{n c:Nat}{N:Int}(hN:N=n){C:List F2}(hl:Rows F2.cells 2 h0 a n C)(hn:n<=1000){id:Nat}(hid:id<h0.next){t:List F2}(hm:h0.m.get id=some (.map (encE pairK boolK (onK t))))(hg:grows (trT t)=true)(ht:t.length<=8)
  (hc:∀p∈C,Conn (trT t) p.d p.n/\p.n≠p.d) {Q:Exit->SS->Prop}
  (hQ:∀h' a' c' hs,BaI h0 a' n c' hs (C.map (circF t)) h'->Q (.exit 0) ⟨[(5,.slice a n c),(6,.slice a' n c')],0,[],h'⟩) :
  ∀(m:Nat) (i:Int) (h:AHeap) (a':Option Addr) (k c':Nat) (hs:List Hd),(n-i).toNat<=m->0<=i->i<=n->(k:Int)=i->BaI h0 a' k c' hs ((C.take i.toNat).map (circF t)) h->
   head 41 5 0 ⟨[(4,.map (some id)),(5,.slice a n c),(6,.slice a' k c'),(16,.slice a n c),(17,.int .i64 N),(18,.int .i64 i)],0,[],h⟩ Q:=by
 have hlen:=hl.len;refine upTo (fun m ih=>?_);intro i h a' k c' hs hm' i0 i1 hk hb;by_cases ci:i<n
 rotate_left
 ·obtain rfl:k=n:=by omega
  refine hA.roundR Try.func41 r41_ok (zc ?_);refine br (i<N) (by rw[e_lss hA]) (fun c1=>by omega) (fun c1=>?_)<;>refine zc ?_;rw[List.take_of_length_le (by omega)]at hb;exact hQ h a' c' hs hb
 obtain⟨m,rfl⟩:∃k,m=k+1:=⟨m-1,by omega⟩
 replace ih:=ih m rfl
 obtain⟨bb,o,x,y,rfl,hbb,hgt,r1,_⟩:=fr_at (hl.ext hb.ext) (i:=i) i0 ci;have q1:=rd_ok hA r1;have e2:arith .add .i64 i 1=i+1:=add64 hA (by omega) (by omega);have hp:=hc ⟨x,y⟩ (by rw[<-hgt];exact gt_mem C i0 (by omega));obtain⟨⟨w,hw⟩,hxy⟩:=hp;have htl:(trT t).length=t.length:=by unfold trT;simp
 obtain⟨⟨w1,hw1⟩,w2,hw2⟩:=path_ends hg hw;have wl:=path_len hg hw;refine hA.roundR Try.func41 r41_ok (zc ?_);refine br (i<N) (by rw[e_lss hA]) (fun c1=>?_) (fun c1=>by omega)<;>refine zc ?_;refine zq ?_;refine way_call hA hW (by rw[hb.ext.get id hid];exact hm) hg (by omega) (fun q=>by rw[hw]at q;cases q) (fun w' q=>?_);obtain rfl:w=w':=by rw[hw]at q;exact Option.some.inj q
 refine⟨_,_,_,rfl,?_⟩;obtain⟨wn,hwn⟩:∃z,z=w.length:=⟨_,rfl⟩;obtain⟨cw,hcw⟩:∃z,z=someCap 1 wn:=⟨_,rfl⟩;have ew:=Ext.push h 1 (w.map (.int .i64));have ow:=Own.push h 1 (w.map (.int .i64));have nw:(h.push 1 (w.map (.int .i64))).next=h.next+1:=rfl;generalize h.push 1 (w.map (.int .i64))=hX at *;obtain⟨bw,hbw⟩:∃z,z=h.next:=⟨_,rfl⟩;rw[<-hwn,<-hcw,<-hbw];rw[<-hbw]at ow;have wpos:2<=wn:=by
  rw[hwn,hw1];cases w1 with
  |nil=>exact absurd (path_one hg (hw.trans (congrArg some hw1))).symm hxy
  |cons=>simp
 refine zc ?_;obtain⟨z,hz⟩:∃z:Int,z=wn-1:=⟨_,rfl⟩;rw[e_ofNat hA,sub64 hA (by omega) (by omega),<-hz];refine⟨by rw[e_cut hA,hcw,capLow_some (by unfold slack;omega)];omega,?_⟩;simp only[e_nat hA,e_next hA,e_push hA];have ex:=Ext.push hX 1 [.int .i64 x];have ox:=Own.push hX 1 [.int .i64 x];have nx:(hX.push 1 [.int .i64 x]).next=hX.next+1:=rfl;generalize hX.push 1 [.int .i64 x]=hY at *;obtain⟨bx,hbx⟩:∃z,z=hX.next:=⟨_,rfl⟩;rw[<-hbx];rw[<-hbx]at ox;obtain⟨zn,hzn⟩:∃q,q=z.toNat:=⟨_,rfl⟩;rw[<-hzn];refine zc ?_;have ow2:Own hY bw 1 (w.map (.int .i64)):=ow.ext ex (by omega);have hnews:Cells hY (some ⟨bw,0,none⟩) zn 1 (w.dropLast.map (.int .i64)):=by
  refine⟨rfl,by show bw<hY.next;omega,?_⟩;rw[ow2.readG (o:=0) (n:=zn*1) (by rw[List.length_map];omega),List.drop_zero,Nat.mul_one,List.dropLast_eq_take,<-List.map_take]
  congr 3
  omega
 obtain⟨c9,a9⟩:=append_full (P:=Try.prog) (t2:=38) TI1 TI1.und (n:=1) ox (by omega) (by rfl) (by omega) hnews (c2:=cw) (by rfl) (by rw[<-iC_flat];exact all_flat iC_ok _) (by omega) (by omega);refine app_ok hA a9 ?_;have hcirc:[Value.int .i64 x]++w.dropLast.map (.int .i64)=(circF t ⟨x,y⟩).map (.int .i64):=by
  unfold circF;simp only[hw,Option.getD_some,List.map_cons];rfl
 rw[hcirc];obtain⟨cn,hcn⟩:∃q,q=1+zn:=⟨_,rfl⟩;have lc:(circF t ⟨x,y⟩).length=cn:=by
  unfold circF;simp only[hw,Option.getD_some,List.length_cons,List.length_dropLast];omega
 rw[<-hcn];have eg:=Ext.push hY 1 ((circF t ⟨x,y⟩).map (.int .i64));have og:=Own.push hY 1 ((circF t ⟨x,y⟩).map (.int .i64));have ng:(hY.push 1 ((circF t ⟨x,y⟩).map (.int .i64))).next=hY.next+1:=rfl;generalize hY.push 1 ((circF t ⟨x,y⟩).map (.int .i64))=hZ at *;obtain⟨bg,hbg⟩:∃z,z=hY.next:=⟨_,rfl⟩;rw[<-hbg];rw[<-hbg]at og;refine zc ?_;have xZ:Ext h hZ:=ew.trans (ex.trans eg);have hk5:k<=100000:=by omega
 have lt0:h0.next<=h.next:=hb.ext.next;refine appK_ok hA TL1 hd_len (by omega) hd_ok (v:=⟨some ⟨bg,0,none⟩,cn,c9⟩) (hb.hd.ext xZ) hk5 (fun b2 hE hp2 hx hnx hb2 hkeep=>?_);generalize someCap 1 (k+1)=sc at *;refine zc ?_;rw[e2];have xE:Ext h0 hE:=hx h0 (hb.ext.trans xZ) hb.fr;have bM:=hb.more xZ;refine ih (i+1) hE (some ⟨b2,0,none⟩) (k+1) sc (hs++[⟨some ⟨bg,0,none⟩,cn,c9⟩]) (by omega) (by omega) (by omega) (by omega) ?_;rw[gt_take C i0 (by omega),List.map_append,hgt,List.map_singleton];have lh:=hb.lh;have lg:=hb.lg;have nZ:=xZ.next;refine⟨xE,hp2,fun ad had=>by cases had;show h0.next<=b2;omega,by simp[lh],by rw[List.length_append,lg];rfl,fun y' y0 y1=>?_⟩;have old:∀{α:Type} [Inhabited α] (l:List α) (v:α),l.length=k->y'<k->gt (l++[v]) y'=gt l y':=fun l v hl hy=>by
  unfold gt;rw[List.getD_eq_getElem?_getD,List.getD_eq_getElem?_getD,List.getElem?_append_left (by omega)]
 have new:∀{α:Type} [Inhabited α] (l:List α) (v:α),l.length=k->¬y'<k->gt (l++[v]) y'=v:=fun l v hl hy=>by
  unfold gt;rw[List.getD_eq_getElem?_getD,List.getElem?_append_right (by omega),show y'.toNat-l.length=0 by omega];rfl
 by_cases cy:y'<k
 ·rw[old hs _ lh cy,old _ _ lg cy]
  obtain⟨r1,r2⟩:=bM.row y' y0 cy;have rl:∀ad,(gt hs y').a=some ad->ad.block<hZ.next:=fun ad had=>by have:=r1.cells;rw[had]at this;exact this.2.1
  refine⟨⟨cells_of' r1.cells (fun ad had=>⟨by have:=rl ad had;omega,hkeep _ (rl ad had) (fun ad' had' e=>(r2 ad had).2 ad' had' e.symm)⟩),r1.each,r1.pos⟩,fun ad had=>⟨(r2 ad had).1,fun ad' had'=>?_⟩⟩;cases had';have:=rl ad had;show ad.block≠b2;omega
 ·rw[new hs _ lh cy,new _ _ lg cy]
  have ogE:Own hE bg 1 ((circF t ⟨x,y⟩).flatMap iC):=by
   rw[iC_flat];unfold Own;rw[hkeep bg (by omega) (fun ad had e=>by have:=hb.hd.lt ad had;omega)];exact og
  refine⟨?_,fun ad had=>⟨by cases had;show h0.next<bg;omega,fun ad' had'=>by cases had;cases had';show bg≠b2;omega⟩⟩;have:=Own.rows ogE iC_len (by omega) (by omega);rw[lc]at this;exact this
def chds(t P:List F2):List F2:=P.filter (fun p=>decide (p∉t))
omit hA in
theorem bas_st{l:List Vk}{P:List F2}(hP:Bas l P):∀p∈P,stS l p.n/\stS l p.d:=fun p hp=>by
 obtain⟨v,hv,e⟩:=(hP.mem p).1 hp;exact⟨⟨v,hv,.inl (by rw[e];rfl)⟩,⟨v,hv,.inr (by rw[e];rfl)⟩⟩
omit hA in
theorem parts_grows{l:List Vk}{P:List F2}{t:List F2}{k:Int}(h:Parts P (stS l) (fun _=>false) [] 0 t k):grows (trT t)=true:=(h.grows rfl (fun x hx=>by cases hx)).1
omit hA in
theorem chds_ok{l:List Vk}(hs:stOK l)(hlt:∀v∈l,v.i<v.j){P:List F2}(hP:Bas l P){t:List F2}{k:Int}(h:Parts P (stS l) (fun _=>false) [] 0 t k):∀p∈chds t P,Conn (trT t) p.d p.n/\p.n≠p.d:=fun p hp=>by
 have hm:=(List.mem_filter.1 hp).1;obtain⟨v,hv,e⟩:=(hP.mem p).1 hm;have:=hlt v hv;exact⟨(h.conn0 (bas_st hP) p hm).symm (parts_grows h),by rw[e];show v.i≠v.j;omega⟩
theorem basis_ok(hW:LW F){h:AHeap}(hlow:h.low<=h.next){a:Option Addr}{n c:Nat}{l:List Vk}(hl:Vs h a n l)(hs:stOK l)(hlt:∀v∈l,v.i<v.j)(hn:n<=1000){P:List F2}(hP:Bas l P)(hd:(l.map Vk.pr).Nodup){Q:Value->AHeap->Prop}
  (hQ:∀t pk h' a1 k1 c1 a2 c2 hs',Parts P (stS l) (fun _=>false) [] 0 t pk->t.length<=8->Rows F2.cells 2 h' a1 k1 (chds t P)->GrR iC 1 h' a2 k1 hs' ((chds t P).map (circF t))->Ext h h'->From h.next a1->From h.next a2->Q (.tuple #[.slice a1 k1 c1,.slice a2 k1 c2]) h') :
  call 41 [.slice a n c] h Q:=by
 refine hA.bodyR Try.func41 r41_ok (hA.alike _ _ _ rfl) hlow (zc ?_);refine joins_ok hA hW hlow hl hs hn hP hd (fun t h1 id pk q1 q2 q3 q4 q5 q6=>?_);refine⟨_,rfl,?_⟩;refine zc ?_;refine chords_ok hA (q3.lowOK hlow) (hl.ext q3) hs hn hP hd q5 q2 (fun h2 a1 k1 c1 y1 y2 y3 y4 y5=>?_);refine⟨_,_,_,rfl,?_⟩;refine zc ?_;have xx:=q3.trans y5;have hk:k1<=1000:=by
  have:=List.length_filter_le (fun p=>decide (p∉t)) P;omega
 have hR:Rows F2.cells 2 h2 a1 k1 (chds t P):=⟨y1.cells,f2_len,by omega⟩;refine ba_loop hA hW (xx.lowOK hlow) (e_ofNat hA k1) hR hk (id:=id) (by have:=y5.next;omega) (by rw[y5.get id q5];exact q2) (parts_grows q1) q6 (chds_ok hs hlt hP q1) (fun h3 a2 c2 hs' b=>?_) k1 0 h2 none 0 0 [] (by omega) (by omega) (by omega) rfl ⟨.refl _,Apd.nil _ _,From.none _,rfl,rfl,fun y y0 y1=>by omega⟩;refine zc ?_;have hx:=b.ext;refine hQ t pk h3 a1 k1 c1 a2 c2 hs' q1 q6 (hR.ext hx) ⟨⟨b.hd.cells,hd_len,by omega⟩,b.lg,fun y y0 y1=>(b.row y y0 y1).1⟩ (xx.trans hx) (fun ad had=>by have:=y2 ad had;have:=q3.next;omega) (fun ad had=>by have:=b.fr ad had;have:=xx.next;omega)
