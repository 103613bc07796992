import Derived.Test.YtogliemiljhliaaSortH
import Derived.Test.YtogliemiljhliaaFracT
import Derived.Test.YtogliemiljhliaaSymFacts
set_option linter.unusedSimpArgs false
set_option linter.unusedVariables false
namespace Go.Proofs.Ytogliemiljhliaa
open Go.Sim
theorem ext_bumpPut(h:AHeap)(n:Nat){b:Nat}(hb:h.next<=b)(es:Nat)(cs:List Value):Ext h ((h.bump n).putAt b es cs):=
 ⟨by simp[AHeap.bump,AHeap.putAt],fun l=>by simp only[AHeap.bump,AHeap.putAt];omega,by simp only[AHeap.bump,AHeap.putAt];exact Nat.min_le_left _ _,fun i hi=>by
  simp only[AHeap.bump,AHeap.putAt];rw[Tri.get_set_ne _ _ (by omega)]⟩
theorem all_flat{α:Type}{enc:α->List Value}(hok:∀x,(enc x).all cellOK=true)(l:List α):(l.flatMap enc).all cellOK=true:=by
 rw[List.all_flatMap];simp only[hok,List.all_eq_true,implies_true]
variable{F:Prims}{call head arith cmp scmp bnot bsame conv neg imax imin ofNat slen place inR nz geZ rd wr push next mkOK nat zeros sadd eqAgg cut slc sslc strAt part app cpy putAt fresh lowered bump wrote addN lt ne fpAll fpApp brk yn rng mget mput mnew bytes clr:_}(hA:AP F ⟨call,head,arith,cmp,scmp,bnot,bsame,conv,neg,imax,imin,ofNat,slen,place,inR,nz,geZ,rd,wr,push,next,mkOK,nat,zeros,sadd,eqAgg,cut,slc,sslc,strAt,part,app,cpy,putAt,fresh,lowered,bump,wrote,addN,lt,ne,fpAll,fpApp,brk,yn,rng,mget,mput,mnew,bytes,clr⟩)
include hA
theorem appR_ok{t e es:Nat}(hT:SliceT Try.prog t e es){α:Type}{enc:α->List Value}(he:∀x,(enc x).length=es)(hp0:0<es)(hok:∀x,(enc x).all cellOK=true){h:AHeap}{a:Option Addr}{n c:Nat}{l:List α}{v:α}(hp:Apd h es a n c (l.flatMap enc))(hn:n<=100000){C:Option Addr->Nat->Nat->AHeap->Prop}
  (hC:∀a' c' h',Apd h' es a' (n+1) c' ((l++[v]).flatMap enc)->(∀h0,Ext h0 h->From h0.next a->Ext h0 h'/\From h0.next a')->C a' (n+1) c' h') :
  app [t,t] [.slice a n c,.slice (some ⟨next h,0,none⟩) 1 1] (push h es (enc v)) C:=by
 rw[e_app hA,e_push hA,e_next hA];have hs:Cells (h.push es (enc v)) (some ⟨h.next,0,none⟩) 1 es (enc v):=⟨rfl,by simp[AHeap.push],by rw[(Own.push h es _).readG (by rw[he];omega),List.drop_zero,List.take_of_length_le (by rw[he];omega)]⟩;have hall:(l.flatMap enc).all cellOK=true:=by
  rw[List.all_flatMap];simp only[hok,List.all_eq_true,implies_true]
 obtain⟨a',c',h',h1,h2,h3⟩:=append_ok hT hT.und (c2:=1) (hp.ext (.push h es (enc v))) hs hall (hok v) (by omega) (by omega);refine⟨a',n+1,c',h',h1,hC a' c' h' (by simpa using h2) (fun h0 e0 f0=>h3 h0 (e0.trans (.push _ _ _)) f0)⟩
theorem appCopy_ok{t e es:Nat}(hT:SliceT Try.prog t e es){α:Type}{enc:α->List Value}(hok:∀x,(enc x).all cellOK=true){h:AHeap}{a:Option Addr}{n c:Nat}{l:List α}(hl:Rows enc es h a n l)(hn:n<=100000){C:Option Addr->Nat->Nat->AHeap->Prop}
  (hC:∀b' c' h',Own h' b' es (l.flatMap enc)->h.next<=b'->b'<h'.next->Ext h h'->C (some ⟨b',0,none⟩) n c' h') :
  app [t,t] [.slice (some ⟨next h,0,none⟩) 0 0,.slice a n c] (push h es []) C:=by
 rw[e_app hA,e_push hA,e_next hA];have hall:(l.flatMap enc).all cellOK=true:=by
  rw[List.all_flatMap];simp only[hok,List.all_eq_true,implies_true]
 have h0:=hl.each;obtain⟨b',c',h',h1,h2,h3,h4⟩:=append_new hT hT.und (Own.push h es []) (by simp[AHeap.push]) (hl.ext (.push h es [])).cells hall (by omega) (c2:=c);obtain⟨k1,k2⟩:=h4 h (.push h es []) (Nat.le_refl _);exact⟨some ⟨b',0,none⟩,n,c',h',h1,hC b' c' h' h2 k2 h3 k1⟩
theorem appD_ok{t e es:Nat}(hT:SliceT Try.prog t e es){α:Type}{enc:α->List Value}(he:∀x,(enc x).length=es)(hp0:0<es)(hok:∀x,(enc x).all cellOK=true){h0 h h9:AHeap}(hlow:h0.low<=h0.next)(e0:Ext h0 h){N k:Nat}(hk:k<N)(hh9:h9=bump h N)
  {a:Option Addr} {n c:Nat} {l:List α} {v:α} (hp:Apd h es a n c (l.flatMap enc)) (hf:From h0.next a) (hn:n<=100000) {C:Option Addr->Nat->Nat->AHeap->Prop}
  (hC:∀a' c' h',Apd (lowered (putAt h9 (addN (next h) k) es (enc v)) h') es a' (n+1) c' ((l++[v]).flatMap enc)->From h0.next a'->Ext h0 (lowered (putAt h9 (addN (next h) k) es (enc v)) h')->C a' (n+1) c' h') :
  app [t,t] [.slice a n c,.slice (some ⟨addN (next h) k,0,none⟩) 1 1] (fresh (putAt h9 (addN (next h) k) es (enc v))) C:=by
 rw[e_bump hA]at hh9;subst hh9;rw[e_addN hA,e_next hA,e_putAt hA]at hC ⊢;rw[e_fresh hA];have x1:Ext h ((h.bump N).putAt (h.next+k) es (enc v)):=ext_bumpPut h N (by omega) es _;have o1:=Own.putAt (h.bump N) (h.next+k) es (enc v);have n1:((h.bump N).putAt (h.next+k) es (enc v)).next=h.next+N:=rfl;generalize (h.bump N).putAt (h.next+k) es (enc v)=X at *;have xf:=x1.trans (Ext.freshed X);have o2:Own X.freshed (h.next+k) es (enc v):=o1.ext (Ext.freshed X) (by omega);have hs:Cells X.freshed (some ⟨h.next+k,0,none⟩) 1 es (enc v):=⟨rfl,by show h.next+k<X.next;omega,by rw[o2.readG (by rw[he];omega),List.drop_zero,List.take_of_length_le (by rw[he];omega)]⟩;obtain⟨a',c',h',h1,h2,h3⟩:=append_ok hT hT.und (c2:=1) (hp.ext xf) hs (all_flat hok l) (hok v) (by omega) (by omega);obtain⟨w1,w2⟩:=h3 h0 (e0.trans xf) hf;rw[e_app hA];refine⟨a',n+1,c',h',h1,hC a' c' h' ?_ w2 ?_⟩
 ·rw[e_lowered hA]
  refine Apd.of_get (h:=h') (by simpa using h2) (Nat.le_refl _) (fun ad had hb=>rfl)
 ·rw[e_lowered hA]
  exact Ext.lower' w1 (e0.trans x1) hlow
end Go.Proofs.Ytogliemiljhliaa
namespace Go.Proofs.Ytogliemiljhliaa
open Go.Sim
set_option maxRecDepth 100000
section
variable{α:Type}{enc:α->List Value}{es:Nat}{h0 h:AHeap}{oa:Nat}{bs:List Nat}{g:List (List α)}
theorem bs_mem{bs:List Nat}{i:Nat}(h:i<bs.length):bs.getD i 0∈bs:=by
 rw[List.getD_eq_getElem?_getD,List.getElem?_eq_getElem h];exact List.getElem_mem h
theorem nodup_getD{bs:List Nat}(h:bs.Nodup){i j:Nat}(hi:i<bs.length)(hj:j<bs.length)(e:bs.getD i 0=bs.getD j 0):i=j:=by
 rw[List.getD_eq_getElem?_getD,List.getD_eq_getElem?_getD,List.getElem?_eq_getElem hi,List.getElem?_eq_getElem hj]at e;exact(List.getElem_inj h).1 (by simpa using e)
end
variable{F:Prims}{call head arith cmp scmp bnot bsame conv neg imax imin ofNat slen place inR nz geZ rd wr push next mkOK nat zeros sadd eqAgg cut slc sslc strAt part app cpy putAt fresh lowered bump wrote addN lt ne fpAll fpApp brk yn rng mget mput mnew bytes clr:_}(hA:AP F ⟨call,head,arith,cmp,scmp,bnot,bsame,conv,neg,imax,imin,ofNat,slen,place,inR,nz,geZ,rd,wr,push,next,mkOK,nat,zeros,sadd,eqAgg,cut,slc,sslc,strAt,part,app,cpy,putAt,fresh,lowered,bump,wrote,addN,lt,ne,fpAll,fpApp,brk,yn,rng,mget,mput,mnew,bytes,clr⟩)
include hA
theorem appK_ok{t e es:Nat}(hT:SliceT Try.prog t e es){α:Type}{enc:α->List Value}(he:∀x,(enc x).length=es)(hp0:0<es)(hok:∀x,(enc x).all cellOK=true){h:AHeap}{a:Option Addr}{n c:Nat}{l:List α}{v:α}(hp:Apd h es a n c (l.flatMap enc))(hn:n<=100000){C:Option Addr->Nat->Nat->AHeap->Prop}
  (hC:∀b' h',Apd h' es (some ⟨b',0,none⟩) (n+1) (someCap es (n+1)) ((l++[v]).flatMap enc)->(∀h0,Ext h0 h->From h0.next a->Ext h0 h')->h.next<h'.next->h.next<b'->(∀i,i<h.next->(∀ad,a=some ad->ad.block≠i)->h'.m.get i=h.m.get i)->C (some ⟨b',0,none⟩) (n+1) (someCap es (n+1)) h') :
  app [t,t] [.slice a n c,.slice (some ⟨next h,0,none⟩) 1 1] (push h es (enc v)) C:=by
 rw[e_app hA,e_push hA,e_next hA];have hs:Cells (h.push es (enc v)) (some ⟨h.next,0,none⟩) 1 es (enc v):=⟨rfl,by simp[AHeap.push],by rw[(Own.push h es _).readG (by rw[he];omega),List.drop_zero,List.take_of_length_le (by rw[he];omega)]⟩;obtain⟨a',c',h',h1,h2,h3,h4,h5,h6⟩:=append_keep hT hT.und (c2:=1) (hp.ext (.push h es (enc v))) hs (all_flat hok l) (hok v) (by omega) (by omega);rcases h2 with ⟨_,w,_⟩|⟨b',rfl,rfl,w1,w2,w3⟩
 ·omega
 have nx:(h.push es (enc v)).next=h.next+1:=rfl;refine⟨_,n+1,_,h',h1,hC b' h' (.inr ⟨b',rfl,rfl,w1,by rw[flatE_len he];simp only[List.length_append,List.length_cons,List.length_nil];have:=hp.cells.length;rw[flatE_len he]at this;rw[Nat.eq_of_mul_eq_mul_right hp0 this],?_⟩) (fun h0 e0 f0=>(h3 h0 (e0.trans (.push _ _ _)) f0).1) (by omega) (by have:=h5 _ rfl;simp only at this;omega) (fun i hi ha=>?_)⟩
 ·simpa using w3
 ·rw[h6 i (by omega) ha]
  exact(Ext.push h es (enc v)).get i hi
end Go.Proofs.Ytogliemiljhliaa
namespace Go.Proofs.Ytogliemiljhliaa
open Go.Sim
variable{F:Prims}{call head arith cmp scmp bnot bsame conv neg imax imin ofNat slen place inR nz geZ rd wr push next mkOK nat zeros sadd eqAgg cut slc sslc strAt part app cpy putAt fresh lowered bump wrote addN lt ne fpAll fpApp brk yn rng mget mput mnew bytes clr:_}(hA:AP F ⟨call,head,arith,cmp,scmp,bnot,bsame,conv,neg,imax,imin,ofNat,slen,place,inR,nz,geZ,rd,wr,push,next,mkOK,nat,zeros,sadd,eqAgg,cut,slc,sslc,strAt,part,app,cpy,putAt,fresh,lowered,bump,wrote,addN,lt,ne,fpAll,fpApp,brk,yn,rng,mget,mput,mnew,bytes,clr⟩)
include hA
theorem fp_old{h h':AHeap}{b lim:Nat}(hw:wrote h h'=false)(hb:b<lim):fpAll false (wrote h h') false b lim:=by
 rw[e_fpAll hA];exact⟨rfl,hw,.inr hb⟩
end Go.Proofs.Ytogliemiljhliaa
namespace Go.Proofs.Ytogliemiljhliaa
open Go.Sim
set_option maxRecDepth 100000
structure Hd where
 a:Option Addr
 n:Nat
 c:Nat
 deriving Inhabited
def Hd.cells(k:Hd):List Value:=[.slice k.a k.n k.c]
theorem hd_len(k:Hd):k.cells.length=1:=rfl
theorem hd_ok(k:Hd):k.cells.all cellOK=true:=rfl
structure GrR{α:Type}[Inhabited α](enc:α->List Value)(es:Nat)(h:AHeap)(a:Option Addr)(N:Nat)(hs:List Hd)(g:List (List α)):Prop where
 hd:Rows Hd.cells 1 h a N hs
 len:g.length=N
 row:∀y:Int,0<=y->y<N->Rows enc es h (gt hs y).a (gt hs y).n (gt g y)
theorem GrR.ext{α:Type}[Inhabited α]{enc:α->List Value}{es:Nat}{h h':AHeap}{a:Option Addr}{N:Nat}{hs:List Hd}{g:List (List α)}(t:GrR enc es h a N hs g)(e:Ext h h'):GrR enc es h' a N hs g:=⟨t.hd.ext e,t.len,fun y y0 y1=>(t.row y y0 y1).ext e⟩
theorem GrR.some{α:Type}[Inhabited α]{enc:α->List Value}{es:Nat}{h:AHeap}{a:Option Addr}{N:Nat}{hs:List Hd}{g:List (List α)}(t:GrR enc es h a N hs g)(hN:0<N):∃b o,a=Option.some ⟨b,o,none⟩/\b<h.next:=by
 obtain⟨b,o,e,l,_⟩:=t.hd.at (i:=0) (by omega) (by omega);exact⟨b,o,e,l⟩
def hds{α:Type}(cp:Nat)(bs:List Nat)(g:List (List α)):List Hd:=List.zipWith (fun b r=>⟨some ⟨b,0,none⟩,r.length,cp⟩) bs g
theorem hds_len{α:Type}{cp:Nat}{bs:List Nat}{g:List (List α)}(h:bs.length=g.length):(hds cp bs g).length=g.length:=by
 unfold hds;rw[List.length_zipWith,h];exact Nat.min_self _
theorem hds_at{α:Type}{cp:Nat}{bs:List Nat}{g:List (List α)}(h:bs.length=g.length){y:Int}(y0:0<=y)(y1:y<g.length):gt (hds cp bs g) y=⟨some ⟨bs.getD y.toNat 0,0,none⟩,(gt g y).length,cp⟩:=by
 unfold hds gt;rw[List.getD_eq_getElem?_getD,List.getElem?_zipWith,List.getElem?_eq_getElem (by omega),List.getElem?_eq_getElem (by omega),List.getD_eq_getElem?_getD,List.getD_eq_getElem?_getD,List.getElem?_eq_getElem (by omega),List.getElem?_eq_getElem (by omega)];rfl
structure GrW{α:Type}[Inhabited α](enc:α->List Value)(es cp:Nat)(h0 h:AHeap)(bs:List Nat)(g:List (List α)):Prop where
 ext:Ext h0 h
 len:bs.length=g.length
 row:∀y:Int,0<=y->y<g.length->Own h (bs.getD y.toNat 0) es ((gt g y).flatMap enc)
 oldr:∀b,b∈bs->h0.next<=b
 ltr:∀b,b∈bs->b<h.next
 dis:bs.Nodup
 each:∀x,(enc x).length=es
 pos:0<es
section
variable{α:Type}[Inhabited α]{enc:α->List Value}{es cp:Nat}{h0 h:AHeap}{bs:List Nat}{g:List (List α)}
theorem GrW.nil(h0:AHeap)(he:∀x,(enc x).length=es)(hp:0<es):GrW enc es cp h0 h0 [] []:=⟨.refl h0,rfl,fun y y0 y1=>by simp at y1;omega,fun b hb=>by simp at hb,fun b hb=>by simp at hb,List.nodup_nil,he,hp⟩
theorem GrW.more{h':AHeap}(t:GrW enc es cp h0 h bs g)(e:Ext h h'):GrW enc es cp h0 h' bs g:=
 ⟨t.ext.trans e,t.len,fun y y0 y1=>(t.row y y0 y1).ext e (t.ltr _ (bs_mem (by have:=t.len;omega))),t.oldr,fun b hb=>Nat.lt_of_lt_of_le (t.ltr b hb) e.next,t.dis,t.each,t.pos⟩
theorem GrW.keep{h':AHeap}(t:GrW enc es cp h0 h bs g)(e:Ext h0 h')(hn:h.next<=h'.next)(hk:∀b,b∈bs->h'.m.get b=h.m.get b):GrW enc es cp h0 h' bs g:=
 ⟨e,t.len,fun y y0 y1=>(t.row y y0 y1).of_get (hk _ (bs_mem (by have:=t.len;omega))),t.oldr,fun b hb=>Nat.lt_of_lt_of_le (t.ltr b hb) hn,t.dis,t.each,t.pos⟩
theorem GrW.add{b:Nat}{r:List α}(t:GrW enc es cp h0 h bs g)(o:Own h b es (r.flatMap enc))(h1:h0.next<=b)(h2:b<h.next)(h3:b∉bs):GrW enc es cp h0 h (bs++[b]) (g++[r]):=by
 have hl:=t.len;refine⟨t.ext,by simp[hl],fun y y0 y1=>?_,fun c hc=>?_,fun c hc=>?_,?_,t.each,t.pos⟩
 ·rw[List.length_append,List.length_singleton]at y1
  by_cases e:y<g.length
  ·have e1:(bs++[b]).getD y.toNat 0=bs.getD y.toNat 0:=by rw[List.getD_eq_getElem?_getD,List.getD_eq_getElem?_getD,List.getElem?_append_left (by omega)]
   have e2:gt (g++[r]) y=gt g y:=by unfold gt;rw[List.getD_eq_getElem?_getD,List.getD_eq_getElem?_getD,List.getElem?_append_left (by omega)]
   rw[e1,e2];exact t.row y y0 e
  ·have e1:(bs++[b]).getD y.toNat 0=b:=by rw[List.getD_eq_getElem?_getD,show y.toNat=bs.length by omega,List.getElem?_concat_length];rfl
   have e2:gt (g++[r]) y=r:=by unfold gt;rw[List.getD_eq_getElem?_getD,show y.toNat=g.length by omega,List.getElem?_concat_length];rfl
   rw[e1,e2];exact o
 ·rcases List.mem_append.1 hc with q|q
  ·exact t.oldr c q
  ·simp only[List.mem_singleton]at q;omega
 ·rcases List.mem_append.1 hc with q|q
  ·exact t.ltr c q
  ·simp only[List.mem_singleton]at q;omega
 ·rw[List.nodup_append]
  exact⟨t.dis,by simp,fun x hx y hy=>by simp only[List.mem_singleton]at hy;intro e;exact h3 (by rw[<-hy,<-e];exact hx)⟩
theorem GrW.rd(t:GrW enc es cp h0 h bs g){a:Option Addr}{N:Nat}(hd:Rows Hd.cells 1 h a N (hds cp bs g)):GrR enc es h a N (hds cp bs g) g:=by
 have hl:=t.len;have e:=hd.len;rw[hds_len hl]at e;refine⟨hd,e,fun y y0 y1=>?_⟩;rw[hds_at hl y0 (by omega)];exact Own.rows (t.row y y0 (by omega)) t.each t.pos (t.ltr _ (bs_mem (by omega)))
omit [Inhabited α] in
theorem hds_add{b:Nat}{r:List α}(hl:bs.length=g.length):hds cp (bs++[b]) (g++[r])=hds cp bs g++[⟨some ⟨b,0,none⟩,r.length,cp⟩]:=by
 unfold hds;rw[List.zipWith_append hl];rfl
end
variable{F:Prims}{call head arith cmp scmp bnot bsame conv neg imax imin ofNat slen place inR nz geZ rd wr push next mkOK nat zeros sadd eqAgg cut slc sslc strAt part app cpy putAt fresh lowered bump wrote addN lt ne fpAll fpApp brk yn rng mget mput mnew bytes clr:_}(hA:AP F ⟨call,head,arith,cmp,scmp,bnot,bsame,conv,neg,imax,imin,ofNat,slen,place,inR,nz,geZ,rd,wr,push,next,mkOK,nat,zeros,sadd,eqAgg,cut,slc,sslc,strAt,part,app,cpy,putAt,fresh,lowered,bump,wrote,addN,lt,ne,fpAll,fpApp,brk,yn,rng,mget,mput,mnew,bytes,clr⟩)
include hA
theorem gr_head{α:Type}[Inhabited α]{enc:α->List Value}{es:Nat}{h:AHeap}{b o N:Nat}{hs:List Hd}{g:List (List α)}(t:GrR enc es h (some ⟨b,o,none⟩) N hs g){y:Int}(y0:0<=y)(y1:y<N):rd h b (place o y 1) 1 [.slice (gt hs y).a (gt hs y).n (gt hs y).c]:=by
 obtain⟨b',o',e,_,w⟩:=t.hd.at y0 y1;cases e;exact rd_ok hA (w 0 1 (by omega) (by omega))
