import Derived.Test.YtdpbiegfljmhmaaSmU
import Derived.Test.YtdpbiegfljmhmaaSmV
import Derived.Test.YtdpbiegfljmhmaaSmQ
import Derived.Test.YtdpbiegfljmhmaaDetD
set_option linter.unusedSimpArgs false
set_option linter.unusedVariables false
namespace Go.Proofs.Ytdpbiegfljmhmaa
open Go.Sim
set_option maxRecDepth 100000
structure Bld(h:AHeap)(es b n c:Nat)(cells:List Value):Prop where
 own:Own h b es cells
 lt:b<h.next
 len:cells.length=n*es
 cap:c=n\/c=someCap es n
theorem Bld.ext{h h':AHeap}{es b n c:Nat}{cells:List Value}(p:Bld h es b n c cells)(e:Ext h h'):Bld h' es b n c cells:=⟨p.own.ext e p.lt,Nat.lt_of_lt_of_le p.lt e.next,p.len,p.cap⟩
theorem Bld.cells{h:AHeap}{es b n c:Nat}{cells:List Value}(p:Bld h es b n c cells):Cells h (some ⟨b,0,none⟩) n es cells:=⟨rfl,p.lt,by rw[p.own.readG (by have:=p.len;omega)];simp[<-p.len]⟩
theorem append_fullC{P:Program}{t t2 e es:Nat}(hT:SliceT P t e es)(ht2:P.underlying t2=some (.slice e)){h:AHeap}{b n n2 c2:Nat}{a2:Option Addr}{cells news:List Value}(ho:Own h b es cells)(hb:b<h.next)(hl:cells.length=n*es)(hn:n<=1000)(hs:Cells h a2 n2 es news)(hok:cells.all cellOK=true)(hok2:news.all cellOK=true)(h0:0<n2)(hbig:n2<=1000000) :
  appendH P h [t,t2] [.slice (some ⟨b,0,none⟩) n n,.slice a2 n2 c2]=some (.slice (some ⟨h.next,0,none⟩) (n+n2) (someCap es (n+n2)),h.push es (cells++news)):=by
 obtain⟨by_,hby,hby2⟩:=hT.bytes;obtain⟨z,hz,hz2⟩:=hT.zero;have hnl:=hs.length;have hnews:newsA P h e es false (.slice a2 n2 c2)=some (n2,news):=(Feed.of (P:=P) (e:=e) c2 hs).1;have hcl:capLow n=n:=Nat.mod_eq_of_lt (by unfold slack;omega);unfold appendH;simp only[hT.und,hT.size,hby,ht2,hz,isIntDesc,hnews];rw[hcl,ble_false (by omega)];simp only[cond_false];rw[ble_true (show n+n2<=1073741824 by omega),ble_true hby2,hok2,hz2,hnl];simp only[Bool.and_self,Nat.beq_refl,cond_true];have hr:h.readG ⟨b,0,none⟩ (n*es)=some cells:=by rw[ho.readG (by omega)];simp[<-hl]
 simp only[hr];rw[blt_true (show n<slack by unfold slack;omega),hok];simp only[cond_true]
theorem append_bld{P:Program}{t t2 e es:Nat}(hT:SliceT P t e es)(ht2:P.underlying t2=some (.slice e)){h:AHeap}{b n c n2 c2:Nat}{a2:Option Addr}{cells news:List Value}(hp:Bld h es b n c cells)(hn:n<=1000)(hs:Cells h a2 n2 es news)(hok:cells.all cellOK=true)(hok2:news.all cellOK=true)(hbig:n2<=100000) :
  ∃b' c' h',appendH P h [t,t2] [.slice (some ⟨b,0,none⟩) n c,.slice a2 n2 c2]=some (.slice (some ⟨b',0,none⟩) (n+n2) c',h')/\Bld h' es b' (n+n2) c' (cells++news)/\h.next<=h'.next/\(b'=b\/h.next<=b')/\(∀j,j<h.next->j≠b->h'.m.get j=h.m.get j)/\(∀h0,Ext h0 h->h0.next<=b->Ext h0 h'/\h0.next<=b'):=by
 have hnl:=hs.length;rcases hp.cap with e|e
 ·subst e
  by_cases h2:n2=0
  ·subst h2
   have en:news=[]:=by simpa using hnl
   subst en;obtain⟨by_,hby,hby2⟩:=hT.bytes;obtain⟨z,hz,hz2⟩:=hT.zero;have hnews:newsA P h e es false (.slice a2 0 c2)=some (0,[]):=(Feed.of (P:=P) (e:=e) c2 hs).1;have hcl:capLow c=c:=Nat.mod_eq_of_lt (by unfold slack;omega);obtain⟨h',hw,ho',hw2⟩:=hp.own.write (o:=c*es) (vs:=[]) (by simp[hp.len]);have hwg:h.writeG (aadd ⟨b,0,none⟩ (c*es)) []=some h':=by
    unfold AHeap.writeG aadd;simp only[List.all_nil,cond_true,Nat.zero_add];exact hw
   refine⟨b,c,h',?_,⟨?_,by rw[hw2.next];exact hp.lt,by simpa using hp.len,.inl rfl⟩,by rw[hw2.next];exact Nat.le_refl _,.inl rfl,fun j _ j1=>hw2.get j j1,fun h0 e0 hb0=>⟨hw2.ext e0 hb0,hb0⟩⟩
   ·unfold appendH
    simp only[hT.und,hT.size,hby,ht2,hz,isIntDesc,hnews];rw[hcl,ble_true (show c+0<=c by omega)];simp only[cond_true,hwg]
   ·have:List.take (c*es) cells++([]++List.drop (c*es+([]:List Value).length) cells)=cells++[]:=by
     simp[<-hp.len]
    rw[this]at ho';exact ho'
  ·have:=append_fullC hT ht2 (c2:=c2) hp.own hp.lt hp.len hn hs hok hok2 (by omega) (by omega)
   refine⟨_,_,_,this,⟨Own.push _ _ _,by simp[AHeap.push],by rw[List.length_append,hp.len,hnl,Nat.add_mul],.inr rfl⟩,(Ext.push _ _ _).next,.inr (Nat.le_refl _),fun j j0 _=>(Ext.push _ _ _).get j j0,fun h0 e0 hb0=>⟨e0.trans (.push _ _ _),e0.next⟩⟩
 ·obtain⟨b',c',h',h1,⟨o1,o2,o3,o4⟩,h3,h4,h5,h6⟩:=append_any3 hT ht2 (c2:=c2) (show Own2 h es b n c cells from⟨hp.own,hp.lt,hp.len,.inr e⟩) (Feed.of c2 hs) hok hok2 (by omega)
  exact⟨b',c',h',h1,⟨o1,o2,o3,by rcases o4 with ⟨q1,q2⟩|q;left;omega;exact .inr q⟩,h3,h4,h5,h6⟩
variable{F:Prims}{call head arith cmp scmp bnot bsame conv neg imax imin ofNat slen place inR nz geZ rd wr push next mkOK nat zeros sadd eqAgg cut slc sslc strAt part app cpy putAt fresh lowered bump wrote addN lt ne fpAll fpApp brk yn rng mget mput mnew bytes clr:_}(hA:AP F ⟨call,head,arith,cmp,scmp,bnot,bsame,conv,neg,imax,imin,ofNat,slen,place,inR,nz,geZ,rd,wr,push,next,mkOK,nat,zeros,sadd,eqAgg,cut,slc,sslc,strAt,part,app,cpy,putAt,fresh,lowered,bump,wrote,addN,lt,ne,fpAll,fpApp,brk,yn,rng,mget,mput,mnew,bytes,clr⟩)
include hA
theorem appB_ok{t e es:Nat}(hT:SliceT Try.prog t e es){h:AHeap}{b n c n2 c2:Nat}{a2:Option Addr}{cells news:List Value}(hp:Bld h es b n c cells)(hn:n<=1000)(hs:Cells h a2 n2 es news)(hok:cells.all cellOK=true)(hok2:news.all cellOK=true)(hbig:n2<=100000){C:Option Addr->Nat->Nat->AHeap->Prop}
  (hC:∀b' c' h',Bld h' es b' (n+n2) c' (cells++news)->h.next<=h'.next->(b'=b\/h.next<=b')->(∀j,j<h.next->j≠b->h'.m.get j=h.m.get j)->(∀h0,Ext h0 h->h0.next<=b->Ext h0 h'/\h0.next<=b')->C (some ⟨b',0,none⟩) (n+n2) c' h') :
  app [t,t] [.slice (some ⟨b,0,none⟩) n c,.slice a2 n2 c2] h C:=by
 rw[e_app hA];obtain⟨b',c',h',h1,h2,h3,h4,h5,h6⟩:=append_bld hT hT.und (c2:=c2) hp hn hs hok hok2 hbig;exact⟨_,_,_,h',h1,hC b' c' h' h2 h3 h4 h5 h6⟩
theorem appB1_ok{h X:AHeap}{b n c nb:Nat}{l:List Int}{v:Int}(hp:Bld h 1 b n c (l.flatMap nC))(hn:n<=1000)(eX:X=push h 1 [.int .i64 v])(enb:nb=next h){C:Option Addr->Nat->Nat->AHeap->Prop}
  (hC:∀b' c' h',Bld h' 1 b' (n+1) c' ((l++[v]).flatMap nC)->(∀h0,Ext h0 h->h0.next<=b->Ext h0 h'/\h0.next<=b')->(∀j,j<h.next->j≠b->h'.m.get j=h.m.get j)->h.next<=h'.next->C (some ⟨b',0,none⟩) (n+1) c' h') :
  app [27,27] [.slice (some ⟨b,0,none⟩) n c,.slice (some ⟨nb,0,none⟩) 1 1] X C:=by
 rw[e_push hA]at eX;rw[e_next hA]at enb;subst eX enb;have xp:Ext h (h.push 1 [.int .i64 v]):=Ext.push h 1 _;have hs:Cells (h.push 1 [.int .i64 v]) (some ⟨h.next,0,none⟩) 1 1 [.int .i64 v]:=⟨rfl,by simp[AHeap.push],(Own.push h 1 [.int .i64 v]).readG (o:=0) (n:=1*1) (by show 0+1*1<=1;omega)⟩;have hlt:=hp.lt;have nx:(h.push 1 [.int .i64 v]).next=h.next+1:=rfl;refine appB_ok hA TI1 (hp.ext xp) hn hs (all_flat nC_ok l) rfl (by omega) (fun b' c' h' k1 k2 k3 k4 k5=>hC b' c' h' ?_ (fun h0 e0 hb=>k5 h0 (e0.trans xp) hb) (fun j j0 j1=>(k4 j (by omega) j1).trans (xp.get j j0)) (by omega));rw[List.flatMap_append];exact k1
end Go.Proofs.Ytdpbiegfljmhmaa
namespace Go.Proofs.Ytdpbiegfljmhmaa
open Go.Sim
set_option maxRecDepth 100000
theorem Rows.lt{α:Type}{enc:α->List Value}{es:Nat}{h:AHeap}{a:Option Addr}{n:Nat}{l:List α}(p:Rows enc es h a n l):∀ad,a=some ad->ad.block<h.next:=fun ad had=>by
 subst had;exact p.cells.2.1
theorem Rows.keep{α:Type}{enc:α->List Value}{es:Nat}{h h':AHeap}{a:Option Addr}{n:Nat}{l:List α}(p:Rows enc es h a n l)(hn:h.next<=h'.next)(hk:∀ad,a=some ad->h'.m.get ad.block=h.m.get ad.block):Rows enc es h' a n l:=by
 refine⟨?_,p.each,p.pos⟩;cases a with
 |none=>exact p.cells
 |some ad=>
  obtain⟨h1,h2,h3⟩:=p.cells;refine⟨h1,Nat.lt_of_lt_of_le h2 hn,?_⟩;unfold AHeap.readG AHeap.cells? at h3 ⊢;rw[hk ad rfl];exact h3
def capOK(k:Hd):Prop:=0<k.n->k.c=k.n\/k.c=someCap 1 k.n
structure LLs(h0 h:AHeap)(a:Option Addr)(N:Nat)(hd:List Hd)(g:List (List Int)):Prop where
 ext:Ext h0 h
 gr:GrR nC 1 h a N hd g
 cap:∀y:Int,0<=y->y<N->capOK (gt hd y)
 fr:From h0.next a
 rfr:∀y:Int,0<=y->y<N->From h0.next (gt hd y).a
theorem LLs.more{h0 h h':AHeap}{a:Option Addr}{N:Nat}{hd:List Hd}{g:List (List Int)}(t:LLs h0 h a N hd g)(e:Ext h h'):LLs h0 h' a N hd g:=⟨t.ext.trans e,t.gr.ext e,t.cap,t.fr,t.rfr⟩
theorem LLs.keep{h0 h h':AHeap}{a:Option Addr}{N:Nat}{hd:List Hd}{g:List (List Int)}(t:LLs h0 h a N hd g)(e:Ext h0 h')(hn:h.next<=h'.next)(k1:∀ad,a=some ad->h'.m.get ad.block=h.m.get ad.block)(k2:∀y:Int,0<=y->y<N->∀ad,(gt hd y).a=some ad->h'.m.get ad.block=h.m.get ad.block):LLs h0 h' a N hd g:=
 ⟨e,⟨t.gr.hd.keep hn k1,t.gr.len,fun y y0 y1=>(t.gr.row y y0 y1).keep hn (k2 y y0 y1)⟩,t.cap,t.fr,t.rfr⟩
theorem LLs.back{h0 h1 h:AHeap}{a:Option Addr}{N:Nat}{hd:List Hd}{g:List (List Int)}(t:LLs h1 h a N hd g)(e:Ext h0 h1):LLs h0 h a N hd g:=
 ⟨e.trans t.ext,t.gr,t.cap,fun ad had=>Nat.le_trans e.next (t.fr ad had),fun y y0 y1 ad had=>Nat.le_trans e.next (t.rfr y y0 y1 ad had)⟩
structure LLo(h0 h:AHeap)(a:Option Addr)(N c:Nat)(hd:List Hd)(g:List (List Int)):Prop where
 s:LLs h0 h a N hd g
 apd:Apd h 1 a N c (hd.flatMap Hd.cells)
 sep:∀ad,a=some ad->∀y:Int,0<=y->y<N->∀bd,(gt hd y).a=some bd->bd.block≠ad.block
theorem LLo.more{h0 h h':AHeap}{a:Option Addr}{N c:Nat}{hd:List Hd}{g:List (List Int)}(t:LLo h0 h a N c hd g)(e:Ext h h'):LLo h0 h' a N c hd g:=⟨t.s.more e,t.apd.ext e,t.sep⟩
theorem LLo.nil(h:AHeap):LLo h h none 0 0 [] []:=
 ⟨⟨.refl h,⟨Rows.nil h hd_len (by omega),rfl,fun y y0 y1=>by omega⟩,fun y y0 y1=>by omega,.none _,fun y y0 y1=>by omega⟩,.nil _ _,fun ad had=>by cases had⟩
theorem gt_last{α:Type}[Inhabited α](l:List α)(x:α){i:Int}(i0:0<=i)(hi:i<=l.length):gt (l++[x]) i=if i<l.length then gt l i else x:=by
 unfold gt;rw[List.getD_eq_getElem?_getD,List.getD_eq_getElem?_getD];by_cases c:i<l.length
 ·rw[if_pos c,List.getElem?_append_left (by omega)]
 ·rw[if_neg c,show i.toNat=l.length by omega,List.getElem?_concat_length];rfl
theorem LLo.add{h0 h h':AHeap}{a:Option Addr}{N c b':Nat}{hd:List Hd}{g:List (List Int)}(t:LLo h0 h a N c hd g){k:Hd}{r:List Int}(row:Rows nC 1 h k.a k.n r)(ck:capOK k)(fk:From h0.next k.a)(sk:∀ad,a=some ad->∀bd,k.a=some bd->bd.block≠ad.block)
  (a':Apd h' 1 (some ⟨b',0,none⟩) (N+1) (someCap 1 (N+1)) ((hd++[k]).flatMap Hd.cells)) (xe:Ext h0 h') (n':h.next<h'.next) (nb':h.next<b') (k':∀i,i<h.next->(∀ad,a=some ad->ad.block≠i)->h'.m.get i=h.m.get i) :
  LLo h0 h' (some ⟨b',0,none⟩) (N+1) (someCap 1 (N+1)) (hd++[k]) (g++[r]):=by
 have hl:hd.length=N:=t.s.gr.hd.len;have gl:=t.s.gr.len;have hn0:=t.s.ext.next;have eh:∀y:Int,0<=y->y<((N+1:Nat):Int)->gt (hd++[k]) y=if y<N then gt hd y else k:=fun y y0 y1=>by
  rw[gt_last hd k y0 (by omega),hl]
 have eg:∀y:Int,0<=y->y<((N+1:Nat):Int)->gt (g++[r]) y=if y<N then gt g y else r:=fun y y0 y1=>by
  rw[gt_last g r y0 (by omega),gl]
 refine⟨⟨xe,⟨⟨a'.cells,hd_len,by omega⟩,by simp[gl],fun y y0 y1=>?_⟩,fun y y0 y1=>?_,fun ad had=>by cases had;show h0.next<=b';omega,fun y y0 y1=>?_⟩,a',fun ad had y y0 y1 bd hbd=>?_⟩
 ·rw[eh y y0 y1,eg y y0 y1]
  by_cases c:y<N
  ·rw[if_pos c,if_pos c]
   have q:=t.s.gr.row y y0 c;exact q.keep (Nat.le_of_lt n') (fun bd hbd=>k' _ (q.lt bd hbd) (fun ad had=>(t.sep ad had y y0 c bd hbd).symm))
  ·rw[if_neg c,if_neg c]
   exact row.keep (Nat.le_of_lt n') (fun bd hbd=>k' _ (row.lt bd hbd) (fun ad had=>(sk ad had bd hbd).symm))
 ·rw[eh y y0 y1]
  by_cases c:y<N
  ·rw[if_pos c];exact t.s.cap y y0 c
  ·rw[if_neg c];exact ck
 ·rw[eh y y0 y1]
  by_cases c:y<N
  ·rw[if_pos c];exact t.s.rfr y y0 c
  ·rw[if_neg c];exact fk
 ·cases had
  rw[eh y y0 y1]at hbd;show bd.block≠b';by_cases c:y<N
  ·rw[if_pos c]at hbd;have:=(t.s.gr.row y y0 c).lt bd hbd;omega
  ·rw[if_neg c]at hbd;have:=row.lt bd hbd;omega
variable{F:Prims}{call head arith cmp scmp bnot bsame conv neg imax imin ofNat slen place inR nz geZ rd wr push next mkOK nat zeros sadd eqAgg cut slc sslc strAt part app cpy putAt fresh lowered bump wrote addN lt ne fpAll fpApp brk yn rng mget mput mnew bytes clr:_}(hA:AP F ⟨call,head,arith,cmp,scmp,bnot,bsame,conv,neg,imax,imin,ofNat,slen,place,inR,nz,geZ,rd,wr,push,next,mkOK,nat,zeros,sadd,eqAgg,cut,slc,sslc,strAt,part,app,cpy,putAt,fresh,lowered,bump,wrote,addN,lt,ne,fpAll,fpApp,brk,yn,rng,mget,mput,mnew,bytes,clr⟩)
include hA
theorem ch_in{h0:AHeap}(hl0:h0.low<=h0.next){L:Nat}{la:Option Addr}{lc:Nat}{lh:List Hd}{l:List (List Int)}{I NI KI LI:Int}(eL:LI=L){base:List (List Int)}(hb:base.length+L<=2000)(lw:∀y:Int,0<=y->y<L->(gt l y).length<=100){Q:Exit->SS->Prop}
  (hQ:∀(h':AHeap) a N c hd,LLo h0 h' a N c hd (base++l.map (fun r=>I :: r))->Q (.exit 2) ⟨[(1,.int .i64 NI),(2,.int .i64 KI),(7,.slice a N c),(8,.int .i64 I)],0,[],h'⟩) :
  ∀(d j:Nat) (J:Int) (h:AHeap) (a:Option Addr) (N c:Nat) (hd:List Hd),L-j<=d->j<=L->J=j->LLs h0 h la L lh l->(∀ad,a=some ad->(∀bd,la=some bd->bd.block≠ad.block)/\∀y:Int,0<=y->y<L->∀bd,(gt lh y).a=some bd->bd.block≠ad.block)->LLo h0 h a N c hd (base++(l.take j).map (fun r=>I :: r))->
   head 82 9 0 ⟨[(1,.int .i64 NI),(2,.int .i64 KI),(7,.slice a N c),(8,.int .i64 I),(9,.slice la L lc),(10,.int .i64 J)],0,[],h⟩ Q:=by
 intro d;have e0:ofNat L=LI:=by rw[eL];exact e_ofNat hA L
 induction d with
 |zero=>
  intro j J h a N c hd hd' hj eJ ls sl t;refine hA.roundR Try.func82 r82_ok (zc ?_)
  (refine zq ?_;repeat ((first|rw[e0]);refine zq ?_))
  refine br (J<LI) (by rw[e_lss hA]) (fun q=>by omega) (fun _=>?_)<;>refine zc ?_;refine hQ h a N c hd ?_;rw[List.take_of_length_le (by have:=ls.gr.len;omega)]at t;exact t
 |succ d ih=>
 intro j J h a N c hd hd' hj eJ ls sl t;by_cases cj:j<L
 rotate_left
 ·refine hA.roundR Try.func82 r82_ok (zc ?_)
  (refine zq ?_;repeat ((first|rw[e0]);refine zq ?_))
  refine br (J<LI) (by rw[e_lss hA]) (fun q=>by omega) (fun _=>?_)<;>refine zc ?_;refine hQ h a N c hd ?_;rw[List.take_of_length_le (by have:=ls.gr.len;omega)]at t;exact t
 obtain⟨nb,enb⟩:∃z,z=next h:=⟨_,rfl⟩;obtain⟨X,eX⟩:∃z,z=push h 1 [.int .i64 I]:=⟨_,rfl⟩;have eX':=eX;have enb':=enb;rw[e_push hA]at eX';rw[e_next hA]at enb';have xX:Ext h X:=by rw[eX'];exact Ext.push h 1 _
 have nX:X.next=h.next+1:=by rw[eX'];rfl
 have BX:Bld X 1 nb 1 1 ([I].flatMap nC):=by
  rw[eX',enb'];exact⟨Own.push h 1 _,by simp[AHeap.push],rfl,.inl rfl⟩
 have lsX:=ls.more xX;obtain⟨lb,lo,eal,hlb,q1⟩:=lsX.gr.hdAt (i:=J) (by omega) (by omega);obtain⟨ra,era⟩:∃z,z=(gt lh J).a:=⟨_,rfl⟩;obtain⟨rn,ern⟩:∃z,z=(gt lh J).n:=⟨_,rfl⟩;obtain⟨rc,erc⟩:∃z,z=(gt lh J).c:=⟨_,rfl⟩;have row:=lsX.gr.row J (by omega) (by omega);rw[<-era,<-ern]at row;rw[<-era,<-ern,<-erc]at q1;have rl:=row.len;have rb:=lw J (by omega) (by omega);cases la with
 |none=>cases eal
 |some lad=>
 cases eal;have r1:rd X lb (place lo J 1) 1 [.slice ra rn rc]:=rd_ok hA q1;refine hA.roundR Try.func82 r82_ok (zc ?_)
 (refine zq ?_;repeat ((first|rw[e0]);refine zq ?_))
 refine br (J<LI) (by rw[e_lss hA]) (fun _=>?_) (fun q=>by omega)<;>refine zc ?_;refine zc ?_;rw[<-enb,<-eX];refine zq ?_;refine appB_ok hA TI1 (c2:=rc) BX (by omega) row.cells rfl (all_flat nC_ok _) (by omega) (fun b1 c1 h1 B1 n1 w1 g1 x1=>?_);obtain⟨w,ew⟩:∃z,z=1+rn:=⟨_,rfl⟩;rw[<-ew]at B1 ⊢;obtain⟨xh,hb1⟩:=x1 h xX (by omega);have t1:=t.more xh;have ls1:=ls.more xh;have hN:N=(base++(l.take j).map (fun r=>I :: r)).length:=t.s.gr.len.symm;have hN2:N<=2000:=by
  rw[hN,List.length_append,List.length_map,List.length_take];have:=Nat.min_le_left j l.length;omega
 have rowB:Rows nC 1 h1 (some ⟨b1,0,none⟩) w (I :: gt l J):=⟨B1.cells,nC_len,by omega⟩;have al:∀ad,a=some ad->ad.block<h.next:=fun ad had=>t.apd.lt ad had
 have hn0:=t.s.ext.next;refine zq ?_;refine appK_ok hA TLL hd_len (by omega) hd_ok (v:=(⟨some ⟨b1,0,none⟩,w,c1⟩:Hd)) t1.apd (by omega) (fun b' h' a' x' n' nb' k'=>?_);have t2:=t1.add (k:=⟨some ⟨b1,0,none⟩,w,c1⟩) rowB (fun _=>B1.cap) (fun ad had=>by cases had;show h0.next<=b1;omega) (fun ad had bd hbd=>by cases hbd;have:=al ad had;show b1≠_;omega) a' (x' h0 t1.s.ext t.s.fr) n' nb' k';have et:base++(l.take j).map (fun r=>I :: r)++[I :: gt l J]=base++(l.take (j+1)).map (fun r=>I :: r):=by
  have hjl:j<l.length:=by have:=ls.gr.len;omega
  rw[List.take_succ_eq_append_getElem hjl,List.map_append,List.append_assoc]
  congr 2
  unfold gt;rw[show J.toNat=j by omega,List.getD_eq_getElem?_getD,List.getElem?_eq_getElem hjl];rfl
 rw[et]at t2;have ls2:LLs h0 h' (some ⟨lb,lo,none⟩) L lh l:=
  ls1.keep t2.s.ext (Nat.le_of_lt n') (fun bd hbd=>k' _ (ls1.gr.hd.lt bd hbd) (fun ad had=>((sl ad had).1 bd hbd).symm)) (fun y y0 y1 bd hbd=>k' _ ((ls1.gr.row y y0 y1).lt bd hbd) (fun ad had=>((sl ad had).2 y y0 y1 bd hbd).symm))
 generalize someCap 1 (N+1)=cc at *;obtain⟨N1,eN1⟩:∃z,z=N+1:=⟨_,rfl⟩;rw[<-eN1]at t2 ⊢;refine zq ?_;rw[add64 hA (by omega) (by omega)];refine ih (j+1) (J+1) h' (some ⟨b',0,none⟩) N1 cc _ (by omega) (by omega) (by omega) ls2 (fun ad had=>?_) t2;cases had;exact⟨fun bd hbd=>by have:=ls1.gr.hd.lt bd hbd;show bd.block≠b';omega,fun y y0 y1 bd hbd=>by have:=(ls1.gr.row y y0 y1).lt bd hbd;show bd.block≠b';omega⟩
