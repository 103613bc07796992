import Derived.Test.YtmkiclinllifiaaSortH
import Derived.Test.YtmkiclinllifiaaFracA
import Derived.Test.YtmkiclinllifiaaSymFacts
import Derived.Test.YtmkiclinllifiaaSeatA
import Derived.Test.YtmkiclinllifiaaSeatB
import Derived.Test.YtmkiclinllifiaaSeatC
import Derived.Test.YtmkiclinllifiaaSeatD
import Derived.Test.YtmkiclinllifiaaSeatE
import Derived.Test.YtmkiclinllifiaaSeatF
import Derived.Test.YtmkiclinllifiaaSeatG
import Derived.KernelRfl
import Derived.Test.YtmkiclinllifiaaCxA
set_option linter.unusedSimpArgs false
set_option linter.unusedVariables false
namespace Go.Proofs.Ytmkiclinllifiaa
open Go.Sim
theorem ext_bumpPut(h:AHeap)(n:Nat){b:Nat}(hb:h.next<=b)(es:Nat)(cs:List Value):Ext h ((h.bump n).putAt b es cs):=
 ⟨by simp[AHeap.bump,AHeap.putAt],fun l=>by simp only[AHeap.bump,AHeap.putAt];omega,by simp only[AHeap.bump,AHeap.putAt];exact Nat.min_le_left _ _,fun i hi=>by
  simp only[AHeap.bump,AHeap.putAt];rw[Tri.get_set_ne _ _ (by omega)]⟩
theorem all_flat{α:Type}{enc:α->List Value}(hok:∀x,(enc x).all cellOK=true)(l:List α):(l.flatMap enc).all cellOK=true:=by
 rw[List.all_flatMap];simp only[hok,List.all_eq_true,implies_true]
variable{F:Prims}{call head arith cmp scmp bnot bsame conv neg imax imin ofNat slen place inR nz geZ rd wr push next mkOK nat zeros sadd eqAgg cut slc sslc strAt part app cpy putAt fresh lowered bump wrote addN lt ne fpAll fpApp brk yn rng mget mput mnew bytes clr mrng ment:_}(hA:AP F ⟨call,head,arith,cmp,scmp,bnot,bsame,conv,neg,imax,imin,ofNat,slen,place,inR,nz,geZ,rd,wr,push,next,mkOK,nat,zeros,sadd,eqAgg,cut,slc,sslc,strAt,part,app,cpy,putAt,fresh,lowered,bump,wrote,addN,lt,ne,fpAll,fpApp,brk,yn,rng,mget,mput,mnew,bytes,clr,mrng,ment⟩)
include hA
theorem app_ok{ts:List TypeId}{l:List Value}{h:AHeap}{C:Option Addr->Nat->Nat->AHeap->Prop}{a:Option Addr}{n c:Nat}{h':AHeap}(h1:appendH Try.prog h ts l=some (.slice a n c,h'))(h2:C a n c h'):app ts l h C:=by
 rw[e_app hA];exact⟨a,n,c,h',h1,h2⟩
theorem appR_ok{t e es:Nat}(hT:SliceT Try.prog t e es){α:Type}{enc:α->List Value}(he:∀x,(enc x).length=es)(hp0:0<es)(hok:∀x,(enc x).all cellOK=true){h:AHeap}{a:Option Addr}{n c:Nat}{l:List α}{v:α}(hp:Apd h es a n c (l.flatMap enc))(hn:n<=100000){C:Option Addr->Nat->Nat->AHeap->Prop}
  (hC:∀a' c' h',Apd h' es a' (n+1) c' ((l++[v]).flatMap enc)->(∀h0,Ext h0 h->From h0.next a->Ext h0 h'/\From h0.next a')->C a' (n+1) c' h') :
  app [t,t] [.slice a n c,.slice (some ⟨next h,0,none⟩) 1 1] (push h es (enc v)) C:=by
 rw[e_app hA,e_push hA,e_next hA];have hs:Cells (h.push es (enc v)) (some ⟨h.next,0,none⟩) 1 es (enc v):=⟨rfl,by simp[AHeap.push],by rw[(Own.push h es _).readG (by rw[he];omega),List.drop_zero,List.take_of_length_le (by rw[he];omega)]⟩;have hall:(l.flatMap enc).all cellOK=true:=by
  rw[List.all_flatMap];simp only[hok,List.all_eq_true,implies_true]
 obtain⟨a',c',h',h1,h2,h3⟩:=append_ok hT hT.und (c2:=1) (hp.ext (.push h es (enc v))) hs hall (hok v) (by omega) (by omega);refine⟨a',n+1,c',h',h1,hC a' c' h' (by simpa using h2) (fun h0 e0 f0=>h3 h0 (e0.trans (.push _ _ _)) f0)⟩
end Go.Proofs.Ytmkiclinllifiaa
namespace Go.Proofs.Ytmkiclinllifiaa
open Go.Sim
set_option maxRecDepth 100000
def hdr(es n b:Nat):Value:=.slice (some ⟨b,0,none⟩) n (someCap es n)
variable{F:Prims}{call head arith cmp scmp bnot bsame conv neg imax imin ofNat slen place inR nz geZ rd wr push next mkOK nat zeros sadd eqAgg cut slc sslc strAt part app cpy putAt fresh lowered bump wrote addN lt ne fpAll fpApp brk yn rng mget mput mnew bytes clr mrng ment:_}(hA:AP F ⟨call,head,arith,cmp,scmp,bnot,bsame,conv,neg,imax,imin,ofNat,slen,place,inR,nz,geZ,rd,wr,push,next,mkOK,nat,zeros,sadd,eqAgg,cut,slc,sslc,strAt,part,app,cpy,putAt,fresh,lowered,bump,wrote,addN,lt,ne,fpAll,fpApp,brk,yn,rng,mget,mput,mnew,bytes,clr,mrng,ment⟩)
include hA
theorem appK_ok{t e es:Nat}(hT:SliceT Try.prog t e es){α:Type}{enc:α->List Value}(he:∀x,(enc x).length=es)(hp0:0<es)(hok:∀x,(enc x).all cellOK=true){h:AHeap}{a:Option Addr}{n c:Nat}{l:List α}{v:α}(hp:Apd h es a n c (l.flatMap enc))(hn:n<=100000){C:Option Addr->Nat->Nat->AHeap->Prop}
  (hC:∀b' h',Apd h' es (some ⟨b',0,none⟩) (n+1) (someCap es (n+1)) ((l++[v]).flatMap enc)->(∀h0,Ext h0 h->From h0.next a->Ext h0 h')->h.next<h'.next->h.next<b'->(∀i,i<h.next->(∀ad,a=some ad->ad.block≠i)->h'.m.get i=h.m.get i)->C (some ⟨b',0,none⟩) (n+1) (someCap es (n+1)) h') :
  app [t,t] [.slice a n c,.slice (some ⟨next h,0,none⟩) 1 1] (push h es (enc v)) C:=by
 rw[e_app hA,e_push hA,e_next hA];have hs:Cells (h.push es (enc v)) (some ⟨h.next,0,none⟩) 1 es (enc v):=⟨rfl,by simp[AHeap.push],by rw[(Own.push h es _).readG (by rw[he];omega),List.drop_zero,List.take_of_length_le (by rw[he];omega)]⟩;obtain⟨a',c',h',h1,h2,h3,h4,h5,h6⟩:=append_keep hT hT.und (c2:=1) (hp.ext (.push h es (enc v))) hs (all_flat hok l) (hok v) (by omega) (by omega);rcases h2 with ⟨_,w,_⟩|⟨b',rfl,rfl,w1,w2,w3⟩
 ·omega
 have nx:(h.push es (enc v)).next=h.next+1:=rfl;refine⟨_,n+1,_,h',h1,hC b' h' (.inr ⟨b',rfl,rfl,w1,by rw[flatE_len he];simp only[List.length_append,List.length_cons,List.length_nil];have:=hp.cells.length;rw[flatE_len he]at this;rw[Nat.eq_of_mul_eq_mul_right hp0 this],?_⟩) (fun h0 e0 f0=>(h3 h0 (e0.trans (.push _ _ _)) f0).1) (by omega) (by have:=h5 _ rfl;simp only at this;omega) (fun i hi ha=>?_)⟩
 ·simpa using w3
 ·rw[h6 i (by omega) ha]
  exact(Ext.push h es (enc v)).get i hi
end Go.Proofs.Ytmkiclinllifiaa
namespace Go.Proofs.Ytmkiclinllifiaa
open Go.Sim
set_option maxRecDepth 100000
structure Hd where
 a:Option Addr
 n:Nat
 c:Nat
 deriving Inhabited
def Hd.cells(k:Hd):List Value:=[.slice k.a k.n k.c]
theorem hd_len(k:Hd):k.cells.length=1:=rfl
theorem hd_ok(k:Hd):k.cells.all cellOK=true:=rfl
structure GrR{α:Type}[Inhabited α](enc:α->List Value)(es:Nat)(h:AHeap)(a:Option Addr)(N:Nat)(hs:List Hd)(g:List (List α)):Prop where
 hd:Rows Hd.cells 1 h a N hs
 len:g.length=N
 row:∀y:Int,0<=y->y<N->Rows enc es h (gt hs y).a (gt hs y).n (gt g y)
theorem GrR.ext{α:Type}[Inhabited α]{enc:α->List Value}{es:Nat}{h h':AHeap}{a:Option Addr}{N:Nat}{hs:List Hd}{g:List (List α)}(t:GrR enc es h a N hs g)(e:Ext h h'):GrR enc es h' a N hs g:=⟨t.hd.ext e,t.len,fun y y0 y1=>(t.row y y0 y1).ext e⟩
theorem GrR.some{α:Type}[Inhabited α]{enc:α->List Value}{es:Nat}{h:AHeap}{a:Option Addr}{N:Nat}{hs:List Hd}{g:List (List α)}(t:GrR enc es h a N hs g)(hN:0<N):∃b o,a=Option.some ⟨b,o,none⟩/\b<h.next:=by
 obtain⟨b,o,e,l,_⟩:=t.hd.at (i:=0) (by omega) (by omega);exact⟨b,o,e,l⟩
variable{F:Prims}{call head arith cmp scmp bnot bsame conv neg imax imin ofNat slen place inR nz geZ rd wr push next mkOK nat zeros sadd eqAgg cut slc sslc strAt part app cpy putAt fresh lowered bump wrote addN lt ne fpAll fpApp brk yn rng mget mput mnew bytes clr mrng ment:_}(hA:AP F ⟨call,head,arith,cmp,scmp,bnot,bsame,conv,neg,imax,imin,ofNat,slen,place,inR,nz,geZ,rd,wr,push,next,mkOK,nat,zeros,sadd,eqAgg,cut,slc,sslc,strAt,part,app,cpy,putAt,fresh,lowered,bump,wrote,addN,lt,ne,fpAll,fpApp,brk,yn,rng,mget,mput,mnew,bytes,clr,mrng,ment⟩)
include hA
theorem gr_head{α:Type}[Inhabited α]{enc:α->List Value}{es:Nat}{h:AHeap}{b o N:Nat}{hs:List Hd}{g:List (List α)}(t:GrR enc es h (some ⟨b,o,none⟩) N hs g){y:Int}(y0:0<=y)(y1:y<N):rd h b (place o y 1) 1 [.slice (gt hs y).a (gt hs y).n (gt hs y).c]:=by
 obtain⟨b',o',e,_,w⟩:=t.hd.at y0 y1;cases e;exact rd_ok hA (w 0 1 (by omega) (by omega))
end Go.Proofs.Ytmkiclinllifiaa
namespace Go.Proofs.Ytmkiclinllifiaa
open Go.Sim
theorem append_full{P:Program}{t t2 e es:Nat}(hT:SliceT P t e es)(ht2:P.underlying t2=some (.slice e)){h:AHeap}{b n n2 c2:Nat}{a2:Option Addr}{cells news:List Value}(ho:Own h b es cells)(hb:b<h.next)(hl:cells.length=n*es)(hn:n<=1000)(hs:Cells h a2 n2 es news)(hok:cells.all cellOK=true)(hok2:news.all cellOK=true)(h0:0<n2)(hbig:n2<=1000000) :
  ∃c',appendH P h [t,t2] [.slice (some ⟨b,0,none⟩) n n,.slice a2 n2 c2]=some (.slice (some ⟨h.next,0,none⟩) (n+n2) c',h.push es (cells++news)):=by
 obtain⟨by_,hby,hby2⟩:=hT.bytes;obtain⟨z,hz,hz2⟩:=hT.zero;have hnl:=hs.length;have hnews:newsA P h e es false (.slice a2 n2 c2)=some (n2,news):=by
  unfold newsA;simp only[cond_false];cases a2 with
  |none=>obtain⟨rfl,rfl⟩:=hs;simp
  |some ad=>
   obtain⟨h1,h2,h3⟩:=hs;simp only[h3]
 have hcl:capLow n=n:=Nat.mod_eq_of_lt (by unfold slack;omega);unfold appendH;simp only[hT.und,hT.size,hby,ht2,hz,isIntDesc,hnews];rw[hcl,ble_false (by omega)];simp only[cond_false];rw[ble_true (show n+n2<=1073741824 by omega),ble_true hby2,hok2,hz2,hnl];simp only[Bool.and_self,Nat.beq_refl,cond_true];have hr:h.readG ⟨b,0,none⟩ (n*es)=some cells:=by rw[ho.readG (by omega)];simp[<-hl]
 simp only[hr];rw[blt_true (show n<slack by unfold slack;omega),hok];simp only[cond_true];exact⟨_,rfl⟩
variable{F:Prims}{call head arith cmp scmp bnot bsame conv neg imax imin ofNat slen place inR nz geZ rd wr push next mkOK nat zeros sadd eqAgg cut slc sslc strAt part app cpy putAt fresh lowered bump wrote addN lt ne fpAll fpApp brk yn rng mget mput mnew bytes clr mrng ment:_}(hA:AP F ⟨call,head,arith,cmp,scmp,bnot,bsame,conv,neg,imax,imin,ofNat,slen,place,inR,nz,geZ,rd,wr,push,next,mkOK,nat,zeros,sadd,eqAgg,cut,slc,sslc,strAt,part,app,cpy,putAt,fresh,lowered,bump,wrote,addN,lt,ne,fpAll,fpApp,brk,yn,rng,mget,mput,mnew,bytes,clr,mrng,ment⟩)
include hA
end Go.Proofs.Ytmkiclinllifiaa
namespace Go.Proofs.Ytmkiclinllifiaa
open Go.Sim
set_option maxRecDepth 100000
theorem guardC:Try.prog.eqGuardType Try.prog.depth 60=false:=by kernel_rfl
theorem eqC(a b c a' b' c':Int):∃r,eqA Try.prog 30 60 (.agg #[.int .i64 a,.int .i64 b,.int .i64 c]) (.agg #[.int .i64 a',.int .i64 b',.int .i64 c'])=some r/\(r=true↔a=a'/\b=b'/\c=c'):=by
 have h3:Try.prog.underlying 2=some (.int .i64):=by kernel_rfl
 have hst:Try.prog.stoodInHeld 60=false:=by kernel_rfl
 have i3:isAggB Try.prog 2=some false:=by kernel_rfl
 have e3:∀(n:Nat) (x y:Int),eqA Try.prog (n+1) 2 (.int .i64 x) (.int .i64 y)=some (x == y):=by
  intro n x y;unfold eqA;rw[h3];simp
 have key:eqA Try.prog (28+1+1) 60 (.agg #[.int .i64 a,.int .i64 b,.int .i64 c]) (.agg #[.int .i64 a',.int .i64 b',.int .i64 c'])=some ((a == a') && ((b == b') && (c == c'))):=by
  unfold eqA;rw[Try.underlying60];have e3':∀(x y:Int),eqA Try.prog 29 2 (.int .i64 x) (.int .i64 y)=some (x == y):=e3 28;simp only[hst,cond_false,List.foldr,partA,i3,List.getElem?_cons_zero,List.getElem?_cons_succ,e3',String.reduceEq,if_false];cases a == a'<;>cases b == b'<;>cases c == c'<;>rfl
 refine⟨_,key,?_⟩;simp only[Bool.and_eq_true,beq_iff_eq]
end Go.Proofs.Ytmkiclinllifiaa
namespace Go.Proofs.Ytmkiclinllifiaa
open Go.Sim
set_option maxRecDepth 100000
structure Ck where
 a:Int
 b:Int
 d:Int
instance:Inhabited Ck:=⟨⟨0,0,0⟩⟩
def Ck.cells(k:Ck):List Value:=[.int .i64 k.a,.int .i64 k.b,.int .i64 k.d]
def Ck.ok(k:Ck):Prop:=okC k.a k.b k.d
abbrev Cs(h:AHeap)(a:Option Addr)(n:Nat)(l:List Ck):Prop:=Rows Ck.cells 3 h a n l
theorem ck_len(k:Ck):k.cells.length=3:=rfl
theorem ck_ok(k:Ck):k.cells.all cellOK=true:=rfl
theorem cs_at{h:AHeap}{a:Option Addr}{n:Nat}{l:List Ck}(p:Cs h a n l){i:Int}(h0:0<=i)(hi:i<n) :
  ∃b o x y z,a=some ⟨b,o,none⟩/\b<h.next/\gt l i=⟨x,y,z⟩/\h.readG ⟨b,o+i.toNat*3,none⟩ 3=some [.int .i64 x,.int .i64 y,.int .i64 z]:=by
 obtain⟨b,o,h1,h2,h3⟩:=p.at h0 hi;exact⟨b,o,(gt l i).a,(gt l i).b,(gt l i).d,h1,h2,rfl,h3 0 3 (by omega) (by omega)⟩
theorem gt_extR{α:Type}[Inhabited α]{l l':List α}(h:l.length=l'.length)(k:∀j:Int,0<=j->j<l.length->gt l j=gt l' j):l=l':=by
 apply List.ext_getElem h;intro i h1 h2;have:=k i (by omega) (by omega);unfold gt at this;simpa[h1,h2]using this
variable{F:Prims}{call head arith cmp scmp bnot bsame conv neg imax imin ofNat slen place inR nz geZ rd wr push next mkOK nat zeros sadd eqAgg cut slc sslc strAt part app cpy putAt fresh lowered bump wrote addN lt ne fpAll fpApp brk yn rng mget mput mnew bytes clr mrng ment:_}(hA:AP F ⟨call,head,arith,cmp,scmp,bnot,bsame,conv,neg,imax,imin,ofNat,slen,place,inR,nz,geZ,rd,wr,push,next,mkOK,nat,zeros,sadd,eqAgg,cut,slc,sslc,strAt,part,app,cpy,putAt,fresh,lowered,bump,wrote,addN,lt,ne,fpAll,fpApp,brk,yn,rng,mget,mput,mnew,bytes,clr,mrng,ment⟩)
include hA
theorem rcgcd_loop{h0:AHeap}{Q:Exit->SS->Prop}:∀(m:Nat) (a b:Int) (h:AHeap),b.natAbs<=m->i63 a->i63 b->0<=a->0<=b->Ext h0 h->
  (∀a':Int,i63 a'->(a'.natAbs:Int)=Int.gcd a b->0<=a'->∀e kn K h',Ext h0 h'->Q (.exit 0) ⟨(0,.int .i64 a') :: e,kn,K,h'⟩)->head 60 2 0 ⟨[(0,.int .i64 a),(1,.int .i64 b)],0,[],h⟩ Q:=by
 intro m
 induction m with
 |zero=>
  intro a b h hm ha hb a0 b0 he hQ;have hb0:b=0:=by omega
  refine hA.roundR Try.func60 r60_ok (zc ?_);refine br (b≠0) (by rw[e_neq hA]) (fun c=>absurd hb0 c) (fun c=>?_)<;>refine zc ?_;exact hQ a ha (by rw[hb0];simp) a0 _ _ _ h he
 |succ m ih=>
  intro a b h hm ha hb a0 b0 he hQ;refine hA.roundR Try.func60 r60_ok (zc ?_);refine br (b≠0) (by rw[e_neq hA]) (fun c=>?_) (fun c=>?_)<;>refine zc ?_
  ·obtain⟨h9,hh9⟩:∃z,z=bump h 6:=⟨_,rfl⟩
   have e9:Ext h h9:=by rw[hh9,e_bump hA];exact .bump _ _
   rw[<-hh9];refine⟨nz_ok hA c,?_⟩;refine zc ?_;rw[rem_tmod hA];have l1:(a.tmod b).natAbs<b.natAbs:=by rw[Int.natAbs_tmod];exact Nat.mod_lt _ (by omega)
   unfold i63 at hb;refine ih b (a.tmod b) h9 (by omega) hb (by unfold i63;omega) b0 (Int.tmod_nonneg _ a0) (he.trans e9) (fun a' h1 h2=>hQ a' h1 ?_);rw[h2,gcd_tmod]
  ·have hb0:b=0:=by omega
   exact hQ a ha (by rw[hb0];simp) a0 _ _ _ h he
theorem rcgcd_ok{h:AHeap}(hlow:h.low<=h.next){a b:Int}(ha:i63 a)(hb:i63 b){Q:Value->AHeap->Prop}(hQ:∀g:Int,g=Int.gcd a b->∀h',Ext h h'->Q (.int .i64 g) h'):call 60 [.int .i64 a,.int .i64 b] h Q:=by
 refine hA.bodyR Try.func60 r60_ok (hA.alike _ _ _ rfl) hlow (zc ?_);rw[imax_abs hA ha,imax_abs hA hb];have ha':i63 (a.natAbs:Int):=by unfold i63 at *;omega
 have hb':i63 (b.natAbs:Int):=by unfold i63 at *;omega
 have e:Int.gcd (a.natAbs:Int) (b.natAbs:Int)=Int.gcd a b:=by unfold Int.gcd;rw[Int.natAbs_natCast,Int.natAbs_natCast]
 have a0:(0:Int)<=(a.natAbs:Int):=by omega
 have b0:(0:Int)<=(b.natAbs:Int):=by omega
 rw[<-e]at hQ;generalize (a.natAbs:Int)=x at *;generalize (b.natAbs:Int)=y at *;refine rcgcd_loop hA y.natAbs x y h (Nat.le_refl _) ha' hb' a0 b0 (.refl h) (fun a' h1 h2 h3 e kn K h' he=>?_);refine zc ?_;exact hQ _ (by omega) h' he
theorem rccheck_ok{h:AHeap}(hlow:h.low<=h.next){a b d:Int}{Q:Value->AHeap->Prop}
  (hQ:∀(e:Int) h',(e=0/\okC a b d)\/(e=8/\¬okC a b d)->Ext h h'->Q (.int .i64 e) h'):call 33 [.agg #[.int .i64 a,.int .i64 b,.int .i64 d]] h Q:=by
 have bad:¬(1<=d/\d<=1000000000/\-1000000000<=a/\a<=1000000000/\-1000000000<=b/\b<=1000000000/\Int.gcd (Int.gcd a b) d=1)->¬okC a b d:=fun w q=>w ((okC_iff a b d).1 q)
 obtain⟨h9,hh9⟩:∃z,z=bump h 39:=⟨_,rfl⟩;have e9:Ext h h9:=by rw[hh9];exact ext_bump hA _ _
 have l9:=e9.lowOK hlow;refine hA.bodyR Try.func33 r33_ok (hA.alike _ _ _ rfl) hlow (zc ?_);rw[<-hh9];refine br (d<1) (by rw[e_lss hA]) (fun c1=>?_) (fun c1=>?_)<;>refine zc ?_
 ·exact hQ _ _ (.inr ⟨rfl,bad (by omega)⟩) e9
 refine br (1000000000<d) (by rw[e_gtr hA]) (fun c2=>?_) (fun c2=>?_)<;>refine zc ?_
 ·exact hQ _ _ (.inr ⟨rfl,bad (by omega)⟩) e9
 refine br (a < -1000000000) (by rw[e_lss hA]) (fun c3=>?_) (fun c3=>?_)<;>refine zc ?_
 ·exact hQ _ _ (.inr ⟨rfl,bad (by omega)⟩) e9
 refine br (1000000000<a) (by rw[e_gtr hA]) (fun c4=>?_) (fun c4=>?_)<;>refine zc ?_
 ·exact hQ _ _ (.inr ⟨rfl,bad (by omega)⟩) e9
 refine br (b < -1000000000) (by rw[e_lss hA]) (fun c5=>?_) (fun c5=>?_)<;>refine zc ?_
 ·exact hQ _ _ (.inr ⟨rfl,bad (by omega)⟩) e9
 refine br (1000000000<b) (by rw[e_gtr hA]) (fun c6=>?_) (fun c6=>?_)<;>refine zc ?_
 ·exact hQ _ _ (.inr ⟨rfl,bad (by omega)⟩) e9
 refine rcgcd_ok hA (low_fresh hA h9) (by unfold i63;omega) (by unfold i63;omega) (fun g hg hz ez=>⟨_,rfl,?_⟩);obtain⟨hX,hhX⟩:∃z,z=lowered h9 hz:=⟨_,rfl⟩;have eX:Ext h hX:=by rw[hhX];exact ext_low hA hlow e9 ez
 have lX:=eX.lowOK hlow;refine zc ?_;rw[<-hhX];have g1:=gcd_i63 (a:=a) (b:=b) (by unfold i63;omega) (by unfold i63;omega);rw[<-hg]at g1;refine rcgcd_ok hA (low_fresh hA hX) g1 (by unfold i63;omega) (fun g' hg' hz' ez'=>⟨_,rfl,?_⟩);obtain⟨hY,hhY⟩:∃z,z=lowered hX hz':=⟨_,rfl⟩;have eY:Ext h hY:=by rw[hhY];exact ext_low hA hlow eX ez'
 refine zc ?_;rw[<-hhY];rw[hg]at hg';refine br (g'≠1) (by rw[e_neq hA]) (fun c5=>?_) (fun c5=>?_)<;>refine zc ?_
 ·exact hQ _ _ (.inr ⟨rfl,bad (by omega)⟩) eY
 ·exact hQ _ _ (.inl ⟨rfl,(okC_iff a b d).2 (by omega)⟩) eY
