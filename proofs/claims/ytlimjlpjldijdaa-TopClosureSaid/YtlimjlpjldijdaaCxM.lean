import Derived.Test.YtlimjlpjldijdaaSymC
import Derived.Test.YtlimjlpjldijdaaSymFacts
import Derived.Test.YtlimjlpjldijdaaSortH
set_option linter.unusedSimpArgs false
set_option linter.unusedVariables false
namespace Go.Proofs.Ytlimjlpjldijdaa
def fits(q:Rat):Prop:=-1000000000000000000<=q.num/\q.num<=1000000000000000000/\(q.den:Int)<=1000000000000000000
end Go.Proofs.Ytlimjlpjldijdaa
namespace Go.Proofs.Ytlimjlpjldijdaa
def cmpF(p q:Rat):Int:=if p<q then -1 else if p=q then 0 else 1
theorem cmpF_lt{p q:Rat}:cmpF p q<0↔p<q:=by
 unfold cmpF;split
 ·rename_i h;exact⟨fun _=>h,fun _=>by omega⟩
 ·rename_i h;split<;>exact⟨fun w=>by omega,fun w=>absurd w h⟩
end Go.Proofs.Ytlimjlpjldijdaa
namespace Go.Proofs.Ytlimjlpjldijdaa
open Go.Sim
theorem wrapU{x:Int}(h1:0<=x)(h2:x<18446744073709551616):IntKind.wrap .u64 x=x:=by
 unfold IntKind.wrap;simp[IntKind.bits,IntKind.signed,IntKind.min,IntKind.max];omega
theorem wrapUm(x:Int):IntKind.wrap .u64 x=x % 18446744073709551616:=by
 unfold IntKind.wrap;simp[IntKind.bits,IntKind.signed,IntKind.min,IntKind.max];try omega
theorem ofInt64{a:Int}(h0:0<=a)(h1:a<18446744073709551616):(BitVec.ofInt 64 a).toNat=a.toNat:=by
 rw[BitVec.toNat_ofInt]
 congr 1
 omega
theorem and64{a b:Int}(h0:0<=a)(h1:a<18446744073709551616)(g0:0<=b)(g1:b<18446744073709551616):(BitVec.ofInt 64 a &&& BitVec.ofInt 64 b).toNat=a.toNat &&& b.toNat:=by
 rw[BitVec.toNat_and,ofInt64 h0 h1,ofInt64 g0 g1]
theorem _root_.Go.Sim.Ext.lower'{h h1 h2:AHeap}(e:Ext h h2)(e1:Ext h h1)(hl:h.low<=h.next):Ext h (h2.lowered h1.low):=by
 have a:=e.lowG;have b:=e1.lowG;have c:=e.low hl;refine⟨e.next,fun _=>?_,?_,e.get⟩
 ·show Nat.min h1.low h2.low<=h2.next
  have:Nat.min h1.low h2.low<=h2.low:=Nat.min_le_right _ _;omega
 ·show Nat.min h.low h.next<=Nat.min h1.low h2.low
  exact Nat.le_min.2 ⟨b,a⟩
variable{F:Prims}{call head arith cmp scmp bnot bsame conv neg imax imin ofNat slen place inR nz geZ rd wr push next mkOK nat zeros sadd eqAgg cut slc sslc strAt part app cpy putAt fresh lowered bump wrote addN lt ne fpAll fpApp brk yn rng mget mput mnew bytes clr mrng ment:_}(hA:AP F ⟨call,head,arith,cmp,scmp,bnot,bsame,conv,neg,imax,imin,ofNat,slen,place,inR,nz,geZ,rd,wr,push,next,mkOK,nat,zeros,sadd,eqAgg,cut,slc,sslc,strAt,part,app,cpy,putAt,fresh,lowered,bump,wrote,addN,lt,ne,fpAll,fpApp,brk,yn,rng,mget,mput,mnew,bytes,clr,mrng,ment⟩)
include hA
theorem ext_fresh(X:AHeap):Ext X (fresh X):=by rw[e_fresh hA];exact .freshed _
theorem low_fresh(X:AHeap):(fresh X).low<=(fresh X).next:=by rw[e_fresh hA];exact freshed_low _
theorem ext_low{h X h':AHeap}(hl:h.low<=h.next)(y:Ext h X)(z:Ext (fresh X) h'):Ext h (lowered X h'):=by
 rw[e_lowered hA];exact Ext.lower' ((y.trans (ext_fresh hA X)).trans z) y hl
theorem low_same{X:AHeap}(hl:X.low<=X.next):lowered X (fresh X)=X:=by rw[e_lowered hA,e_fresh hA];exact lowered_freshed hl
theorem ext_bump(h:AHeap)(n:Nat):Ext h (bump h n):=by rw[e_bump hA];exact .bump _ _
theorem e_and(k:IntKind)(a b:Int):arith .and k a b=k.wrap (BitVec.ofInt k.bits a &&& BitVec.ofInt k.bits b).toNat:=by have:=hA.eq;injections;subst_vars;rfl
theorem e_xor(k:IntKind)(a b:Int):arith .xor k a b=k.wrap (BitVec.ofInt k.bits a ^^^ BitVec.ofInt k.bits b).toNat:=by have:=hA.eq;injections;subst_vars;rfl
theorem e_shl(k:IntKind)(a b:Int):arith .shl k a b=k.wrap (a*2 ^ (min b.toNat k.bits)):=by have:=hA.eq;injections;subst_vars;rfl
theorem e_shr(k:IntKind)(a b:Int):arith .shr k a b=a.fdiv (2 ^ (min b.toNat k.bits)):=by have:=hA.eq;injections;subst_vars;rfl
theorem subU{a b:Int}(h1:0<=a-b)(h2:a-b<18446744073709551616):arith .sub .u64 a b=a-b:=by rw[e_sub hA,wrapU h1 h2]
theorem convU{a:Int}(h0:0<=a)(h1:a<18446744073709551616):conv .u64 a=a:=by rw[e_conv hA,wrapU h0 h1]
theorem maskU{a:Int}(h0:0<=a)(h1:a<18446744073709551616)(k:Nat){m:Int}(hk:k<=63)(hm:m=2 ^ k-1):arith .and .u64 a m=a % 2 ^ k:=by
 have hp0:(0:Int)<2 ^ k:=Int.pow_pos (by omega);have hp:(1:Int)<=2 ^ k:=by omega
 have hp2:(2:Int) ^ k<=2 ^ 63:=by
  have:=Nat.pow_le_pow_right (n:=2) (by omega) hk
  exact_mod_cast this
 have h63:(2:Int) ^ 63=9223372036854775808:=by rfl
 rw[e_and hA];show IntKind.wrap .u64 _=_;have e:m.toNat=2 ^ k-1:=by
  have:((2 ^ k:Nat):Int)=2 ^ k:=by push_cast;rfl
  omega
 rw[show IntKind.bits .u64=64 from rfl,and64 h0 h1 (by omega) (by omega),e,Nat.and_two_pow_sub_one_eq_mod];have e2:((a.toNat % 2 ^ k:Nat):Int)=a % 2 ^ k:=by
  push_cast
  rw[Int.toNat_of_nonneg h0]
 have h3:0<=a % 2 ^ k:=Int.emod_nonneg _ (by omega);have h4:a % 2 ^ k<2 ^ k:=Int.emod_lt_of_pos _ (by omega);rw[e2,wrapU h3 (by omega)]
theorem shrU{a:Int}(h0:0<=a)(k:Nat)(hk:k<=64){b:Int}(hb:b=k):arith .shr .u64 a b=a / 2 ^ k:=by
 rw[e_shr hA,show IntKind.bits .u64=64 from rfl,hb,Int.toNat_natCast,Nat.min_eq_left hk,Int.fdiv_eq_ediv_of_nonneg _ (Int.le_of_lt (Int.pow_pos (by omega)))]
theorem shlU(a:Int)(k:Nat)(hk:k<=64){b:Int}(hb:b=k):arith .shl .u64 a b=a*2 ^ k % 18446744073709551616:=by
 rw[e_shl hA,show IntKind.bits .u64=64 from rfl,hb,Int.toNat_natCast,Nat.min_eq_left hk,wrapUm]
theorem geZ_ok{b:Int}(h:0<=b):geZ b:=by
 have e:geZ b=(0<=b):=by have:=hA.eq;injections;subst_vars;rfl
 rw[e];exact h
end Go.Proofs.Ytlimjlpjldijdaa
namespace Go.Proofs.Ytlimjlpjldijdaa
open Go.Sim
theorem ext_bumpPut(h:AHeap)(n:Nat){b:Nat}(hb:h.next<=b)(es:Nat)(cs:List Value):Ext h ((h.bump n).putAt b es cs):=
 ⟨by simp[AHeap.bump,AHeap.putAt],fun l=>by simp only[AHeap.bump,AHeap.putAt];omega,by simp only[AHeap.bump,AHeap.putAt];exact Nat.min_le_left _ _,fun i hi=>by
  simp only[AHeap.bump,AHeap.putAt];rw[Tri.get_set_ne _ _ (by omega)]⟩
theorem all_flat{α:Type}{enc:α->List Value}(hok:∀x,(enc x).all cellOK=true)(l:List α):(l.flatMap enc).all cellOK=true:=by
 rw[List.all_flatMap];simp only[hok,List.all_eq_true,implies_true]
variable{F:Prims}{call head arith cmp scmp bnot bsame conv neg imax imin ofNat slen place inR nz geZ rd wr push next mkOK nat zeros sadd eqAgg cut slc sslc strAt part app cpy putAt fresh lowered bump wrote addN lt ne fpAll fpApp brk yn rng mget mput mnew bytes clr mrng ment:_}(hA:AP F ⟨call,head,arith,cmp,scmp,bnot,bsame,conv,neg,imax,imin,ofNat,slen,place,inR,nz,geZ,rd,wr,push,next,mkOK,nat,zeros,sadd,eqAgg,cut,slc,sslc,strAt,part,app,cpy,putAt,fresh,lowered,bump,wrote,addN,lt,ne,fpAll,fpApp,brk,yn,rng,mget,mput,mnew,bytes,clr,mrng,ment⟩)
include hA
theorem app_ok{ts:List TypeId}{l:List Value}{h:AHeap}{C:Option Addr->Nat->Nat->AHeap->Prop}{a:Option Addr}{n c:Nat}{h':AHeap}(h1:appendH Try.prog h ts l=some (.slice a n c,h'))(h2:C a n c h'):app ts l h C:=by
 rw[e_app hA];exact⟨a,n,c,h',h1,h2⟩
theorem appR_ok{t e es:Nat}(hT:SliceT Try.prog t e es){α:Type}{enc:α->List Value}(he:∀x,(enc x).length=es)(hp0:0<es)(hok:∀x,(enc x).all cellOK=true){h:AHeap}{a:Option Addr}{n c:Nat}{l:List α}{v:α}(hp:Apd h es a n c (l.flatMap enc))(hn:n<=100000){C:Option Addr->Nat->Nat->AHeap->Prop}
  (hC:∀a' c' h',Apd h' es a' (n+1) c' ((l++[v]).flatMap enc)->(∀h0,Ext h0 h->From h0.next a->Ext h0 h'/\From h0.next a')->C a' (n+1) c' h') :
  app [t,t] [.slice a n c,.slice (some ⟨next h,0,none⟩) 1 1] (push h es (enc v)) C:=by
 rw[e_app hA,e_push hA,e_next hA];have hs:Cells (h.push es (enc v)) (some ⟨h.next,0,none⟩) 1 es (enc v):=⟨rfl,by simp[AHeap.push],by rw[(Own.push h es _).readG (by rw[he];omega),List.drop_zero,List.take_of_length_le (by rw[he];omega)]⟩;have hall:(l.flatMap enc).all cellOK=true:=by
  rw[List.all_flatMap];simp only[hok,List.all_eq_true,implies_true]
 obtain⟨a',c',h',h1,h2,h3⟩:=append_ok hT hT.und (c2:=1) (hp.ext (.push h es (enc v))) hs hall (hok v) (by omega) (by omega);refine⟨a',n+1,c',h',h1,hC a' c' h' (by simpa using h2) (fun h0 e0 f0=>h3 h0 (e0.trans (.push _ _ _)) f0)⟩
end Go.Proofs.Ytlimjlpjldijdaa
namespace Go.Proofs.Ytlimjlpjldijdaa
open Go.Sim
set_option maxRecDepth 100000
def hdr(es n b:Nat):Value:=.slice (some ⟨b,0,none⟩) n (someCap es n)
variable{F:Prims}{call head arith cmp scmp bnot bsame conv neg imax imin ofNat slen place inR nz geZ rd wr push next mkOK nat zeros sadd eqAgg cut slc sslc strAt part app cpy putAt fresh lowered bump wrote addN lt ne fpAll fpApp brk yn rng mget mput mnew bytes clr mrng ment:_}(hA:AP F ⟨call,head,arith,cmp,scmp,bnot,bsame,conv,neg,imax,imin,ofNat,slen,place,inR,nz,geZ,rd,wr,push,next,mkOK,nat,zeros,sadd,eqAgg,cut,slc,sslc,strAt,part,app,cpy,putAt,fresh,lowered,bump,wrote,addN,lt,ne,fpAll,fpApp,brk,yn,rng,mget,mput,mnew,bytes,clr,mrng,ment⟩)
include hA
theorem appK_ok{t e es:Nat}(hT:SliceT Try.prog t e es){α:Type}{enc:α->List Value}(he:∀x,(enc x).length=es)(hp0:0<es)(hok:∀x,(enc x).all cellOK=true){h:AHeap}{a:Option Addr}{n c:Nat}{l:List α}{v:α}(hp:Apd h es a n c (l.flatMap enc))(hn:n<=100000){C:Option Addr->Nat->Nat->AHeap->Prop}
  (hC:∀b' h',Apd h' es (some ⟨b',0,none⟩) (n+1) (someCap es (n+1)) ((l++[v]).flatMap enc)->(∀h0,Ext h0 h->From h0.next a->Ext h0 h')->h.next<h'.next->h.next<b'->(∀i,i<h.next->(∀ad,a=some ad->ad.block≠i)->h'.m.get i=h.m.get i)->C (some ⟨b',0,none⟩) (n+1) (someCap es (n+1)) h') :
  app [t,t] [.slice a n c,.slice (some ⟨next h,0,none⟩) 1 1] (push h es (enc v)) C:=by
 rw[e_app hA,e_push hA,e_next hA];have hs:Cells (h.push es (enc v)) (some ⟨h.next,0,none⟩) 1 es (enc v):=⟨rfl,by simp[AHeap.push],by rw[(Own.push h es _).readG (by rw[he];omega),List.drop_zero,List.take_of_length_le (by rw[he];omega)]⟩;obtain⟨a',c',h',h1,h2,h3,h4,h5,h6⟩:=append_keep hT hT.und (c2:=1) (hp.ext (.push h es (enc v))) hs (all_flat hok l) (hok v) (by omega) (by omega);rcases h2 with ⟨_,w,_⟩|⟨b',rfl,rfl,w1,w2,w3⟩
 ·omega
 have nx:(h.push es (enc v)).next=h.next+1:=rfl;refine⟨_,n+1,_,h',h1,hC b' h' (.inr ⟨b',rfl,rfl,w1,by rw[flatE_len he];simp only[List.length_append,List.length_cons,List.length_nil];have:=hp.cells.length;rw[flatE_len he]at this;rw[Nat.eq_of_mul_eq_mul_right hp0 this],?_⟩) (fun h0 e0 f0=>(h3 h0 (e0.trans (.push _ _ _)) f0).1) (by omega) (by have:=h5 _ rfl;simp only at this;omega) (fun i hi ha=>?_)⟩
 ·simpa using w3
 ·rw[h6 i (by omega) ha]
  exact(Ext.push h es (enc v)).get i hi
end Go.Proofs.Ytlimjlpjldijdaa
namespace Go.Proofs.Ytlimjlpjldijdaa
open Go.Sim
set_option maxRecDepth 100000
structure Hd where
 a:Option Addr
 n:Nat
 c:Nat
 deriving Inhabited
def Hd.cells(k:Hd):List Value:=[.slice k.a k.n k.c]
theorem hd_len(k:Hd):k.cells.length=1:=rfl
theorem hd_ok(k:Hd):k.cells.all cellOK=true:=rfl
structure GrR{α:Type}[Inhabited α](enc:α->List Value)(es:Nat)(h:AHeap)(a:Option Addr)(N:Nat)(hs:List Hd)(g:List (List α)):Prop where
 hd:Rows Hd.cells 1 h a N hs
 len:g.length=N
 row:∀y:Int,0<=y->y<N->Rows enc es h (gt hs y).a (gt hs y).n (gt g y)
theorem GrR.ext{α:Type}[Inhabited α]{enc:α->List Value}{es:Nat}{h h':AHeap}{a:Option Addr}{N:Nat}{hs:List Hd}{g:List (List α)}(t:GrR enc es h a N hs g)(e:Ext h h'):GrR enc es h' a N hs g:=⟨t.hd.ext e,t.len,fun y y0 y1=>(t.row y y0 y1).ext e⟩
theorem GrR.some{α:Type}[Inhabited α]{enc:α->List Value}{es:Nat}{h:AHeap}{a:Option Addr}{N:Nat}{hs:List Hd}{g:List (List α)}(t:GrR enc es h a N hs g)(hN:0<N):∃b o,a=Option.some ⟨b,o,none⟩/\b<h.next:=by
 obtain⟨b,o,e,l,_⟩:=t.hd.at (i:=0) (by omega) (by omega);exact⟨b,o,e,l⟩
variable{F:Prims}{call head arith cmp scmp bnot bsame conv neg imax imin ofNat slen place inR nz geZ rd wr push next mkOK nat zeros sadd eqAgg cut slc sslc strAt part app cpy putAt fresh lowered bump wrote addN lt ne fpAll fpApp brk yn rng mget mput mnew bytes clr mrng ment:_}(hA:AP F ⟨call,head,arith,cmp,scmp,bnot,bsame,conv,neg,imax,imin,ofNat,slen,place,inR,nz,geZ,rd,wr,push,next,mkOK,nat,zeros,sadd,eqAgg,cut,slc,sslc,strAt,part,app,cpy,putAt,fresh,lowered,bump,wrote,addN,lt,ne,fpAll,fpApp,brk,yn,rng,mget,mput,mnew,bytes,clr,mrng,ment⟩)
include hA
theorem gr_head{α:Type}[Inhabited α]{enc:α->List Value}{es:Nat}{h:AHeap}{b o N:Nat}{hs:List Hd}{g:List (List α)}(t:GrR enc es h (some ⟨b,o,none⟩) N hs g){y:Int}(y0:0<=y)(y1:y<N):rd h b (place o y 1) 1 [.slice (gt hs y).a (gt hs y).n (gt hs y).c]:=by
 obtain⟨b',o',e,_,w⟩:=t.hd.at y0 y1;cases e;exact rd_ok hA (w 0 1 (by omega) (by omega))
end Go.Proofs.Ytlimjlpjldijdaa
namespace Go.Proofs.Ytlimjlpjldijdaa
open Go.Sim
set_option maxRecDepth 100000
variable{F:Prims}{call head arith cmp scmp bnot bsame conv neg imax imin ofNat slen place inR nz geZ rd wr push next mkOK nat zeros sadd eqAgg cut slc sslc strAt part app cpy putAt fresh lowered bump wrote addN lt ne fpAll fpApp brk yn rng mget mput mnew bytes clr mrng ment:_}(hA:AP F ⟨call,head,arith,cmp,scmp,bnot,bsame,conv,neg,imax,imin,ofNat,slen,place,inR,nz,geZ,rd,wr,push,next,mkOK,nat,zeros,sadd,eqAgg,cut,slc,sslc,strAt,part,app,cpy,putAt,fresh,lowered,bump,wrote,addN,lt,ne,fpAll,fpApp,brk,yn,rng,mget,mput,mnew,bytes,clr,mrng,ment⟩)
include hA
theorem appIn_ok{t e es:Nat}(hT:SliceT Try.prog t e es){α:Type}[Inhabited α]{enc:α->List Value}(he:∀x,(enc x).length=es)(hp0:0<es)(hok:∀x,(enc x).all cellOK=true){h:AHeap}{b n c:Nat}{l:List α}{v:α}(ho:Own h b es (l.flatMap enc))(hl:l.length=c)(hb:b<h.next)(hn:n<c)(hc:c<=1000000){C:Option Addr->Nat->Nat->AHeap->Prop}
  (hC:∀h',Own h' b es ((l.set n v).flatMap enc)->Wrote (h.push es (enc v)) h' b->C (some ⟨b,0,none⟩) (n+1) c h') :
  app [t,t] [.slice (some ⟨b,0,none⟩) n c,.slice (some ⟨next h,0,none⟩) 1 1] (push h es (enc v)) C:=by
 rw[e_app hA,e_push hA,e_next hA];obtain⟨by_,hby,hby2⟩:=hT.bytes;obtain⟨z,hz,hz2⟩:=hT.zero;have oP:Own (h.push es (enc v)) b es (l.flatMap enc):=ho.ext (.push h es (enc v)) hb;have hr:(h.push es (enc v)).readG ⟨h.next,0,none⟩ (1*es)=some (enc v):=by
  rw[(Own.push h es (enc v)).readG (by rw[he];omega),List.drop_zero,List.take_of_length_le (by rw[he];omega)]
 have hnews:newsA Try.prog (h.push es (enc v)) e es false (.slice (some ⟨h.next,0,none⟩) 1 1)=some (1,enc v):=by
  unfold newsA;simp only[cond_false,hr]
 obtain⟨h',w1,w2,w3⟩:=Own.setRow oP he (i:=n) (by omega) v;have hcap:capLow c=c:=Nat.mod_eq_of_lt (by unfold slack;omega);refine⟨_,n+1,_,h',?_,hC h' w2 w3⟩;unfold appendH;simp only[hT.und,hT.size,hby,hz,isIntDesc,hnews];rw[hcap,ble_true (show n+1<=c by omega)];simp only[cond_true,AHeap.writeG,aadd,hok,Nat.zero_add,w1]
end Go.Proofs.Ytlimjlpjldijdaa
namespace Go.Proofs.Ytlimjlpjldijdaa
open Go.Sim
theorem append_full{P:Program}{t t2 e es:Nat}(hT:SliceT P t e es)(ht2:P.underlying t2=some (.slice e)){h:AHeap}{b n n2 c2:Nat}{a2:Option Addr}{cells news:List Value}(ho:Own h b es cells)(hb:b<h.next)(hl:cells.length=n*es)(hn:n<=1000)(hs:Cells h a2 n2 es news)(hok:cells.all cellOK=true)(hok2:news.all cellOK=true)(h0:0<n2)(hbig:n2<=1000000) :
  ∃c',appendH P h [t,t2] [.slice (some ⟨b,0,none⟩) n n,.slice a2 n2 c2]=some (.slice (some ⟨h.next,0,none⟩) (n+n2) c',h.push es (cells++news)):=by
 obtain⟨by_,hby,hby2⟩:=hT.bytes;obtain⟨z,hz,hz2⟩:=hT.zero;have hnl:=hs.length;have hnews:newsA P h e es false (.slice a2 n2 c2)=some (n2,news):=by
  unfold newsA;simp only[cond_false];cases a2 with
  |none=>obtain⟨rfl,rfl⟩:=hs;simp
  |some ad=>
   obtain⟨h1,h2,h3⟩:=hs;simp only[h3]
 have hcl:capLow n=n:=Nat.mod_eq_of_lt (by unfold slack;omega);unfold appendH;simp only[hT.und,hT.size,hby,ht2,hz,isIntDesc,hnews];rw[hcl,ble_false (by omega)];simp only[cond_false];rw[ble_true (show n+n2<=1073741824 by omega),ble_true hby2,hok2,hz2,hnl];simp only[Bool.and_self,Nat.beq_refl,cond_true];have hr:h.readG ⟨b,0,none⟩ (n*es)=some cells:=by rw[ho.readG (by omega)];simp[<-hl]
 simp only[hr];rw[blt_true (show n<slack by unfold slack;omega),hok];simp only[cond_true];exact⟨_,rfl⟩
variable{F:Prims}{call head arith cmp scmp bnot bsame conv neg imax imin ofNat slen place inR nz geZ rd wr push next mkOK nat zeros sadd eqAgg cut slc sslc strAt part app cpy putAt fresh lowered bump wrote addN lt ne fpAll fpApp brk yn rng mget mput mnew bytes clr mrng ment:_}(hA:AP F ⟨call,head,arith,cmp,scmp,bnot,bsame,conv,neg,imax,imin,ofNat,slen,place,inR,nz,geZ,rd,wr,push,next,mkOK,nat,zeros,sadd,eqAgg,cut,slc,sslc,strAt,part,app,cpy,putAt,fresh,lowered,bump,wrote,addN,lt,ne,fpAll,fpApp,brk,yn,rng,mget,mput,mnew,bytes,clr,mrng,ment⟩)
include hA
theorem put_ext{h0 X:AHeap}(x0:Ext h0 X){i es:Nat}(i0:h0.next<=i)(cs:List Value):Ext h0 (putAt X i es cs)/\Own (putAt X i es cs) i es cs/\(putAt X i es cs).next=X.next/\(∀j,j≠i->(putAt X i es cs).m.get j=X.m.get j):=by
 rw[e_putAt hA];have g1:∀j,j≠i->(X.putAt i es cs).m.get j=X.m.get j:=fun j hj=>by unfold AHeap.putAt;simp only[];rw[Tri.get_set_ne _ _ (fun q=>hj q.symm)]
 exact⟨⟨x0.next,x0.low,x0.lowG,fun j hj=>(g1 j (by omega)).trans (x0.get j hj)⟩,Own.putAt X i es cs,rfl,g1⟩
end Go.Proofs.Ytlimjlpjldijdaa
namespace Go.Sim
section
variable{α β:Type}[DecidableEq α]
def getL:List (α×β)->α->Option β
 | [],_=>none
 |e :: l,k=>if e.1=k then some e.2 else getL l k
def encE(ek:α->Value)(eb:β->Value)(l:List (α×β)):List (Value×Value):=l.map fun e=>(ek e.1,eb e.2)
theorem getL_app(l m:List (α×β))(k:α):getL (l++m) k=(getL l k).or (getL m k):=by
 induction l with
 |nil=>rfl
 |cons e l ih=>
  simp only[List.cons_append,getL];by_cases c:e.1=k
  ·simp[c]
  ·simp[c,ih]
theorem getL_mem:∀{l:List (α×β)} {k:α} {v:β},getL l k=some v->(k,v)∈l
 | [],k,v,h=>by cases h
 |e :: l,k,v,h=>by
  simp only[getL]at h;by_cases c:e.1=k
  ·rw[if_pos c]at h
   obtain rfl:=Option.some.inj h;subst c;exact List.mem_cons_self
  ·rw[if_neg c]at h
   exact List.mem_cons_of_mem _ (getL_mem h)
theorem getL_none:∀{l:List (α×β)} {k:α},getL l k=none↔∀e∈l,e.1≠k
 | [],k=>by simp[getL]
 |e :: l,k=>by
  simp only[getL];by_cases c:e.1=k
  ·rw[if_pos c]
   simp only[reduceCtorEq,List.mem_cons,forall_eq_or_imp,false_iff,not_and];exact fun h=>absurd c h
  ·rw[if_neg c,getL_none]
   simp only[List.mem_cons,forall_eq_or_imp];exact⟨fun h=>⟨c,h⟩,fun h=>h.2⟩
structure KeyE(P:Program)(kt:TypeId)(kd:TypeDesc)(ek:α->Value):Prop where
 und:P.underlying kt=some kd
 ok:∀a,keyOK P kt kd (ek a)=true
 same:∀a b,sameA kd (ek a) (ek b)=some (decide (a=b))
theorem find_enc{P:Program}{kt:TypeId}{kd:TypeDesc}{ek:α->Value}(hk:KeyE P kt kd ek)(eb:β->Value):∀(l:List (α×β)) (k:α) (i:Nat),
  (getL l k=none/\findA kd (ek k) (encE ek eb l) i=some none)\/∃j v,getL l k=some v/\findA kd (ek k) (encE ek eb l) i=some (some (i+j,eb v))/\l[j]?=some (k,v)/\∀v' k',getL (l.set j (k,v')) k'=if k'=k then some v' else getL l k'
 | [],k,i=>.inl ⟨rfl,rfl⟩
 |e :: l,k,i=>by
  have hc:findA kd (ek k) (encE ek eb (e :: l)) i=if k=e.1 then some (some (i,eb e.2))else findA kd (ek k) (encE ek eb l) (i+1):=by
   show findA kd (ek k) ((ek e.1,eb e.2) :: encE ek eb l) i=_;simp only[findA,hk.same];by_cases c:k=e.1
   ·simp[c]
   ·simp[c]
  by_cases c:e.1=k
  ·right
   refine⟨0,e.2,by simp[getL,c],by rw[hc,if_pos c.symm];rfl,by simp[<-c],fun v' k'=>?_⟩;simp only[List.set_cons_zero,getL];by_cases c2:k'=k
   ·simp[c2]
   ·rw[if_neg (fun q=>c2 q.symm),if_neg c2,if_neg (fun q=>c2 (q.symm.trans c))]
  ·rcases find_enc hk eb l k (i+1)with ⟨h1,h2⟩|⟨j,v,h1,h2,h3,h4⟩
   ·exact .inl ⟨by simp only[getL,if_neg c,h1],by rw[hc,if_neg (fun q=>c q.symm),h2]⟩
   ·refine .inr ⟨j+1,v,by simp only[getL,if_neg c,h1],by rw[hc,if_neg (fun q=>c q.symm),h2];congr 3;omega,by simpa using h3,fun v' k'=>?_⟩
    simp only[List.set_cons_succ,getL,h4];by_cases c2:e.1=k'
    ·rw[if_pos c2,if_neg (fun q=>c (c2.trans q)),if_pos c2]
    ·rw[if_neg c2,if_neg c2]
structure MapT(P:Program)(t:TypeId)(ek:α->Value)(eb:β->Value)(z:β):Prop where
 ex:∃kt kd et,P.underlying t=some (.map kt et)/\KeyE P kt kd ek/\zeroT P et=some (eb z)/\∀v,noLoc (eb v)=true
theorem look_enc{P:Program}{t:TypeId}{ek:α->Value}{eb:β->Value}{z:β}(hT:MapT P t ek eb z){h:AHeap}{id:Nat}{l:List (α×β)}(hm:h.m.get id=some (.map (encE ek eb l)))(k:α) :
  lookupH P h t (.map (some id)) (ek k) true=some (.tuple #[eb ((getL l k).getD z),.bool (getL l k).isSome],h):=by
 obtain⟨kt,kd,et,h1,h2,h3,h4⟩:=hT.ex;unfold lookupH entriesA;simp only[h1,h2.und,h3,hm,h2.ok,cond_true];rcases find_enc h2 eb l k 0 with ⟨e1,e2⟩|⟨j,v,e1,e2,_⟩
 ·simp only[e1,e2,found,cond_true,Option.getD_none,Option.isSome_none]
 ·simp only[e1,e2,found,cond_true,Option.getD_some,Option.isSome_some]
theorem put_enc{P:Program}{t:TypeId}{ek:α->Value}{eb:β->Value}{z:β}(hT:MapT P t ek eb z){h:AHeap}{id:Nat}{l:List (α×β)}(hm:h.m.get id=some (.map (encE ek eb l)))(k:α)(v:β) :
  ∃l',updateH P h t (.map (some id)) (ek k) (eb v)=some (undef,h.putB id (.map (encE ek eb l')))/\(∀k',getL l' k'=if k'=k then some v else getL l k')/\(getL l k=none->l'=l++[(k,v)])/\(∀u,getL l k=some u->l'.map (·.1)=l.map (·.1)):=by
 obtain⟨kt,kd,et,h1,h2,h3,h4⟩:=hT.ex;rcases find_enc h2 eb l k 0 with ⟨e1,e2⟩|⟨j,u,e1,e2,e3,e4⟩
 ·refine⟨l++[(k,v)],?_,fun k'=>?_,fun _=>rfl,(fun u hu=>by rw[e1]at hu;cases hu)⟩
  ·unfold updateH
   simp only[h1,h2.und,hm,h2.ok,h4,Bool.and_self,cond_true,e2];unfold encE;rw[List.map_append];rfl
  ·rw[getL_app]
   by_cases c:k'=k
   ·subst c
    simp[e1,getL]
   ·simp only[if_neg c,getL,if_neg (fun q:k=k'=>c q.symm),Option.or_none]
 ·refine⟨l.set j (k,v),?_,fun k'=>e4 v k',(fun q=>by rw[e1]at q;cases q),fun _ _=>?_⟩
  ·unfold updateH
   simp only[h1,h2.und,hm,h2.ok,h4,Bool.and_self,cond_true,e2,Nat.zero_add];unfold encE;rw[List.map_set]
  ·rw[List.map_set]
   refine List.ext_getElem? fun i=>?_
   rw[List.getElem?_set];by_cases c:j=i
   ·subst c
    have hj:j<l.length:=(List.getElem?_eq_some_iff.1 e3).1;rw[if_pos rfl,if_pos (by simpa using hj),List.getElem?_map,e3];rfl
   ·rw[if_neg c]
end
def intK(n:Int):Value:=.int .i64 n
def boolK(b:Bool):Value:=.bool b
def pairK(p:Int×Int):Value:=.agg #[.int .i64 p.1,.int .i64 p.2]
theorem keyInt{P:Program}{kt:TypeId}(h:P.underlying kt=some (.int .i64)):KeyE P kt (.int .i64) intK:=
 ⟨h,fun a=>rfl,fun a b=>by simp only[sameA,intK,Instr.sameNow,if_true];rfl⟩
theorem keyPair{P:Program}{kt:TypeId}{kd:TypeDesc}(h:P.underlying kt=some kd)(hp:pairDesc P kd=true)(hs:P.stoodInHeld kt=false):KeyE P kt kd pairK:=
 ⟨h,fun a=>by simp only[keyOK,hp,hs,pairK,isPair,Bool.not_false,Bool.and_self,Bool.or_true],fun a b=>by
  obtain⟨f1,f2,_,_,rfl,_⟩:=pairDesc_spec hp;simp only[sameA,pairK,samePair,and_self,if_true]
  congr 1
  rcases a with ⟨a1,a2⟩
  rcases b with ⟨b1,b2⟩
  by_cases c1:a1=b1<;>by_cases c2:a2=b2<;>simp[c1,c2]⟩
end Go.Sim
namespace Go.Proofs.Ytlimjlpjldijdaa
open Go.Sim
variable{F:Prims}{call head arith cmp scmp bnot bsame conv neg imax imin ofNat slen place inR nz geZ rd wr push next mkOK nat zeros sadd eqAgg cut slc sslc strAt part app cpy putAt fresh lowered bump wrote addN lt ne fpAll fpApp brk yn rng mget mput mnew bytes clr mrng ment:_}(hA:AP F ⟨call,head,arith,cmp,scmp,bnot,bsame,conv,neg,imax,imin,ofNat,slen,place,inR,nz,geZ,rd,wr,push,next,mkOK,nat,zeros,sadd,eqAgg,cut,slc,sslc,strAt,part,app,cpy,putAt,fresh,lowered,bump,wrote,addN,lt,ne,fpAll,fpApp,brk,yn,rng,mget,mput,mnew,bytes,clr,mrng,ment⟩)
include hA
theorem e_mget(t:TypeId)(m k:Value)(h:AHeap)(v:Value)(b:Bool):mget t m k h v b=(lookupH Try.prog h t m k true=some (.tuple #[v,.bool b],h)):=by have:=hA.eq;injections;subst_vars;rfl
theorem e_mput(t:TypeId)(m k v:Value)(h h':AHeap):mput t m k v h h'=(updateH Try.prog h t m k v=some (undef,h')):=by have:=hA.eq;injections;subst_vars;rfl
theorem e_mnew(h:AHeap):mnew h=h.pushB (.map []):=by have:=hA.eq;injections;subst_vars;rfl
end Go.Proofs.Ytlimjlpjldijdaa
namespace Go.Proofs.Ytlimjlpjldijdaa
structure Cq where
 re:Rat
 im:Rat
theorem Cq.ext{z w:Cq}(h:z.re=w.re)(k:z.im=w.im):z=w:=by cases z;cases w;simp only at h k;rw[h,k]
def Cq.add(z w:Cq):Cq:=⟨z.re+w.re,z.im+w.im⟩
def Cq.sub(z w:Cq):Cq:=⟨z.re-w.re,z.im-w.im⟩
def Cq.mul(z w:Cq):Cq:=⟨z.re*w.re-z.im*w.im,z.re*w.im+z.im*w.re⟩
def Cq.conj(z:Cq):Cq:=⟨z.re,-z.im⟩
def Cq.zero:Cq:=⟨0,0⟩
structure isC(a b d:Int)(z:Cq):Prop where
 d1:1<=d
 d2:d<=1000000000
 a1:-1000000000<=a
 a2:a<=1000000000
 b1:-1000000000<=b
 b2:b<=1000000000
 g:Int.gcd (Int.gcd a b) d=1
 re:(a:Rat)=z.re*(d:Rat)
 im:(b:Rat)=z.im*(d:Rat)
def okC(a b d:Int):Prop:=∃z,isC a b d z
def outC(z:Cq)(a b d e:Int):Prop:=(isC a b d z/\e=0)\/((∀a b d,¬isC a b d z)/\a=0/\b=0/\d=0/\e=16)
theorem cancelQ{x y z:Rat}(hz:z≠0)(h:x*z=y*z):x=y:=by
 have:x*z*z⁻¹=y*z*z⁻¹:=by rw[h]
 rwa [Rat.mul_assoc,Rat.mul_assoc,Rat.mul_inv_cancel _ hz,Rat.mul_one,Rat.mul_one]at this
theorem ratne{d:Int}(h:d≠0):(d:Rat)≠0:=fun w=>h (Rat.intCast_inj.1 (by rw[w];rfl))
theorem isC.of{a b d:Int}{z w:Cq}(h:isC a b d z)(k:isC a b d w):z=w:=by
 have hd:(d:Rat)≠0:=ratne (by have:=h.d1;omega);exact Cq.ext (cancelQ hd (by rw[<-h.re,<-k.re])) (cancelQ hd (by rw[<-h.im,<-k.im]))
theorem cross{x:Rat}{a d a' d':Int}(h:(a:Rat)=x*d)(k:(a':Rat)=x*d'):a*d'=a'*d:=by
 have:(a:Rat)*(d':Rat)=(a':Rat)*(d:Rat):=by rw[h,k];grind
 have:=(Rat.intCast_mul a d').trans (this.trans (Rat.intCast_mul a' d).symm);exact Rat.intCast_inj.1 this
theorem den_dvd{a b d a' b' d':Int}(h1:a*d'=a'*d)(h2:b*d'=b'*d)(g:Int.gcd (Int.gcd a b) d=1):d.natAbs∣d'.natAbs:=by
 have e1:a.natAbs*d'.natAbs=a'.natAbs*d.natAbs:=by rw[<-Int.natAbs_mul,h1,Int.natAbs_mul]
 have e2:b.natAbs*d'.natAbs=b'.natAbs*d.natAbs:=by rw[<-Int.natAbs_mul,h2,Int.natAbs_mul]
 have q1:d.natAbs∣a.natAbs*d'.natAbs:=by rw[e1];exact Nat.dvd_mul_left _ _
 have q2:d.natAbs∣b.natAbs*d'.natAbs:=by rw[e2];exact Nat.dvd_mul_left _ _
 have q3:d.natAbs∣d.natAbs*d'.natAbs:=Nat.dvd_mul_right _ _;have q4:=Nat.dvd_gcd (Nat.dvd_gcd q1 q2) q3;rw[Nat.gcd_mul_right,Nat.gcd_mul_right]at q4;have g':Nat.gcd (Nat.gcd a.natAbs b.natAbs) d.natAbs=1:=g
 rwa [g',Nat.one_mul]at q4
theorem isC.trip{a b d a' b' d':Int}{z:Cq}(h:isC a b d z)(k:isC a' b' d' z):a=a'/\b=b'/\d=d':=by
 have c1:=cross h.re k.re;have c2:=cross h.im k.im;have p:=Nat.dvd_antisymm (den_dvd c1 c2 h.g) (den_dvd c1.symm c2.symm k.g);have hd:d=d':=by have:=h.d1;have:=k.d1;omega
 subst hd;have h1:=h.d1;exact⟨Int.eq_of_mul_eq_mul_right (by omega) c1,Int.eq_of_mul_eq_mul_right (by omega) c2,rfl⟩
theorem outC.uniq{z:Cq}{a b d e a' b' d' e':Int}(h:outC z a b d e)(k:outC z a' b' d' e'):a=a'/\b=b'/\d=d'/\e=e':=by
 rcases h with ⟨h,he⟩|⟨h,h1,h2,h3,he⟩<;>rcases k with ⟨k,ke⟩|⟨k,k1,k2,k3,ke⟩
 ·obtain⟨x,y,w⟩:=h.trip k;exact⟨x,y,w,by omega⟩
 ·exact absurd h (k _ _ _)
 ·exact absurd k (h _ _ _)
 ·omega
theorem outC.zero{z:Cq}{a b d e:Int}(h:outC z a b d e):e=0->isC a b d z:=by
 rintro rfl;rcases h with ⟨h,_⟩|⟨_,_,_,_,h⟩
 ·exact h
 ·omega
theorem okC_iff(a b d:Int):okC a b d↔1<=d/\d<=1000000000/\-1000000000<=a/\a<=1000000000/\-1000000000<=b/\b<=1000000000/\Int.gcd (Int.gcd a b) d=1:=by
 constructor
 ·rintro⟨z,h⟩;exact⟨h.d1,h.d2,h.a1,h.a2,h.b1,h.b2,h.g⟩
 ·rintro⟨h1,h2,h3,h4,h5,h6,h7⟩
  have hd:(d:Rat)≠0:=ratne (by omega);refine⟨⟨a / d,b / d⟩,h1,h2,h3,h4,h5,h6,h7,?_,?_⟩
  ·show(a:Rat)=(a:Rat) / (d:Rat)*(d:Rat)
   rw[Rat.div_def,Rat.mul_assoc,Rat.inv_mul_cancel _ hd,Rat.mul_one]
  ·show(b:Rat)=(b:Rat) / (d:Rat)*(d:Rat)
   rw[Rat.div_def,Rat.mul_assoc,Rat.inv_mul_cancel _ hd,Rat.mul_one]
theorem red_ok{n m d g s:Int}(hd:d≠0)(hg:g=Int.gcd (Int.gcd n m) d)(hs:s=if d<0 then -g else g){z:Cq}(h1:(n:Rat)=z.re*d)(h2:(m:Rat)=z.im*d) :
  s≠0/\s.natAbs<=d.natAbs/\n.tdiv s*s=n/\m.tdiv s*s=m/\d.tdiv s*s=d/\1<=d.tdiv s/\Int.gcd (Int.gcd (n.tdiv s) (m.tdiv s)) (d.tdiv s)=1/\((n.tdiv s:Int):Rat)=z.re*((d.tdiv s:Int):Rat)/\((m.tdiv s:Int):Rat)=z.im*((d.tdiv s:Int):Rat):=by
 have g1:0<g:=by
  rw[hg];have:=Nat.gcd_pos_of_pos_right (Int.gcd n m) (n:=d.natAbs) (by omega);have e:Int.gcd (Int.gcd n m) d=Nat.gcd (Int.gcd n m) d.natAbs:=rfl;omega
 have sg:s.natAbs=g.toNat:=by rw[hs];split<;>omega
 have s0:s≠0:=by omega
 have gn:g.toNat=Nat.gcd (Nat.gcd n.natAbs m.natAbs) d.natAbs:=by rw[hg];rfl
 have dn:s∣n:=Int.natAbs_dvd_natAbs.1 (by rw[sg,gn];exact Nat.dvd_trans (Nat.gcd_dvd_left _ _) (Nat.gcd_dvd_left _ _));have dm:s∣m:=Int.natAbs_dvd_natAbs.1 (by rw[sg,gn];exact Nat.dvd_trans (Nat.gcd_dvd_left _ _) (Nat.gcd_dvd_right _ _));have dd:s∣d:=Int.natAbs_dvd_natAbs.1 (by rw[sg,gn];exact Nat.gcd_dvd_right _ _);have en:=Int.tdiv_mul_cancel dn;have em:=Int.tdiv_mul_cancel dm;have ed:=Int.tdiv_mul_cancel dd;have pos:1<=d.tdiv s:=by
  rw[hs]at ed ⊢;by_cases c:d<0
  ·rw[if_pos c]at ed ⊢
   rcases(by omega:d.tdiv (-g)<1\/1<=d.tdiv (-g))with q|q
   ·exfalso
    have:0<=-(d.tdiv (-g))*g:=Int.mul_nonneg (by omega) (by omega);have e:-(d.tdiv (-g))*g=d.tdiv (-g) * -g:=by rw[Int.neg_mul,Int.mul_neg]
    omega
   ·exact q
  ·rw[if_neg c]at ed ⊢
   rcases(by omega:d.tdiv g<1\/1<=d.tdiv g)with q|q
   ·exfalso
    have:0<=-(d.tdiv g)*g:=Int.mul_nonneg (by omega) (by omega);have e:-(d.tdiv g)*g=-(d.tdiv g*g):=Int.neg_mul _ _;omega
   ·exact q
 have sr:(s:Rat)≠0:=ratne s0;refine⟨s0,?_,en,em,ed,pos,?_,?_,?_⟩
 ·rw[sg,gn];exact Nat.le_of_dvd (by omega) (Nat.gcd_dvd_right _ _)
 ·have a1:n.natAbs=(n.tdiv s).natAbs*g.toNat:=by rw[<-sg,<-Int.natAbs_mul,en]
  have a2:m.natAbs=(m.tdiv s).natAbs*g.toNat:=by rw[<-sg,<-Int.natAbs_mul,em]
  have a3:d.natAbs=(d.tdiv s).natAbs*g.toNat:=by rw[<-sg,<-Int.natAbs_mul,ed]
  rw[a1,a2,a3,Nat.gcd_mul_right,Nat.gcd_mul_right]at gn;have h0:0<g.toNat:=by omega
  have:Nat.gcd (Nat.gcd (n.tdiv s).natAbs (m.tdiv s).natAbs) (d.tdiv s).natAbs=1:=Nat.eq_of_mul_eq_mul_right h0 (by omega);exact this
 ·refine cancelQ sr ?_
  rw[<-Rat.intCast_mul,en,h1,<-ed,Rat.intCast_mul,ed,Rat.mul_assoc]
 ·refine cancelQ sr ?_
  rw[<-Rat.intCast_mul,em,h2,<-ed,Rat.intCast_mul,ed,Rat.mul_assoc]
def OpC(f:Cq->Cq->Cq)(a b d a' b' d' r s t e:Int):Prop:=(¬(okC a b d/\okC a' b' d')/\r=0/\s=0/\t=0/\e=8)\/∃z w,isC a b d z/\isC a' b' d' w/\outC (f z w) r s t e
theorem OpC.is{f:Cq->Cq->Cq}{a b d a' b' d' r s t e:Int}{z w:Cq}(h:OpC f a b d a' b' d' r s t e)(hz:isC a b d z)(hw:isC a' b' d' w):outC (f z w) r s t e:=by
 rcases h with ⟨h,_⟩|⟨z',w',kz,kw,k⟩
 ·exact absurd ⟨⟨_,hz⟩,⟨_,hw⟩⟩ h
 ·obtain rfl:=hz.of kz
  obtain rfl:=hw.of kw;exact k
