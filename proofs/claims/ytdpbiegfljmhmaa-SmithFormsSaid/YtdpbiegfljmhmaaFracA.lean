import Derived.Test.YtdpbiegfljmhmaaSymW
import Derived.Test.YtdpbiegfljmhmaaSymFacts
import Derived.KernelRfl
set_option linter.unusedSimpArgs false
set_option linter.unusedVariables false
namespace Go.Proofs.Ytdpbiegfljmhmaa
open Go.Sim
def gt{α:Type}[Inhabited α](l:List α)(i:Int):α:=l.getD i.toNat default
structure Rows{α:Type}(enc:α->List Value)(es:Nat)(h:AHeap)(a:Option Addr)(n:Nat)(l:List α):Prop where
 cells:Cells h a n es (l.flatMap enc)
 each:∀x,(enc x).length=es
 pos:0<es
theorem flatE_len{α:Type}{enc:α->List Value}{es:Nat}(he:∀x,(enc x).length=es)(l:List α):(l.flatMap enc).length=l.length*es:=by
 induction l with
 |nil=>simp
 |cons c l ih=>rw[List.flatMap_cons,List.length_append,he,ih,List.length_cons,Nat.add_mul];omega
theorem flatE_drop{α:Type}[Inhabited α]{enc:α->List Value}{es:Nat}(he:∀x,(enc x).length=es)(l:List α)(i:Nat)(hi:i<l.length)(k m:Nat)(hk:k+m<=es):((l.flatMap enc).drop (i*es+k)).take m=((enc (l.getD i default)).drop k).take m:=by
 induction l generalizing i with
 |nil=>simp at hi
 |cons c l ih=>
  cases i with
  |zero=>
   rw[List.flatMap_cons,Nat.zero_mul,Nat.zero_add,List.drop_append_of_le_length (by rw[he];omega),List.take_append_of_le_length (by rw[List.length_drop,he];omega)];rfl
  |succ i=>
   have e:((c :: l).flatMap enc).drop ((i+1)*es+k)=(l.flatMap enc).drop (i*es+k):=by
    rw[List.flatMap_cons,show(i+1)*es+k=(enc c).length+(i*es+k) by rw[he,Nat.add_mul];omega,List.drop_append,List.drop_eq_nil_of_le (by omega),Nat.add_sub_cancel_left,List.nil_append]
   rw[e];exact ih i (by simpa using hi)
theorem Rows.ext{α:Type}{enc:α->List Value}{es:Nat}{h h':AHeap}{a:Option Addr}{n:Nat}{l:List α}(p:Rows enc es h a n l)(e:Ext h h'):Rows enc es h' a n l:=⟨p.cells.ext e,p.each,p.pos⟩
theorem Rows.len{α:Type}{enc:α->List Value}{es:Nat}{h:AHeap}{a:Option Addr}{n:Nat}{l:List α}(p:Rows enc es h a n l):l.length=n:=by
 have h1:=p.cells.length;rw[flatE_len p.each]at h1;exact Nat.eq_of_mul_eq_mul_right p.pos h1
theorem Rows.at{α:Type}[Inhabited α]{enc:α->List Value}{es:Nat}{h:AHeap}{a:Option Addr}{n:Nat}{l:List α}(p:Rows enc es h a n l){i:Int}(h0:0<=i)(hi:i<n) :
  ∃b o,a=some ⟨b,o,none⟩/\b<h.next/\∀k m,k+m<=es->0<m->h.readG ⟨b,o+i.toNat*es+k,none⟩ m=some (((enc (gt l i)).drop k).take m):=by
 have hl:=p.len;have hm:∀k m,k+m<=es->i.toNat*es+k+m<=n*es:=fun k m hk=>by
  have:(i.toNat+1)*es<=n*es:=Nat.mul_le_mul_right _ (by omega);rw[Nat.add_mul]at this;omega
 obtain⟨b,o,h1,h2,_⟩:=p.cells.at (i:=i.toNat*es+0) (m:=es) (hm 0 es (by omega)) p.pos;refine⟨b,o,h1,h2,fun k m hk hp=>?_⟩;obtain⟨b',o',h1',_,h3'⟩:=p.cells.at (i:=i.toNat*es+k) (m:=m) (hm k m hk) hp;rw[h1]at h1';cases h1';rw[Nat.add_assoc,h3',flatE_drop p.each l i.toNat (by omega) k m hk];rfl
theorem Own.rows{α:Type}{enc:α->List Value}{es:Nat}{h:AHeap}{b:Nat}{l:List α}(c:Own h b es (l.flatMap enc))(he:∀x,(enc x).length=es)(hp:0<es)(hb:b<h.next):Rows enc es h (some ⟨b,0,none⟩) l.length l:=by
 refine⟨⟨rfl,hb,?_⟩,he,hp⟩;have:=c.readG (o:=0) (n:=l.length*es) (by rw[flatE_len he];omega);rw[this,List.drop_zero,List.take_of_length_le (by rw[flatE_len he];omega)]
theorem Rows.nil{α:Type}{enc:α->List Value}{es:Nat}(h:AHeap)(he:∀x,(enc x).length=es)(hp:0<es):Rows enc es h none 0 []:=⟨⟨rfl,rfl⟩,he,hp⟩
theorem Own.setRow{α:Type}[Inhabited α]{enc:α->List Value}{es:Nat}{h:AHeap}{b:Nat}{l:List α}(c:Own h b es (l.flatMap enc))(he:∀x,(enc x).length=es){i:Nat}(hi:i<l.length)(x:α):∃h',h.write b (i*es) (enc x)=some h'/\Own h' b es ((l.set i x).flatMap enc)/\Wrote h h' b:=by
 have hle:(i+1)*es<=l.length*es:=Nat.mul_le_mul_right _ (by omega);rw[Nat.add_mul]at hle;obtain⟨h',w1,w2,w3⟩:=c.write (o:=i*es) (vs:=enc x) (by rw[flatE_len he,he];omega);refine⟨h',w1,?_,w3⟩;have e:∀(l:List α) (i:Nat),i<l.length->(l.flatMap enc).take (i*es)++(enc x++(l.flatMap enc).drop (i*es+(enc x).length))=(l.set i x).flatMap enc:=by
  intro l
  induction l with
  |nil=>intro i hi;simp at hi
  |cons c l ih=>
   intro i hi;cases i with
   |zero=>
    rw[List.set_cons_zero,List.flatMap_cons,List.flatMap_cons,Nat.zero_mul,Nat.zero_add,List.take_zero,List.nil_append,he,<-he c,List.drop_left]
   |succ i=>
    rw[List.set_cons_succ,List.flatMap_cons,List.flatMap_cons,show(i+1)*es=(enc c).length+i*es by rw[he,Nat.add_mul];omega,List.take_length_add_append,Nat.add_assoc,List.drop_length_add_append,List.append_assoc];rw[ih i (by simpa using hi)]
 rw[<-e l i hi];exact w2
end Go.Proofs.Ytdpbiegfljmhmaa
namespace Go.Proofs.Ytdpbiegfljmhmaa
def fits(q:Rat):Prop:=-1000000000000000000<=q.num/\q.num<=1000000000000000000/\(q.den:Int)<=1000000000000000000
def isF(n d:Int)(q:Rat):Prop:=n=q.num/\d=q.den/\fits q
def okF(n d:Int):Prop:=∃q,isF n d q
theorem okF_iff(n d:Int):okF n d↔1<=d/\d<=1000000000000000000/\-1000000000000000000<=n/\n<=1000000000000000000/\Int.gcd n d=1:=by
 constructor
 ·rintro⟨q,rfl,rfl,h1,h2,h3⟩
  have:=q.den_pos;refine⟨by omega,h3,h1,h2,?_⟩;have:=q.reduced;unfold Nat.Coprime at this;unfold Int.gcd;simpa using this
 ·rintro⟨h1,h2,h3,h4,h5⟩
  refine⟨⟨n,d.toNat,by omega,?_⟩,rfl,?_,h3,h4,?_⟩
  ·unfold Nat.Coprime
   unfold Int.gcd at h5;rw[show d.toNat=d.natAbs by omega];exact h5
  ·show d=((d.toNat:Nat):Int);omega
  ·show((d.toNat:Nat):Int)<=_;omega
end Go.Proofs.Ytdpbiegfljmhmaa
namespace Go.Proofs.Ytdpbiegfljmhmaa
theorem gcd_nat{a b:Int}(ha:0<=a)(hb:0<=b):Int.gcd a b=Nat.gcd a.toNat b.toNat:=by
 unfold Int.gcd;rw[show a.natAbs=a.toNat by omega,show b.natAbs=b.toNat by omega]
end Go.Proofs.Ytdpbiegfljmhmaa
namespace Go.Proofs.Ytdpbiegfljmhmaa
def bnd(q:Rat)(N D:Nat):Prop:=q.num.natAbs<=N/\q.den<=D
end Go.Proofs.Ytdpbiegfljmhmaa
namespace Go.Proofs.Ytdpbiegfljmhmaa
open Go.Sim
theorem wrapU{x:Int}(h1:0<=x)(h2:x<18446744073709551616):IntKind.wrap .u64 x=x:=by
 unfold IntKind.wrap;simp[IntKind.bits,IntKind.signed,IntKind.min,IntKind.max];omega
theorem wrapUm(x:Int):IntKind.wrap .u64 x=x % 18446744073709551616:=by
 unfold IntKind.wrap;simp[IntKind.bits,IntKind.signed,IntKind.min,IntKind.max];try omega
theorem _root_.Go.Sim.Ext.lower'{h h1 h2:AHeap}(e:Ext h h2)(e1:Ext h h1)(hl:h.low<=h.next):Ext h (h2.lowered h1.low):=by
 have a:=e.lowG;have b:=e1.lowG;have c:=e.low hl;refine⟨e.next,fun _=>?_,?_,e.get⟩
 ·show Nat.min h1.low h2.low<=h2.next
  have:Nat.min h1.low h2.low<=h2.low:=Nat.min_le_right _ _;omega
 ·show Nat.min h.low h.next<=Nat.min h1.low h2.low
  exact Nat.le_min.2 ⟨b,a⟩
variable{F:Prims}{call head arith cmp scmp bnot bsame conv neg imax imin ofNat slen place inR nz geZ rd wr push next mkOK nat zeros sadd eqAgg cut slc sslc strAt part app cpy putAt fresh lowered bump wrote addN lt ne fpAll fpApp brk yn rng mget mput mnew bytes clr:_}(hA:AP F ⟨call,head,arith,cmp,scmp,bnot,bsame,conv,neg,imax,imin,ofNat,slen,place,inR,nz,geZ,rd,wr,push,next,mkOK,nat,zeros,sadd,eqAgg,cut,slc,sslc,strAt,part,app,cpy,putAt,fresh,lowered,bump,wrote,addN,lt,ne,fpAll,fpApp,brk,yn,rng,mget,mput,mnew,bytes,clr⟩)
include hA
theorem ext_fresh(X:AHeap):Ext X (fresh X):=by rw[e_fresh hA];exact .freshed _
theorem low_fresh(X:AHeap):(fresh X).low<=(fresh X).next:=by rw[e_fresh hA];exact freshed_low _
theorem ext_low{h X h':AHeap}(hl:h.low<=h.next)(y:Ext h X)(z:Ext (fresh X) h'):Ext h (lowered X h'):=by
 rw[e_lowered hA];exact Ext.lower' ((y.trans (ext_fresh hA X)).trans z) y hl
theorem low_same{X:AHeap}(hl:X.low<=X.next):lowered X (fresh X)=X:=by rw[e_lowered hA,e_fresh hA];exact lowered_freshed hl
theorem ext_bump(h:AHeap)(n:Nat):Ext h (bump h n):=by rw[e_bump hA];exact .bump _ _
theorem e_and(k:IntKind)(a b:Int):arith .and k a b=k.wrap (BitVec.ofInt k.bits a &&& BitVec.ofInt k.bits b).toNat:=by have:=hA.eq;injections;subst_vars;rfl
theorem e_shl(k:IntKind)(a b:Int):arith .shl k a b=k.wrap (a*2 ^ (min b.toNat k.bits)):=by have:=hA.eq;injections;subst_vars;rfl
theorem e_shr(k:IntKind)(a b:Int):arith .shr k a b=a.fdiv (2 ^ (min b.toNat k.bits)):=by have:=hA.eq;injections;subst_vars;rfl
theorem addU{a b:Int}(h1:0<=a+b)(h2:a+b<18446744073709551616):arith .add .u64 a b=a+b:=by rw[e_add hA,wrapU h1 h2]
theorem remU{a b:Int}(h0:0<=a):arith .rem .u64 a b=a % b:=by
 rw[e_rem hA,Int.tmod_eq_emod_of_nonneg h0]
theorem convU{a:Int}(h0:0<=a)(h1:a<18446744073709551616):conv .u64 a=a:=by rw[e_conv hA,wrapU h0 h1]
theorem geZ_ok{b:Int}(h:0<=b):geZ b:=by
 have e:geZ b=(0<=b):=by have:=hA.eq;injections;subst_vars;rfl
 rw[e];exact h
end Go.Proofs.Ytdpbiegfljmhmaa
namespace Go.Proofs.Ytdpbiegfljmhmaa
open Go.Sim
theorem ext_bumpPut(h:AHeap)(n:Nat){b:Nat}(hb:h.next<=b)(es:Nat)(cs:List Value):Ext h ((h.bump n).putAt b es cs):=
 ⟨by simp[AHeap.bump,AHeap.putAt],fun l=>by simp only[AHeap.bump,AHeap.putAt];omega,by simp only[AHeap.bump,AHeap.putAt];exact Nat.min_le_left _ _,fun i hi=>by
  simp only[AHeap.bump,AHeap.putAt];rw[Tri.get_set_ne _ _ (by omega)]⟩
theorem all_flat{α:Type}{enc:α->List Value}(hok:∀x,(enc x).all cellOK=true)(l:List α):(l.flatMap enc).all cellOK=true:=by
 rw[List.all_flatMap];simp only[hok,List.all_eq_true,implies_true]
variable{F:Prims}{call head arith cmp scmp bnot bsame conv neg imax imin ofNat slen place inR nz geZ rd wr push next mkOK nat zeros sadd eqAgg cut slc sslc strAt part app cpy putAt fresh lowered bump wrote addN lt ne fpAll fpApp brk yn rng mget mput mnew bytes clr:_}(hA:AP F ⟨call,head,arith,cmp,scmp,bnot,bsame,conv,neg,imax,imin,ofNat,slen,place,inR,nz,geZ,rd,wr,push,next,mkOK,nat,zeros,sadd,eqAgg,cut,slc,sslc,strAt,part,app,cpy,putAt,fresh,lowered,bump,wrote,addN,lt,ne,fpAll,fpApp,brk,yn,rng,mget,mput,mnew,bytes,clr⟩)
include hA
theorem appR_ok{t e es:Nat}(hT:SliceT Try.prog t e es){α:Type}{enc:α->List Value}(he:∀x,(enc x).length=es)(hp0:0<es)(hok:∀x,(enc x).all cellOK=true){h:AHeap}{a:Option Addr}{n c:Nat}{l:List α}{v:α}(hp:Apd h es a n c (l.flatMap enc))(hn:n<=100000){C:Option Addr->Nat->Nat->AHeap->Prop}
  (hC:∀a' c' h',Apd h' es a' (n+1) c' ((l++[v]).flatMap enc)->(∀h0,Ext h0 h->From h0.next a->Ext h0 h'/\From h0.next a')->C a' (n+1) c' h') :
  app [t,t] [.slice a n c,.slice (some ⟨next h,0,none⟩) 1 1] (push h es (enc v)) C:=by
 rw[e_app hA,e_push hA,e_next hA];have hs:Cells (h.push es (enc v)) (some ⟨h.next,0,none⟩) 1 es (enc v):=⟨rfl,by simp[AHeap.push],by rw[(Own.push h es _).readG (by rw[he];omega),List.drop_zero,List.take_of_length_le (by rw[he];omega)]⟩;have hall:(l.flatMap enc).all cellOK=true:=by
  rw[List.all_flatMap];simp only[hok,List.all_eq_true,implies_true]
 obtain⟨a',c',h',h1,h2,h3⟩:=append_ok hT hT.und (c2:=1) (hp.ext (.push h es (enc v))) hs hall (hok v) (by omega) (by omega);refine⟨a',n+1,c',h',h1,hC a' c' h' (by simpa using h2) (fun h0 e0 f0=>h3 h0 (e0.trans (.push _ _ _)) f0)⟩
theorem appD_ok{t e es:Nat}(hT:SliceT Try.prog t e es){α:Type}{enc:α->List Value}(he:∀x,(enc x).length=es)(hp0:0<es)(hok:∀x,(enc x).all cellOK=true){h0 h h9:AHeap}(hlow:h0.low<=h0.next)(e0:Ext h0 h){N k:Nat}(hk:k<N)(hh9:h9=bump h N)
  {a:Option Addr} {n c:Nat} {l:List α} {v:α} (hp:Apd h es a n c (l.flatMap enc)) (hf:From h0.next a) (hn:n<=100000) {C:Option Addr->Nat->Nat->AHeap->Prop}
  (hC:∀a' c' h',Apd (lowered (putAt h9 (addN (next h) k) es (enc v)) h') es a' (n+1) c' ((l++[v]).flatMap enc)->From h0.next a'->Ext h0 (lowered (putAt h9 (addN (next h) k) es (enc v)) h')->C a' (n+1) c' h') :
  app [t,t] [.slice a n c,.slice (some ⟨addN (next h) k,0,none⟩) 1 1] (fresh (putAt h9 (addN (next h) k) es (enc v))) C:=by
 rw[e_bump hA]at hh9;subst hh9;rw[e_addN hA,e_next hA,e_putAt hA]at hC ⊢;rw[e_fresh hA];have x1:Ext h ((h.bump N).putAt (h.next+k) es (enc v)):=ext_bumpPut h N (by omega) es _;have o1:=Own.putAt (h.bump N) (h.next+k) es (enc v);have n1:((h.bump N).putAt (h.next+k) es (enc v)).next=h.next+N:=rfl;generalize (h.bump N).putAt (h.next+k) es (enc v)=X at *;have xf:=x1.trans (Ext.freshed X);have o2:Own X.freshed (h.next+k) es (enc v):=o1.ext (Ext.freshed X) (by omega);have hs:Cells X.freshed (some ⟨h.next+k,0,none⟩) 1 es (enc v):=⟨rfl,by show h.next+k<X.next;omega,by rw[o2.readG (by rw[he];omega),List.drop_zero,List.take_of_length_le (by rw[he];omega)]⟩;obtain⟨a',c',h',h1,h2,h3⟩:=append_ok hT hT.und (c2:=1) (hp.ext xf) hs (all_flat hok l) (hok v) (by omega) (by omega);obtain⟨w1,w2⟩:=h3 h0 (e0.trans xf) hf;rw[e_app hA];refine⟨a',n+1,c',h',h1,hC a' c' h' ?_ w2 ?_⟩
 ·rw[e_lowered hA]
  refine Apd.of_get (h:=h') (by simpa using h2) (Nat.le_refl _) (fun ad had hb=>rfl)
 ·rw[e_lowered hA]
  exact Ext.lower' w1 (e0.trans x1) hlow
end Go.Proofs.Ytdpbiegfljmhmaa
namespace Go.Proofs.Ytdpbiegfljmhmaa
open Go.Sim
theorem gt_map{α β:Type}[Inhabited α][Inhabited β](f:α->β)(l:List α){i:Int}(h0:0<=i)(h1:i<l.length):gt (l.map f) i=f (gt l i):=by
 unfold gt;rw[List.getD,List.getD,List.getElem?_map,List.getElem?_eq_getElem (by omega)];rfl
theorem gt_mem{α:Type}[Inhabited α](l:List α){i:Int}(h0:0<=i)(h1:i<l.length):gt l i∈l:=by
 have h2:i.toNat<l.length:=by omega
 unfold gt;rw[List.getD_eq_getElem?_getD,List.getElem?_eq_getElem h2];exact List.getElem_mem ..
end Go.Proofs.Ytdpbiegfljmhmaa
namespace Go.Proofs.Ytdpbiegfljmhmaa
open Go.Sim
set_option maxRecDepth 100000
variable{F:Prims}{call head arith cmp scmp bnot bsame conv neg imax imin ofNat slen place inR nz geZ rd wr push next mkOK nat zeros sadd eqAgg cut slc sslc strAt part app cpy putAt fresh lowered bump wrote addN lt ne fpAll fpApp brk yn rng mget mput mnew bytes clr:_}(hA:AP F ⟨call,head,arith,cmp,scmp,bnot,bsame,conv,neg,imax,imin,ofNat,slen,place,inR,nz,geZ,rd,wr,push,next,mkOK,nat,zeros,sadd,eqAgg,cut,slc,sslc,strAt,part,app,cpy,putAt,fresh,lowered,bump,wrote,addN,lt,ne,fpAll,fpApp,brk,yn,rng,mget,mput,mnew,bytes,clr⟩)
include hA
theorem appK_ok{t e es:Nat}(hT:SliceT Try.prog t e es){α:Type}{enc:α->List Value}(he:∀x,(enc x).length=es)(hp0:0<es)(hok:∀x,(enc x).all cellOK=true){h:AHeap}{a:Option Addr}{n c:Nat}{l:List α}{v:α}(hp:Apd h es a n c (l.flatMap enc))(hn:n<=100000){C:Option Addr->Nat->Nat->AHeap->Prop}
  (hC:∀b' h',Apd h' es (some ⟨b',0,none⟩) (n+1) (someCap es (n+1)) ((l++[v]).flatMap enc)->(∀h0,Ext h0 h->From h0.next a->Ext h0 h')->h.next<h'.next->h.next<b'->(∀i,i<h.next->(∀ad,a=some ad->ad.block≠i)->h'.m.get i=h.m.get i)->C (some ⟨b',0,none⟩) (n+1) (someCap es (n+1)) h') :
  app [t,t] [.slice a n c,.slice (some ⟨next h,0,none⟩) 1 1] (push h es (enc v)) C:=by
 rw[e_app hA,e_push hA,e_next hA];have hs:Cells (h.push es (enc v)) (some ⟨h.next,0,none⟩) 1 es (enc v):=⟨rfl,by simp[AHeap.push],by rw[(Own.push h es _).readG (by rw[he];omega),List.drop_zero,List.take_of_length_le (by rw[he];omega)]⟩;obtain⟨a',c',h',h1,h2,h3,h4,h5,h6⟩:=append_keep hT hT.und (c2:=1) (hp.ext (.push h es (enc v))) hs (all_flat hok l) (hok v) (by omega) (by omega);rcases h2 with ⟨_,w,_⟩|⟨b',rfl,rfl,w1,w2,w3⟩
 ·omega
 have nx:(h.push es (enc v)).next=h.next+1:=rfl;refine⟨_,n+1,_,h',h1,hC b' h' (.inr ⟨b',rfl,rfl,w1,by rw[flatE_len he];simp only[List.length_append,List.length_cons,List.length_nil];have:=hp.cells.length;rw[flatE_len he]at this;rw[Nat.eq_of_mul_eq_mul_right hp0 this],?_⟩) (fun h0 e0 f0=>(h3 h0 (e0.trans (.push _ _ _)) f0).1) (by omega) (by have:=h5 _ rfl;simp only at this;omega) (fun i hi ha=>?_)⟩
 ·simpa using w3
 ·rw[h6 i (by omega) ha]
  exact(Ext.push h es (enc v)).get i hi
end Go.Proofs.Ytdpbiegfljmhmaa
namespace Go.Proofs.Ytdpbiegfljmhmaa
open Go.Sim
set_option maxRecDepth 100000
def i64(n:Int):Prop:=-9223372036854775808<=n/\n<9223372036854775808
def u64(n:Int):Prop:=0<=n/\n<18446744073709551616
theorem gcd_rem{a b:Int}(hb:0<=b)(ha:0<=a):Int.gcd b (a % b)=Int.gcd a b:=by
 have m0:0<=a % b:=by
  by_cases h:b=0
  ·rw[h,Int.emod_zero];exact ha
  ·exact Int.emod_nonneg _ h
 rw[gcd_nat hb m0,gcd_nat ha hb];have e:(a % b).toNat=a.toNat % b.toNat:=by
  have:((a.toNat % b.toNat:Nat):Int)=a % b:=by
   rw[Int.natCast_emod,Int.toNat_of_nonneg ha,Int.toNat_of_nonneg hb]
  omega
 rw[e,Nat.gcd_comm,<-Nat.gcd_rec,Nat.gcd_comm]
variable{F:Prims}{call head arith cmp scmp bnot bsame conv neg imax imin ofNat slen place inR nz geZ rd wr push next mkOK nat zeros sadd eqAgg cut slc sslc strAt part app cpy putAt fresh lowered bump wrote addN lt ne fpAll fpApp brk yn rng mget mput mnew bytes clr:_}(hA:AP F ⟨call,head,arith,cmp,scmp,bnot,bsame,conv,neg,imax,imin,ofNat,slen,place,inR,nz,geZ,rd,wr,push,next,mkOK,nat,zeros,sadd,eqAgg,cut,slc,sslc,strAt,part,app,cpy,putAt,fresh,lowered,bump,wrote,addN,lt,ne,fpAll,fpApp,brk,yn,rng,mget,mput,mnew,bytes,clr⟩)
include hA
theorem size_ok{h:AHeap}(hlow:h.low<=h.next){n:Int}(hn:i64 n){Q:Value->AHeap->Prop}(hQ:∀s:Int,s=n.natAbs->Q (.int .u64 s) h):call 71 [.int .i64 n] h Q:=by
 obtain⟨h0,h1⟩:=hn;refine hA.bodyR Try.func71 r71_ok (hA.alike _ _ _ rfl) hlow (zc ?_);refine br (n<0) (by rw[e_lss hA]) (fun c=>?_) (fun c=>?_)<;>refine zc ?_
 ·exact hQ _ (by rw[e_neg hA,e_conv hA,wrapUm,wrapUm];omega)
 ·exact hQ _ (by rw[e_conv hA,wrapUm];omega)
theorem gcd_loop{h0:AHeap}{Q:Exit->SS->Prop}:∀(m:Nat) (a b:Int) (h:AHeap),b.toNat<=m->u64 a->u64 b->Ext h0 h->
  (∀g:Int,g=Int.gcd a b->∀e kn K h',Ext h0 h'->Q (.exit 0) ⟨(0,.int .u64 g) :: e,kn,K,h'⟩)->head 72 1 0 ⟨[(0,.int .u64 a),(1,.int .u64 b)],0,[],h⟩ Q:=by
 intro m
 induction m with
 |zero=>
  intro a b h hm ha hb he hQ;have hb0:b=0:=by unfold u64 at hb;omega
  refine hA.roundR Try.func72 r72_ok (zc ?_);refine br (b≠0) (by rw[e_neq hA]) (fun c=>absurd hb0 c) (fun c=>?_)<;>refine zc ?_;exact hQ a (by rw[hb0];unfold Int.gcd;unfold u64 at ha;simp;omega) _ _ _ h he
 |succ m ih=>
  intro a b h hm ha hb he hQ;refine hA.roundR Try.func72 r72_ok (zc ?_);refine br (b≠0) (by rw[e_neq hA]) (fun c=>?_) (fun c=>?_)<;>refine zc ?_
  ·obtain⟨h9,hh9⟩:∃z,z=bump h 6:=⟨_,rfl⟩
   have e9:Ext h h9:=by rw[hh9,e_bump hA];exact .bump _ _
   rw[<-hh9];refine⟨nz_ok hA c,?_⟩;refine zc ?_;have h1:arith .rem .u64 a b=a % b:=remU hA ha.1;have hb1:0<b:=by have:=hb.1;omega
   have h2:0<=a % b:=Int.emod_nonneg _ c;have h3:a % b<b:=Int.emod_lt_of_pos _ hb1;rw[h1];refine ih b (a % b) h9 (by omega) hb ⟨h2,by have:=hb.2;omega⟩ (he.trans e9) (fun g hg=>hQ g ?_);rw[hg,gcd_rem hb.1 ha.1]
  ·have hb0:b=0:=by omega
   exact hQ a (by rw[hb0];unfold Int.gcd;unfold u64 at ha;simp;omega) _ _ _ h he
theorem gcd_ok{h:AHeap}(hlow:h.low<=h.next){a b:Int}(ha:u64 a)(hb:u64 b){Q:Value->AHeap->Prop}(hQ:∀g:Int,g=Int.gcd a b->∀h',Ext h h'->Q (.int .u64 g) h'):call 72 [.int .u64 a,.int .u64 b] h Q:=by
 refine hA.bodyR Try.func72 r72_ok (hA.alike _ _ _ rfl) hlow (zc ?_);refine gcd_loop hA b.toNat a b h (Nat.le_refl _) ha hb (.refl h) (fun g hg e kn K h' he=>?_);refine zc ?_;exact hQ g hg h' he
theorem rgcd_loop{h0:AHeap}{Q:Exit->SS->Prop}:∀(m:Nat) (a b:Int) (h:AHeap),b.toNat<=m->u64 a->u64 b->Ext h0 h->
  (∀g:Int,g=Int.gcd a b->∀e kn K h',Ext h0 h'->Q (.exit 0) ⟨(0,.int .u64 g) :: e,kn,K,h'⟩)->head 38 1 0 ⟨[(0,.int .u64 a),(1,.int .u64 b)],0,[],h⟩ Q:=by
 intro m
 induction m with
 |zero=>
  intro a b h hm ha hb he hQ;have hb0:b=0:=by unfold u64 at hb;omega
  refine hA.roundR Try.func38 r38_ok (zc ?_);refine br (b≠0) (by rw[e_neq hA]) (fun c=>absurd hb0 c) (fun c=>?_)<;>refine zc ?_;exact hQ a (by rw[hb0];unfold Int.gcd;unfold u64 at ha;simp;omega) _ _ _ h he
 |succ m ih=>
  intro a b h hm ha hb he hQ;refine hA.roundR Try.func38 r38_ok (zc ?_);refine br (b≠0) (by rw[e_neq hA]) (fun c=>?_) (fun c=>?_)<;>refine zc ?_
  ·obtain⟨h9,hh9⟩:∃z,z=bump h 6:=⟨_,rfl⟩
   have e9:Ext h h9:=by rw[hh9,e_bump hA];exact .bump _ _
   rw[<-hh9];refine⟨nz_ok hA c,?_⟩;refine zc ?_;have h1:arith .rem .u64 a b=a % b:=remU hA ha.1;have hb1:0<b:=by have:=hb.1;omega
   have h2:0<=a % b:=Int.emod_nonneg _ c;have h3:a % b<b:=Int.emod_lt_of_pos _ hb1;rw[h1];refine ih b (a % b) h9 (by omega) hb ⟨h2,by have:=hb.2;omega⟩ (he.trans e9) (fun g hg=>hQ g ?_);rw[hg,gcd_rem hb.1 ha.1]
  ·have hb0:b=0:=by omega
   exact hQ a (by rw[hb0];unfold Int.gcd;unfold u64 at ha;simp;omega) _ _ _ h he
theorem rgcd_ok{h:AHeap}(hlow:h.low<=h.next){a b:Int}(ha:u64 a)(hb:u64 b){Q:Value->AHeap->Prop}(hQ:∀g:Int,g=Int.gcd a b->∀h',Ext h h'->Q (.int .u64 g) h'):call 38 [.int .u64 a,.int .u64 b] h Q:=by
 refine hA.bodyR Try.func38 r38_ok (hA.alike _ _ _ rfl) hlow (zc ?_);refine rgcd_loop hA b.toNat a b h (Nat.le_refl _) ha hb (.refl h) (fun g hg e kn K h' he=>?_);refine zc ?_;exact hQ g hg h' he
theorem check_ok{h:AHeap}(hlow:h.low<=h.next){n d:Int}(hn:i64 n)(hd:i64 d){Q:Value->AHeap->Prop}
  (hQ:∀(e:Int) h',(e=0/\okF n d)\/(e=8/\¬okF n d)->Ext h h'->Q (.int .i64 e) h'):call 60 [.agg #[.int .i64 n,.int .i64 d]] h Q:=by
 have bad:¬(1<=d/\d<=1000000000000000000/\-1000000000000000000<=n/\n<=1000000000000000000/\Int.gcd n d=1)->¬okF n d:=fun w q=>w ((okF_iff n d).1 q)
 refine hA.bodyR Try.func60 r60_ok (hA.alike _ _ _ rfl) hlow (zc ?_);refine br (d<1) (by rw[e_lss hA]) (fun c1=>?_) (fun c1=>?_)<;>refine zc ?_
 ·exact hQ _ _ (.inr ⟨rfl,bad (by omega)⟩) (.refl h)
 refine br (1000000000000000000<d) (by rw[e_gtr hA]) (fun c2=>?_) (fun c2=>?_)<;>refine zc ?_
 ·exact hQ _ _ (.inr ⟨rfl,bad (by omega)⟩) (.refl h)
 refine br (n < -1000000000000000000) (by rw[e_lss hA]) (fun c3=>?_) (fun c3=>?_)<;>refine zc ?_
 ·exact hQ _ _ (.inr ⟨rfl,bad (by omega)⟩) (.refl h)
 refine br (1000000000000000000<n) (by rw[e_gtr hA]) (fun c4=>?_) (fun c4=>?_)<;>refine zc ?_
 ·exact hQ _ _ (.inr ⟨rfl,bad (by omega)⟩) (.refl h)
 obtain⟨h9,hh9⟩:∃z,z=bump h 8:=⟨_,rfl⟩;have e9:Ext h h9:=by rw[hh9];exact ext_bump hA _ _
 have l9:=e9.lowOK hlow;rw[<-hh9];refine zc ?_;refine size_ok hA (low_fresh hA h9) hn (fun s hs=>⟨_,rfl,?_⟩);refine zc ?_;rw[low_same hA l9];refine size_ok hA (low_fresh hA h9) hd (fun t ht=>⟨_,rfl,?_⟩);refine zc ?_;rw[low_same hA l9];refine gcd_ok hA (low_fresh hA h9) (by unfold u64;omega) (by unfold u64;omega) (fun g hg hz ez=>⟨_,rfl,?_⟩);refine zc ?_;obtain⟨hX,hhX⟩:∃z,z=lowered h9 hz:=⟨_,rfl⟩;have eX:Ext h hX:=by rw[hhX];exact ext_low hA hlow e9 ez
 rw[<-hhX];have hgg:g=Int.gcd n d:=by
  rw[hg,hs,ht];rfl
 refine br (g≠1) (by rw[e_neq hA]) (fun c5=>?_) (fun c5=>?_)<;>refine zc ?_
 ·exact hQ _ _ (.inr ⟨rfl,bad (by omega)⟩) eX
 ·exact hQ _ _ (.inl ⟨rfl,(okF_iff n d).2 (by omega)⟩) eX
end Go.Proofs.Ytdpbiegfljmhmaa
namespace Go.Proofs.Ytdpbiegfljmhmaa
open Go.Sim
set_option maxRecDepth 100000
def sgn(x:Int):Int:=if 0<x then 1 else if x=0 then 0 else -1
variable{F:Prims}{call head arith cmp scmp bnot bsame conv neg imax imin ofNat slen place inR nz geZ rd wr push next mkOK nat zeros sadd eqAgg cut slc sslc strAt part app cpy putAt fresh lowered bump wrote addN lt ne fpAll fpApp brk yn rng mget mput mnew bytes clr:_}(hA:AP F ⟨call,head,arith,cmp,scmp,bnot,bsame,conv,neg,imax,imin,ofNat,slen,place,inR,nz,geZ,rd,wr,push,next,mkOK,nat,zeros,sadd,eqAgg,cut,slc,sslc,strAt,part,app,cpy,putAt,fresh,lowered,bump,wrote,addN,lt,ne,fpAll,fpApp,brk,yn,rng,mget,mput,mnew,bytes,clr⟩)
include hA
end Go.Proofs.Ytdpbiegfljmhmaa
namespace Go.Proofs.Ytdpbiegfljmhmaa
open Go.Sim
set_option maxRecDepth 100000
theorem prim_add{x y c:Int}(hx:0<=x)(hy:0<=y)(hc:0<=c/\c<=1)(h:AHeap):prims0 113 [.int .u64 x,.int .u64 y,.int .u64 c] h=some (.tuple #[.int .u64 ((x+y+c) % 18446744073709551616),.int .u64 ((x+y+c) / 18446744073709551616)],h):=by
 have e:add64F [.int .u64 x,.int .u64 y,.int .u64 c]=some (.tuple #[.int .u64 ((x+y+c) % 18446744073709551616),.int .u64 ((x+y+c) / 18446744073709551616)]):=by
  show(if 0<=x/\0<=y/\0<=c/\c<=1 then some _ else none)=_;rw[if_pos ⟨hx,hy,hc.1,hc.2⟩]
 have p:prims0 113 [.int .u64 x,.int .u64 y,.int .u64 c] h=withFn 113 add64F (withFn 115 sub64F noPrims) 113 [.int .u64 x,.int .u64 y,.int .u64 c] h:=rfl;rw[p];unfold withFn;rw[e];rfl
theorem prim_sub{x y c:Int}(hx:u64 x)(hy:u64 y)(hc:0<=c/\c<=1)(h:AHeap):prims0 115 [.int .u64 x,.int .u64 y,.int .u64 c] h=some (.tuple #[.int .u64 ((x-y-c) % 18446744073709551616),.int .u64 (if x<y+c then 1 else 0)],h):=by
 have e:sub64F [.int .u64 x,.int .u64 y,.int .u64 c]=some (.tuple #[.int .u64 ((x-y-c) % 18446744073709551616),.int .u64 (if x<y+c then 1 else 0)]):=by
  obtain⟨x0,x1⟩:=hx;obtain⟨y0,y1⟩:=hy;show(if 0<=x/\0<=y/\0<=c/\c<=1 then some _ else none)=_;rw[if_pos ⟨x0,y0,hc.1,hc.2⟩];have e1:Int.ofNat ((x.toNat+18446744073709551616-y.toNat-c.toNat) % 18446744073709551616)=(x-y-c) % 18446744073709551616:=by
   show(((x.toNat+18446744073709551616-y.toNat-c.toNat) % 18446744073709551616:Nat):Int)=_;omega
  have e2:Int.ofNat (if x.toNat<y.toNat+c.toNat then 1 else 0)=if x<y+c then 1 else 0:=by
   by_cases w:x<y+c
   ·rw[if_pos w,if_pos (by omega)];rfl
   ·rw[if_neg w,if_neg (by omega)];rfl
  rw[e1,e2]
 have p:prims0 115 [.int .u64 x,.int .u64 y,.int .u64 c] h=withFn 115 sub64F noPrims 115 [.int .u64 x,.int .u64 y,.int .u64 c] h:=rfl;rw[p];unfold withFn;rw[e];rfl
variable{F:Prims}{call head arith cmp scmp bnot bsame conv neg imax imin ofNat slen place inR nz geZ rd wr push next mkOK nat zeros sadd eqAgg cut slc sslc strAt part app cpy putAt fresh lowered bump wrote addN lt ne fpAll fpApp brk yn rng mget mput mnew bytes clr:_}(hA:AP F ⟨call,head,arith,cmp,scmp,bnot,bsame,conv,neg,imax,imin,ofNat,slen,place,inR,nz,geZ,rd,wr,push,next,mkOK,nat,zeros,sadd,eqAgg,cut,slc,sslc,strAt,part,app,cpy,putAt,fresh,lowered,bump,wrote,addN,lt,ne,fpAll,fpApp,brk,yn,rng,mget,mput,mnew,bytes,clr⟩)
include hA
theorem add64_ok{h:AHeap}{x y c:Int}(hx:0<=x)(hy:0<=y)(hc:0<=c/\c<=1){Q:Value->AHeap->Prop}(hQ:∀s k:Int,s=(x+y+c) % 18446744073709551616->k=(x+y+c) / 18446744073709551616->Q (.tuple #[.int .u64 s,.int .u64 k]) h):call 113 [.int .u64 x,.int .u64 y,.int .u64 c] h Q:=
 hA.prim ((hA.alike _ _ _ rfl).trans (prim_add hx hy hc h)) (hQ _ _ rfl rfl)
theorem sub64_ok{h:AHeap}{x y c:Int}(hx:u64 x)(hy:u64 y)(hc:0<=c/\c<=1){Q:Value->AHeap->Prop}(hQ:∀s k:Int,s=(x-y-c) % 18446744073709551616->k=(if x<y+c then 1 else 0)->Q (.tuple #[.int .u64 s,.int .u64 k]) h):call 115 [.int .u64 x,.int .u64 y,.int .u64 c] h Q:=
 hA.prim ((hA.alike _ _ _ rfl).trans (prim_sub hx hy hc h)) (hQ _ _ rfl rfl)
