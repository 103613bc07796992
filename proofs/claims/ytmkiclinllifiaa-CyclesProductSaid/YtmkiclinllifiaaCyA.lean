import Derived.Test.YtmkiclinllifiaaSymFacts
import Derived.Test.YtmkiclinllifiaaQuPd
import Derived.Test.YtmkiclinllifiaaCxA
set_option linter.unusedSimpArgs false
set_option linter.unusedVariables false
namespace Go.Sim
section
variable{α β:Type}[DecidableEq α]
def getL:List (α×β)->α->Option β
 | [],_=>none
 |e :: l,k=>if e.1=k then some e.2 else getL l k
def encE(ek:α->Value)(eb:β->Value)(l:List (α×β)):List (Value×Value):=l.map fun e=>(ek e.1,eb e.2)
theorem getL_app(l m:List (α×β))(k:α):getL (l++m) k=(getL l k).or (getL m k):=by
 induction l with
 |nil=>rfl
 |cons e l ih=>
  simp only[List.cons_append,getL];by_cases c:e.1=k
  ·simp[c]
  ·simp[c,ih]
theorem getL_mem:∀{l:List (α×β)} {k:α} {v:β},getL l k=some v->(k,v)∈l
 | [],k,v,h=>by cases h
 |e :: l,k,v,h=>by
  simp only[getL]at h;by_cases c:e.1=k
  ·rw[if_pos c]at h
   obtain rfl:=Option.some.inj h;subst c;exact List.mem_cons_self
  ·rw[if_neg c]at h
   exact List.mem_cons_of_mem _ (getL_mem h)
theorem getL_none:∀{l:List (α×β)} {k:α},getL l k=none↔∀e∈l,e.1≠k
 | [],k=>by simp[getL]
 |e :: l,k=>by
  simp only[getL];by_cases c:e.1=k
  ·rw[if_pos c]
   simp only[reduceCtorEq,List.mem_cons,forall_eq_or_imp,false_iff,not_and];exact fun h=>absurd c h
  ·rw[if_neg c,getL_none]
   simp only[List.mem_cons,forall_eq_or_imp];exact⟨fun h=>⟨c,h⟩,fun h=>h.2⟩
structure KeyE(P:Program)(kt:TypeId)(kd:TypeDesc)(ek:α->Value):Prop where
 und:P.underlying kt=some kd
 ok:∀a,keyOK P kt kd (ek a)=true
 same:∀a b,sameA kd (ek a) (ek b)=some (decide (a=b))
theorem find_enc{P:Program}{kt:TypeId}{kd:TypeDesc}{ek:α->Value}(hk:KeyE P kt kd ek)(eb:β->Value):∀(l:List (α×β)) (k:α) (i:Nat),
  (getL l k=none/\findA kd (ek k) (encE ek eb l) i=some none)\/∃j v,getL l k=some v/\findA kd (ek k) (encE ek eb l) i=some (some (i+j,eb v))/\l[j]?=some (k,v)/\∀v' k',getL (l.set j (k,v')) k'=if k'=k then some v' else getL l k'
 | [],k,i=>.inl ⟨rfl,rfl⟩
 |e :: l,k,i=>by
  have hc:findA kd (ek k) (encE ek eb (e :: l)) i=if k=e.1 then some (some (i,eb e.2))else findA kd (ek k) (encE ek eb l) (i+1):=by
   show findA kd (ek k) ((ek e.1,eb e.2) :: encE ek eb l) i=_;simp only[findA,hk.same];by_cases c:k=e.1
   ·simp[c]
   ·simp[c]
  by_cases c:e.1=k
  ·right
   refine⟨0,e.2,by simp[getL,c],by rw[hc,if_pos c.symm];rfl,by simp[<-c],fun v' k'=>?_⟩;simp only[List.set_cons_zero,getL];by_cases c2:k'=k
   ·simp[c2]
   ·rw[if_neg (fun q=>c2 q.symm),if_neg c2,if_neg (fun q=>c2 (q.symm.trans c))]
  ·rcases find_enc hk eb l k (i+1)with ⟨h1,h2⟩|⟨j,v,h1,h2,h3,h4⟩
   ·exact .inl ⟨by simp only[getL,if_neg c,h1],by rw[hc,if_neg (fun q=>c q.symm),h2]⟩
   ·refine .inr ⟨j+1,v,by simp only[getL,if_neg c,h1],by rw[hc,if_neg (fun q=>c q.symm),h2];congr 3;omega,by simpa using h3,fun v' k'=>?_⟩
    simp only[List.set_cons_succ,getL,h4];by_cases c2:e.1=k'
    ·rw[if_pos c2,if_neg (fun q=>c (c2.trans q)),if_pos c2]
    ·rw[if_neg c2,if_neg c2]
structure MapT(P:Program)(t:TypeId)(ek:α->Value)(eb:β->Value)(z:β):Prop where
 ex:∃kt kd et,P.underlying t=some (.map kt et)/\KeyE P kt kd ek/\zeroT P et=some (eb z)/\∀v,noLoc (eb v)=true
theorem look_enc{P:Program}{t:TypeId}{ek:α->Value}{eb:β->Value}{z:β}(hT:MapT P t ek eb z){h:AHeap}{id:Nat}{l:List (α×β)}(hm:h.m.get id=some (.map (encE ek eb l)))(k:α) :
  lookupH P h t (.map (some id)) (ek k) true=some (.tuple #[eb ((getL l k).getD z),.bool (getL l k).isSome],h):=by
 obtain⟨kt,kd,et,h1,h2,h3,h4⟩:=hT.ex;unfold lookupH entriesA;simp only[h1,h2.und,h3,hm,h2.ok,cond_true];rcases find_enc h2 eb l k 0 with ⟨e1,e2⟩|⟨j,v,e1,e2,_⟩
 ·simp only[e1,e2,found,cond_true,Option.getD_none,Option.isSome_none]
 ·simp only[e1,e2,found,cond_true,Option.getD_some,Option.isSome_some]
theorem put_enc{P:Program}{t:TypeId}{ek:α->Value}{eb:β->Value}{z:β}(hT:MapT P t ek eb z){h:AHeap}{id:Nat}{l:List (α×β)}(hm:h.m.get id=some (.map (encE ek eb l)))(k:α)(v:β) :
  ∃l',updateH P h t (.map (some id)) (ek k) (eb v)=some (undef,h.putB id (.map (encE ek eb l')))/\(∀k',getL l' k'=if k'=k then some v else getL l k')/\(getL l k=none->l'=l++[(k,v)])/\(∀u,getL l k=some u->l'.map (·.1)=l.map (·.1)):=by
 obtain⟨kt,kd,et,h1,h2,h3,h4⟩:=hT.ex;rcases find_enc h2 eb l k 0 with ⟨e1,e2⟩|⟨j,u,e1,e2,e3,e4⟩
 ·refine⟨l++[(k,v)],?_,fun k'=>?_,fun _=>rfl,(fun u hu=>by rw[e1]at hu;cases hu)⟩
  ·unfold updateH
   simp only[h1,h2.und,hm,h2.ok,h4,Bool.and_self,cond_true,e2];unfold encE;rw[List.map_append];rfl
  ·rw[getL_app]
   by_cases c:k'=k
   ·subst c
    simp[e1,getL]
   ·simp only[if_neg c,getL,if_neg (fun q:k=k'=>c q.symm),Option.or_none]
 ·refine⟨l.set j (k,v),?_,fun k'=>e4 v k',(fun q=>by rw[e1]at q;cases q),fun _ _=>?_⟩
  ·unfold updateH
   simp only[h1,h2.und,hm,h2.ok,h4,Bool.and_self,cond_true,e2,Nat.zero_add];unfold encE;rw[List.map_set]
  ·rw[List.map_set]
   refine List.ext_getElem? fun i=>?_
   rw[List.getElem?_set];by_cases c:j=i
   ·subst c
    have hj:j<l.length:=(List.getElem?_eq_some_iff.1 e3).1;rw[if_pos rfl,if_pos (by simpa using hj),List.getElem?_map,e3];rfl
   ·rw[if_neg c]
end
def intK(n:Int):Value:=.int .i64 n
def boolK(b:Bool):Value:=.bool b
def pairK(p:Int×Int):Value:=.agg #[.int .i64 p.1,.int .i64 p.2]
theorem keyInt{P:Program}{kt:TypeId}(h:P.underlying kt=some (.int .i64)):KeyE P kt (.int .i64) intK:=
 ⟨h,fun a=>rfl,fun a b=>by simp only[sameA,intK,Instr.sameNow,if_true];rfl⟩
theorem keyPair{P:Program}{kt:TypeId}{kd:TypeDesc}(h:P.underlying kt=some kd)(hp:pairDesc P kd=true)(hs:P.stoodInHeld kt=false):KeyE P kt kd pairK:=
 ⟨h,fun a=>by simp only[keyOK,hp,hs,pairK,isPair,Bool.not_false,Bool.and_self,Bool.or_true],fun a b=>by
  obtain⟨f1,f2,_,_,rfl,_⟩:=pairDesc_spec hp;simp only[sameA,pairK,samePair,and_self,if_true]
  congr 1
  rcases a with ⟨a1,a2⟩
  rcases b with ⟨b1,b2⟩
  by_cases c1:a1=b1<;>by_cases c2:a2=b2<;>simp[c1,c2]⟩
end Go.Sim
namespace Go.Proofs.Ytmkiclinllifiaa
open Go.Sim
variable{F:Prims}{call head arith cmp scmp bnot bsame conv neg imax imin ofNat slen place inR nz geZ rd wr push next mkOK nat zeros sadd eqAgg cut slc sslc strAt part app cpy putAt fresh lowered bump wrote addN lt ne fpAll fpApp brk yn rng mget mput mnew bytes clr mrng ment:_}(hA:AP F ⟨call,head,arith,cmp,scmp,bnot,bsame,conv,neg,imax,imin,ofNat,slen,place,inR,nz,geZ,rd,wr,push,next,mkOK,nat,zeros,sadd,eqAgg,cut,slc,sslc,strAt,part,app,cpy,putAt,fresh,lowered,bump,wrote,addN,lt,ne,fpAll,fpApp,brk,yn,rng,mget,mput,mnew,bytes,clr,mrng,ment⟩)
include hA
theorem e_mget(t:TypeId)(m k:Value)(h:AHeap)(v:Value)(b:Bool):mget t m k h v b=(lookupH Try.prog h t m k true=some (.tuple #[v,.bool b],h)):=by have:=hA.eq;injections;subst_vars;rfl
theorem e_mput(t:TypeId)(m k v:Value)(h h':AHeap):mput t m k v h h'=(updateH Try.prog h t m k v=some (undef,h')):=by have:=hA.eq;injections;subst_vars;rfl
theorem e_mnew(h:AHeap):mnew h=h.pushB (.map []):=by have:=hA.eq;injections;subst_vars;rfl
end Go.Proofs.Ytmkiclinllifiaa
namespace Go.Proofs.Ytmkiclinllifiaa
open Go.Sim
set_option maxRecDepth 100000
variable{F:Prims}{call head arith cmp scmp bnot bsame conv neg imax imin ofNat slen place inR nz geZ rd wr push next mkOK nat zeros sadd eqAgg cut slc sslc strAt part app cpy putAt fresh lowered bump wrote addN lt ne fpAll fpApp brk yn rng mget mput mnew bytes clr mrng ment:_}(hA:AP F ⟨call,head,arith,cmp,scmp,bnot,bsame,conv,neg,imax,imin,ofNat,slen,place,inR,nz,geZ,rd,wr,push,next,mkOK,nat,zeros,sadd,eqAgg,cut,slc,sslc,strAt,part,app,cpy,putAt,fresh,lowered,bump,wrote,addN,lt,ne,fpAll,fpApp,brk,yn,rng,mget,mput,mnew,bytes,clr,mrng,ment⟩)
include hA
theorem sortfunc_ok{h0 h:AHeap}(hlow:h0.low<=h0.next){b n c:Nat}{L:List F2}(t:Dat h0 h b n L){Q:Value->AHeap->Prop}
  (hQ:∀h' L',Dat h0 h' b n L'->PermOn 0 n L L'->SortedOn leF L' 0 n->Q (.tuple #[]) h'):call 77 [.slice (some ⟨b,0,none⟩) n c,.func (.func 78) #[] #[]] h Q:=by
 have hlow':=hlow
 replace hlow:=t.ext.lowOK hlow
 have few:=t.few;refine hA.bodyR Try.func77 r77_ok (hA.alike _ _ _ rfl) hlow (zc ?_);rw[e_ofNat hA,convU hA (by omega) (by omega)];refine len_ok hA hlow (by unfold u64;omega) (fun k hk=>⟨_,rfl,?_⟩);obtain⟨n0,n1,n2⟩:=hk;have k40:k<=40:=by
  by_cases c:k<=40
  ·exact c
  ·have h1:=Nat.pow_le_pow_right (n:=2) (by omega) (show 40<=k.toNat by omega)
   have h2:((2 ^ 40:Nat):Int)<=((2 ^ k.toNat:Nat):Int):=by exact_mod_cast h1
   have h3:((2 ^ k.toNat:Nat):Int)=2 ^ k.toNat:=by push_cast;rfl
   have h4:((2 ^ 40:Nat):Int)=1099511627776:=by decide
   have h5:max (n:Int) 1<=100001:=by omega
   omega
 refine zc ?_;refine pdq_ok hA hlow' (c:=c) (n+1) h L 0 n k _ (by omega) (by omega) (by omega) (Int.le_refl _) n0 (by omega) (.inl rfl) t (fun h' L' t' hp hs=>?_);refine zc ?_;exact hQ h' L' t' hp hs
end Go.Proofs.Ytmkiclinllifiaa
namespace Go.Proofs.Ytmkiclinllifiaa
open Go.Sim
set_option maxRecDepth 100000
structure Vk where
 i:Int
 j:Int
 re:Int
 im:Int
 den:Int
 n:Int
instance:Inhabited Vk:=⟨⟨0,0,0,0,0,0⟩⟩
def Vk.cells(v:Vk):List Value:=[.int .i64 v.i,.int .i64 v.j,.int .i64 v.re,.int .i64 v.im,.int .i64 v.den,.int .i64 v.n]
theorem vk_len(v:Vk):v.cells.length=6:=rfl
theorem vk_ok(v:Vk):v.cells.all cellOK=true:=rfl
abbrev Vs(h:AHeap)(a:Option Addr)(n:Nat)(l:List Vk):Prop:=Rows Vk.cells 6 h a n l
theorem vs_at{h:AHeap}{a:Option Addr}{n:Nat}{l:List Vk}(p:Vs h a n l){i:Int}(h0:0<=i)(hi:i<n) :
  ∃b o x y z u d w,a=some ⟨b,o,none⟩/\b<h.next/\gt l i=⟨x,y,z,u,d,w⟩/\h.readG ⟨b,o+i.toNat*6,none⟩ 6=some [.int .i64 x,.int .i64 y,.int .i64 z,.int .i64 u,.int .i64 d,.int .i64 w] /\
   ∀f m,f+m<=6->0<m->h.readG ⟨b,o+i.toNat*6+f,none⟩ m=some (((gt l i).cells.drop f).take m):=by
 obtain⟨b,o,e,h1,h2⟩:=p.at h0 (by have:=p.len;omega);obtain⟨x,y,z,u,d,w,hx⟩:∃x y z u d w,gt l i=⟨x,y,z,u,d,w⟩:=⟨_,_,_,_,_,_,rfl⟩;refine⟨b,o,x,y,z,u,d,w,e,h1,hx,?_,h2⟩;have:=h2 0 6 (by omega) (by omega);rw[hx]at this;exact this
def Vk.pr(v:Vk):F2:=⟨v.i,v.j⟩
def stOK(l:List Vk):Prop:=∀i:Int,0<=i->i<l.length->okP (gt l i).i (gt l i).j
theorem okP_of{n d:Int}(h1:0<=n)(h2:n<8)(h3:0<=d)(h4:d<8):okP n d:=⟨_,h1,h2,h3,h4,rfl⟩
theorem TP2:SliceT Try.prog 23 54 2:=⟨by kernel_rfl,by kernel_rfl,⟨16,by kernel_rfl,by omega⟩,⟨.agg #[.int .i64 0,.int .i64 0],by kernel_rfl,rfl⟩⟩
theorem ext_cut{h:AHeap}{b:Nat}(hb:b<h.next):Ext { next:=b+1,low:=h.low,m:=h.m } h:=
 ⟨by show b+1<=h.next;omega,fun q=>by have q':h.low<=b+1:=q;omega,Nat.min_le_left _ _,fun _ _=>rfl⟩
def cutH(h:AHeap)(k:Nat):AHeap:={ next:=k,low:=min h.low k,m:=h.m }
theorem cut_low(h:AHeap)(k:Nat):(cutH h k).low<=(cutH h k).next:=Nat.min_le_right _ _
theorem cut_ext{h:AHeap}{k:Nat}(hk:k<=h.next)(hl:h.low<=h.next):Ext (cutH h k) h:=
 ⟨hk,fun _=>hl,by show Nat.min (min h.low k) k<=h.low;exact Nat.le_trans (Nat.min_le_left _ _) (Nat.min_le_left _ _),fun _ _=>rfl⟩
theorem cut_thru{h h2 h':AHeap}{k:Nat}(e:Ext h h2)(h1:h.next<=k)(x:Ext (cutH h2 k) h'):Ext h h':=by
 have x1:k<=h'.next:=x.next;have x2:h'.low<=h'.next:=x.low (cut_low _ _);have x3:min (min h2.low k) k<=h'.low:=x.lowG;have e3:min h.low h.next<=h2.low:=e.lowG;refine⟨by omega,fun _=>x2,?_,fun b hb=>?_⟩
 ·show min h.low h.next<=h'.low
  omega
 ·rw[x.get b (by show b<k;omega)]
  exact e.get b hb
theorem f2_ok'(x:F2):x.cells.all cellOK=true:=rfl
variable{F:Prims}{call head arith cmp scmp bnot bsame conv neg imax imin ofNat slen place inR nz geZ rd wr push next mkOK nat zeros sadd eqAgg cut slc sslc strAt part app cpy putAt fresh lowered bump wrote addN lt ne fpAll fpApp brk yn rng mget mput mnew bytes clr mrng ment:_}(hA:AP F ⟨call,head,arith,cmp,scmp,bnot,bsame,conv,neg,imax,imin,ofNat,slen,place,inR,nz,geZ,rd,wr,push,next,mkOK,nat,zeros,sadd,eqAgg,cut,slc,sslc,strAt,part,app,cpy,putAt,fresh,lowered,bump,wrote,addN,lt,ne,fpAll,fpApp,brk,yn,rng,mget,mput,mnew,bytes,clr,mrng,ment⟩)
include hA
theorem sort_nil{h:AHeap}(hlow:h.low<=h.next){Q:Value->AHeap->Prop}(hQ:∀h',Ext h h'->Q (.tuple #[]) h'):call 77 [.slice none 0 0,.func (.func 78) #[] #[]] h Q:=by
 refine hA.bodyR Try.func77 r77_ok (hA.alike _ _ _ rfl) hlow (zc ?_);rw[e_ofNat hA,convU hA (by omega) (by omega)];refine len_ok hA hlow (by unfold u64;omega) (fun k hk=>⟨_,rfl,?_⟩);refine zc ?_;refine hA.bodyR Try.func82 r82_ok (hA.alike _ _ _ rfl) hlow (zc ?_);refine hA.roundR Try.func82 r82_ok (zc ?_);refine br True (by rw[e_leq hA];rw[e_sub hA];rfl) (fun _=>?_) (fun q=>absurd trivial q)<;>refine zc ?_;refine zc ?_;refine hA.bodyR Try.func85 r85_ok (hA.alike _ _ _ rfl) hlow (zc ?_);rw[show arith .add .i64 0 1=1 from add64 hA (by omega) (by omega)];refine hA.roundR Try.func85 r85_ok (zc ?_);refine br False (by rw[e_lss hA];rfl) (fun q=>q.elim) (fun _=>?_)<;>refine zc ?_;refine zc ?_;exact hQ h (.refl h)
theorem bl_loop{h0:AHeap}(hlow:h0.low<=h0.next){a:Option Addr}{n c:Nat}{N:Int}(hN:N=n){l:List Vk}(hl:Vs h0 a n l)(hn:n<=1000){b:Nat}(hb0:h0.next<=b){Q:Exit->SS->Prop}
  (hQ:∀h' a' c',Own h' b 1 [.slice a' n c']->Apd h' 2 a' n c' ((l.map Vk.pr).flatMap F2.cells)->From (b+1) a'->Ext h0 h'->b<h'.next->Q (.exit 0) ⟨[(3,.pointer (some ⟨b,0,none⟩))],0,[],h'⟩) :
  ∀(m:Nat) (i:Int) (k:Nat) (h:AHeap) (a':Option Addr) (c':Nat),(n-i).toNat<=m->0<=i->i<=n->(k:Int)=i->Own h b 1 [.slice a' k c']->Apd h 2 a' k c' (((l.map Vk.pr).take i.toNat).flatMap F2.cells)->From (b+1) a'->Ext h0 h->b<h.next->
   head 65 3 0 ⟨[(3,.pointer (some ⟨b,0,none⟩)),(6,.slice a n c),(7,.int .i64 N),(8,.int .i64 i)],0,[],h⟩ Q:=by
 have hlen:=hl.len;refine upTo (fun m ih=>?_);intro i k h a' c' hm i0 i1 hk ho hp hf he hb;by_cases ci:i<n
 rotate_left
 ·obtain rfl:k=n:=by omega
  refine hA.roundR Try.func65 r65_ok (zc ?_);refine br (i<N) (by rw[e_lss hA]) (fun c1=>by omega) (fun c1=>?_)<;>refine zc ?_;rw[List.take_of_length_le (by rw[List.length_map];omega)]at hp;exact hQ h a' c' ho hp hf he hb
 obtain⟨m,rfl⟩:∃k,m=k+1:=⟨m-1,by omega⟩
 replace ih:=ih m rfl
 obtain⟨bb,o,x,y,z,u,d,w,rfl,hbb,hg,r1,_⟩:=vs_at (hl.ext he) (i:=i) i0 ci;have q1:=rd_ok hA r1;have q2:rd h b 0 1 [.slice a' k c']:=rd_at hA (ho.readG (o:=0) (n:=1) (by simp));have e2:arith .add .i64 i 1=i+1:=add64 hA (by omega) (by omega);refine hA.roundR Try.func65 r65_ok (zc ?_);refine br (i<N) (by rw[e_lss hA]) (fun c1=>?_) (fun c1=>by omega)<;>refine zc ?_;refine zq ?_;refine⟨_,_,_,_,_,_,q1,?_⟩;refine zq ?_;obtain⟨hB,hhB⟩:∃z:AHeap,z = { next:=b+1,low:=h.low,m:=h.m }:=⟨_,rfl⟩;have xB:Ext hB h:=by rw[hhB];exact ext_cut hb
 have nB:hB.next=b+1:=by rw[hhB]
 refine appR_ok hA TP2 f2_len (by omega) f2_ok' (v:=⟨x,y⟩) hp (by omega) (fun a2 c2 h2 hp2 hx=>?_);obtain⟨x2,_⟩:=hx h0 he (fun ad had=>by have:=hf ad had;omega);obtain⟨xB2,hf2⟩:=hx hB xB (by rw[nB];exact hf);rw[nB]at hf2;have o2:Own h2 b 1 [.slice a' k c']:=by unfold Own at ho ⊢;rw[xB2.get b (by omega)];rw[hhB];exact ho
 have hb2:b<h2.next:=by have:=xB2.next;omega
 refine zc ?_;obtain⟨h3,w3,o3,k3⟩:=o2.write (o:=0) (vs:=[.slice a2 (k+1) c2]) (by simp);refine⟨h3,wr_at hA w3,?_⟩;refine zc ?_;rw[e2];have n3:=k3.next;refine ih (i+1) (k+1) h3 a2 c2 (by omega) (by omega) (by omega) (by omega) o3 ?_ hf2 (k3.ext x2 hb0) (by omega);rw[gt_take (l.map Vk.pr) i0 (by rw[List.length_map];omega),gt_map Vk.pr l i0 (by omega),hg];exact hp2.of_get (by omega) (fun ad had hlt=>k3.get _ (by have:=hf2 ad had;omega))
theorem baselines_ok{h:AHeap}(hlow:h.low<=h.next){a:Option Addr}{n c:Nat}{l:List Vk}(hl:Vs h a n l)(hs:stOK l)(hn:n<=1000){Q:Value->AHeap->Prop}
  (hQ:∀h' b a' c' P,Own h' b 1 [.slice a' n c']->Rows F2.cells 2 h' a' n P->PermOn 0 n (l.map Vk.pr) P->SortedOn leF P 0 n->h.next<=b->b<h'.next->From h.next a'->(∀ad,a'=some ad->ad.block≠b)->Ext h h'->Q (.func (.func 81) #[] #[.pointer (some ⟨b,0,none⟩)]) h') :
  call 65 [.slice a n c] h Q:=by
 have hlen:=hl.len;refine hA.bodyR Try.func65 r65_ok (hA.alike _ _ _ rfl) hlow (zc ?_);simp only[e_next hA,e_push hA,e_ofNat hA];have x1:=Ext.push h 1 [.slice none 0 0];have o1:=Own.push h 1 [.slice none 0 0];have n1:(h.push 1 [.slice none 0 0]).next=h.next+1:=rfl;generalize h.push 1 [.slice none 0 0]=h1 at *;refine bl_loop hA hlow rfl hl hn (b:=h.next) (Nat.le_refl _) (fun h2 a' c' o2 p2 f2 e2 b2=>?_) n 0 0 h1 none 0 (by omega) (by omega) (by omega) rfl o1 (by simp;exact Apd.nil _ _) (From.none _) x1 (by omega);have q2:rd h2 h.next 0 1 [.slice a' n c']:=rd_at hA (o2.readG (o:=0) (n:=1) (by simp));refine zq ?_;have fin:∀h' P,Ext (cutH h2 (h.next+1)) h'->Rows F2.cells 2 h' a' n P->PermOn 0 n (l.map Vk.pr) P->SortedOn leF P 0 n->Q (.func (.func 81) #[] #[.pointer (some ⟨h.next,0,none⟩)]) h':=fun h' P x hr hp hso=>by
  have nx:h.next+1<=h'.next:=x.next;refine hQ h' h.next a' c' P ?_ hr hp hso (Nat.le_refl _) (by omega) (fun ad had=>by have:=f2 ad had;omega) (fun ad had=>by have:=f2 ad had;omega) (cut_thru e2 (by omega) x);unfold Own at o2 ⊢;rw[x.get h.next (by show h.next<h.next+1;omega)];exact o2
 rcases p2 with ⟨rfl,rfl,rfl,p4⟩|⟨bb,rfl,rfl,p5,p6,p7⟩
 ·refine sort_nil hA (cut_ext b2 (e2.lowOK hlow) |>.lowOK (cut_low _ _)) (fun h' x=>?_)
  refine zc ?_;have hl0:l=[]:=List.length_eq_zero_iff.1 hlen;subst hl0;exact fin h' [] ((cut_ext b2 (e2.lowOK hlow)).trans x) (Rows.nil h' f2_len (by omega)) (.refl _ _ _) (fun i j h1 h2 h3=>by omega)
 ·have hbb:h.next+1<=bb:=f2 _ rfl
  have xc:=cut_ext (k:=h.next+1) (h:=h2) b2 (e2.lowOK hlow);have hd:Dat (cutH h2 (h.next+1)) h2 bb n (l.map Vk.pr):=⟨xc,p7,hbb,p5,by rw[List.length_map];exact hlen,fun i i0 i1=>by rw[gt_map Vk.pr l i0 (by omega)];exact hs i i0 (by omega),by omega⟩;refine sortfunc_ok hA (cut_low _ _) hd (fun h' P hd' hp hso=>?_);refine zc ?_;exact fin h' P hd'.ext (by have:=Own.rows hd'.own f2_len (by omega) hd'.lt;rw[hd'.len]at this;exact this) hp hso
