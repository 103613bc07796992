import Derived.Test.YtmkiclinllifiaaSymFacts
set_option linter.unusedSimpArgs false
set_option linter.unusedVariables false
namespace Go.Sim
section
variable{α β:Type}[DecidableEq α]
def getL:List (α×β)->α->Option β
 | [],_=>none
 |e :: l,k=>if e.1=k then some e.2 else getL l k
def encE(ek:α->Value)(eb:β->Value)(l:List (α×β)):List (Value×Value):=l.map fun e=>(ek e.1,eb e.2)
theorem getL_app(l m:List (α×β))(k:α):getL (l++m) k=(getL l k).or (getL m k):=by
 induction l with
 |nil=>rfl
 |cons e l ih=>
  simp only[List.cons_append,getL];by_cases c:e.1=k
  ·simp[c]
  ·simp[c,ih]
theorem getL_mem:∀{l:List (α×β)} {k:α} {v:β},getL l k=some v->(k,v)∈l
 | [],k,v,h=>by cases h
 |e :: l,k,v,h=>by
  simp only[getL]at h;by_cases c:e.1=k
  ·rw[if_pos c]at h
   obtain rfl:=Option.some.inj h;subst c;exact List.mem_cons_self
  ·rw[if_neg c]at h
   exact List.mem_cons_of_mem _ (getL_mem h)
theorem getL_none:∀{l:List (α×β)} {k:α},getL l k=none↔∀e∈l,e.1≠k
 | [],k=>by simp[getL]
 |e :: l,k=>by
  simp only[getL];by_cases c:e.1=k
  ·rw[if_pos c]
   simp only[reduceCtorEq,List.mem_cons,forall_eq_or_imp,false_iff,not_and];exact fun h=>absurd c h
  ·rw[if_neg c,getL_none]
   simp only[List.mem_cons,forall_eq_or_imp];exact⟨fun h=>⟨c,h⟩,fun h=>h.2⟩
structure KeyE(P:Program)(kt:TypeId)(kd:TypeDesc)(ek:α->Value):Prop where
 und:P.underlying kt=some kd
 ok:∀a,keyOK P kt kd (ek a)=true
 same:∀a b,sameA kd (ek a) (ek b)=some (decide (a=b))
theorem find_enc{P:Program}{kt:TypeId}{kd:TypeDesc}{ek:α->Value}(hk:KeyE P kt kd ek)(eb:β->Value):∀(l:List (α×β)) (k:α) (i:Nat),
  (getL l k=none/\findA kd (ek k) (encE ek eb l) i=some none)\/∃j v,getL l k=some v/\findA kd (ek k) (encE ek eb l) i=some (some (i+j,eb v))/\l[j]?=some (k,v)/\∀v' k',getL (l.set j (k,v')) k'=if k'=k then some v' else getL l k'
 | [],k,i=>.inl ⟨rfl,rfl⟩
 |e :: l,k,i=>by
  have hc:findA kd (ek k) (encE ek eb (e :: l)) i=if k=e.1 then some (some (i,eb e.2))else findA kd (ek k) (encE ek eb l) (i+1):=by
   show findA kd (ek k) ((ek e.1,eb e.2) :: encE ek eb l) i=_;simp only[findA,hk.same];by_cases c:k=e.1
   ·simp[c]
   ·simp[c]
  by_cases c:e.1=k
  ·right
   refine⟨0,e.2,by simp[getL,c],by rw[hc,if_pos c.symm];rfl,by simp[<-c],fun v' k'=>?_⟩;simp only[List.set_cons_zero,getL];by_cases c2:k'=k
   ·simp[c2]
   ·rw[if_neg (fun q=>c2 q.symm),if_neg c2,if_neg (fun q=>c2 (q.symm.trans c))]
  ·rcases find_enc hk eb l k (i+1)with ⟨h1,h2⟩|⟨j,v,h1,h2,h3,h4⟩
   ·exact .inl ⟨by simp only[getL,if_neg c,h1],by rw[hc,if_neg (fun q=>c q.symm),h2]⟩
   ·refine .inr ⟨j+1,v,by simp only[getL,if_neg c,h1],by rw[hc,if_neg (fun q=>c q.symm),h2];congr 3;omega,by simpa using h3,fun v' k'=>?_⟩
    simp only[List.set_cons_succ,getL,h4];by_cases c2:e.1=k'
    ·rw[if_pos c2,if_neg (fun q=>c (c2.trans q)),if_pos c2]
    ·rw[if_neg c2,if_neg c2]
structure MapT(P:Program)(t:TypeId)(ek:α->Value)(eb:β->Value)(z:β):Prop where
 ex:∃kt kd et,P.underlying t=some (.map kt et)/\KeyE P kt kd ek/\zeroT P et=some (eb z)/\∀v,noLoc (eb v)=true
theorem look_enc{P:Program}{t:TypeId}{ek:α->Value}{eb:β->Value}{z:β}(hT:MapT P t ek eb z){h:AHeap}{id:Nat}{l:List (α×β)}(hm:h.m.get id=some (.map (encE ek eb l)))(k:α) :
  lookupH P h t (.map (some id)) (ek k) true=some (.tuple #[eb ((getL l k).getD z),.bool (getL l k).isSome],h):=by
 obtain⟨kt,kd,et,h1,h2,h3,h4⟩:=hT.ex;unfold lookupH entriesA;simp only[h1,h2.und,h3,hm,h2.ok,cond_true];rcases find_enc h2 eb l k 0 with ⟨e1,e2⟩|⟨j,v,e1,e2,_⟩
 ·simp only[e1,e2,found,cond_true,Option.getD_none,Option.isSome_none]
 ·simp only[e1,e2,found,cond_true,Option.getD_some,Option.isSome_some]
theorem put_enc{P:Program}{t:TypeId}{ek:α->Value}{eb:β->Value}{z:β}(hT:MapT P t ek eb z){h:AHeap}{id:Nat}{l:List (α×β)}(hm:h.m.get id=some (.map (encE ek eb l)))(k:α)(v:β) :
  ∃l',updateH P h t (.map (some id)) (ek k) (eb v)=some (undef,h.putB id (.map (encE ek eb l')))/\(∀k',getL l' k'=if k'=k then some v else getL l k')/\(getL l k=none->l'=l++[(k,v)])/\(∀u,getL l k=some u->l'.map (·.1)=l.map (·.1)):=by
 obtain⟨kt,kd,et,h1,h2,h3,h4⟩:=hT.ex;rcases find_enc h2 eb l k 0 with ⟨e1,e2⟩|⟨j,u,e1,e2,e3,e4⟩
 ·refine⟨l++[(k,v)],?_,fun k'=>?_,fun _=>rfl,(fun u hu=>by rw[e1]at hu;cases hu)⟩
  ·unfold updateH
   simp only[h1,h2.und,hm,h2.ok,h4,Bool.and_self,cond_true,e2];unfold encE;rw[List.map_append];rfl
  ·rw[getL_app]
   by_cases c:k'=k
   ·subst c
    simp[e1,getL]
   ·simp only[if_neg c,getL,if_neg (fun q:k=k'=>c q.symm),Option.or_none]
 ·refine⟨l.set j (k,v),?_,fun k'=>e4 v k',(fun q=>by rw[e1]at q;cases q),fun _ _=>?_⟩
  ·unfold updateH
   simp only[h1,h2.und,hm,h2.ok,h4,Bool.and_self,cond_true,e2,Nat.zero_add];unfold encE;rw[List.map_set]
  ·rw[List.map_set]
   refine List.ext_getElem? fun i=>?_
   rw[List.getElem?_set];by_cases c:j=i
   ·subst c
    have hj:j<l.length:=(List.getElem?_eq_some_iff.1 e3).1;rw[if_pos rfl,if_pos (by simpa using hj),List.getElem?_map,e3];rfl
   ·rw[if_neg c]
end
def intK(n:Int):Value:=.int .i64 n
def boolK(b:Bool):Value:=.bool b
def pairK(p:Int×Int):Value:=.agg #[.int .i64 p.1,.int .i64 p.2]
theorem keyInt{P:Program}{kt:TypeId}(h:P.underlying kt=some (.int .i64)):KeyE P kt (.int .i64) intK:=
 ⟨h,fun a=>rfl,fun a b=>by simp only[sameA,intK,Instr.sameNow,if_true];rfl⟩
theorem keyPair{P:Program}{kt:TypeId}{kd:TypeDesc}(h:P.underlying kt=some kd)(hp:pairDesc P kd=true)(hs:P.stoodInHeld kt=false):KeyE P kt kd pairK:=
 ⟨h,fun a=>by simp only[keyOK,hp,hs,pairK,isPair,Bool.not_false,Bool.and_self,Bool.or_true],fun a b=>by
  obtain⟨f1,f2,_,_,rfl,_⟩:=pairDesc_spec hp;simp only[sameA,pairK,samePair,and_self,if_true]
  congr 1
  rcases a with ⟨a1,a2⟩
  rcases b with ⟨b1,b2⟩
  by_cases c1:a1=b1<;>by_cases c2:a2=b2<;>simp[c1,c2]⟩
end Go.Sim
namespace Go.Proofs.Ytmkiclinllifiaa
open Go.Sim
variable{F:Prims}{a0 b0 c0 d0 e0 f0 g0 h0 i0 j0 k0 l0 m0 n0 o0 nz p0 rd wr q0 r0 s0 t0 u0 v0 w0 x0 y0 z0 d1 g1 i1 j1 k1 l1 m1 n1 o1 p1 lt ne q1 r1 s1 yn t1 mget mput mnew u1 v1 w1 x1:_}(hA:AP F ⟨a0,b0,c0,d0,e0,f0,g0,h0,i0,j0,k0,l0,m0,n0,o0,nz,p0,rd,wr,q0,r0,s0,t0,u0,v0,w0,x0,y0,z0,d1,g1,i1,j1,k1,l1,m1,n1,o1,p1,lt,ne,q1,r1,s1,yn,t1,mget,mput,mnew,u1,v1,w1,x1⟩)
include hA
theorem e_mget(t:TypeId)(m k:Value)(h:AHeap)(v:Value)(b:Bool):mget t m k h v b=(lookupH Try.prog h t m k true=some (.tuple #[v,.bool b],h)):=by have:=hA.eq;injections;subst_vars;rfl
theorem e_mput(t:TypeId)(m k v:Value)(h h':AHeap):mput t m k v h h'=(updateH Try.prog h t m k v=some (undef,h')):=by have:=hA.eq;injections;subst_vars;rfl
theorem e_mnew(h:AHeap):mnew h=h.pushB (.map []):=by have:=hA.eq;injections;subst_vars;rfl
