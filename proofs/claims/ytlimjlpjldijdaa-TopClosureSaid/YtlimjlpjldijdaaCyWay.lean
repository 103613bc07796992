import Derived.Test.YtlimjlpjldijdaaCyLeast
import Derived.Test.YtlimjlpjldijdaaTreeP
import Derived.Test.YtlimjlpjldijdaaCxM
set_option linter.unusedSimpArgs false
set_option linter.unusedVariables false
namespace Go.Proofs.Ytlimjlpjldijdaa
open Go.Sim
set_option maxRecDepth 100000
def nextOf:List Int->Int
 | []=>0
 | [a]=>a
 |_ :: b :: _=>b
structure WayIs(T:List (Int×Int))(to:Int)(M:List (Int×Int)):Prop where
 way:∀k v,getL M k=some v->∃p,pathR T k to=some p/\(∀u∈p,(getL M u).isSome=true)/\nextOf p=v
 to_:(getL M to).isSome=true
theorem WayIs.init(T:List (Int×Int))(to:Int):WayIs T to [(to,to)]:=by
 refine⟨fun k v h=>?_,by simp[getL]⟩;simp only[getL]at h;by_cases c:to=k
 ·rw[if_pos c]at h
  obtain rfl:=Option.some.inj h;subst c;exact⟨[to],path_self _ _,(fun u hu=>by rw[List.mem_singleton.1 hu];simp[getL]),rfl⟩
 ·rw[if_neg c]at h;cases h
theorem WayIs.add{T:List (Int×Int)}(hg:grows T=true){to:Int}{M M':List (Int×Int)}(h:WayIs T to M){i j:Int}(ha:Adj T i j)(hi:(getL M i).isSome=true)(hj:getL M j=none)(hM:∀k,getL M' k=if k=j then some i else getL M k):WayIs T to M':=by
 have up:∀u,(getL M u).isSome=true->(getL M' u).isSome=true:=fun u hu=>by
  rw[hM];by_cases c:u=j
  ·rw[if_pos c];rfl
  ·rw[if_neg c];exact hu
 refine⟨fun k v hk=>?_,up _ h.to_⟩;rw[hM]at hk;by_cases c:k=j
 ·rw[if_pos c]at hk
  obtain rfl:=Option.some.inj hk;subst c;obtain⟨w,hw⟩:=Option.isSome_iff_exists.1 hi;obtain⟨p,h1,h2,h3⟩:=h.way i w hw;have hnot:k∉p:=fun hm=>by have:=h2 k hm;rw[hj]at this;cases this
  refine⟨k :: p,path_step hg ha h1 hnot,fun u hu=>?_,?_⟩
  ·rcases List.mem_cons.1 hu with rfl|hu
   ·rw[hM,if_pos rfl];rfl
   ·exact up u (h2 u hu)
  ·obtain⟨⟨q,rfl⟩,_⟩:=path_ends hg h1
   rfl
 ·rw[if_neg c]at hk
  obtain⟨p,h1,h2,h3⟩:=h.way k v hk;exact⟨p,h1,fun u hu=>up u (h2 u hu),h3⟩
theorem WayIs.all{T:List (Int×Int)}(hg:grows T=true){to:Int}{M:List (Int×Int)}(h:WayIs T to M)(ha:∀p∈T,(getL M p.1).isSome=(getL M p.2).isSome):∀(n:Nat) (x:Int) (p:List Int),p.length<=n->pathR T x to=some p->(getL M x).isSome=true
 |0,x,p,hn,hp=>by
  obtain⟨⟨q,rfl⟩,_⟩:=path_ends hg hp;simp at hn
 |n+1,x,p,hn,hp=>by
  obtain⟨⟨q,rfl⟩,_⟩:=path_ends hg hp;cases q with
  |nil=>rw[path_one hg hp];exact h.to_
  |cons z q=>
   obtain⟨h1,h2⟩:=path_rest hg hp;have hz:=WayIs.all hg h ha n z (z :: q) (by simpa using hn) h1;rcases h2 with h2|h2
   ·rw[ha _ h2];exact hz
   ·rw[<-ha _ h2];exact hz
theorem WayIs.known{T:List (Int×Int)}(hg:grows T=true){to:Int}{M:List (Int×Int)}(h:WayIs T to M){x z:Int}{q:List Int}(hp:pathR T x to=some (x :: z :: q))(hx:(getL M x).isSome=true):getL M x=some z:=by
 obtain⟨w,hw⟩:=Option.isSome_iff_exists.1 hx;obtain⟨p,h1,_,h3⟩:=h.way x w hw;rw[hp]at h1;obtain rfl:=Option.some.inj h1;rw[hw,<-h3];rfl
def leftV(T M:List (Int×Int)):Nat:=((T.flatMap fun p=>[p.1,p.2]).filter fun u=>(getL M u).isNone).length
theorem leftV_lt{T M M':List (Int×Int)}{i j:Int}(hv:hasV T j=true)(hj:getL M j=none)(hM:∀k,getL M' k=if k=j then some i else getL M k):leftV T M'<leftV T M:=by
 unfold leftV;have e:(T.flatMap fun p=>[p.1,p.2]).filter (fun u=>(getL M' u).isNone)=((T.flatMap fun p=>[p.1,p.2]).filter fun u=>(getL M u).isNone).filter (fun u=>decide (u≠j)):=by
  rw[List.filter_filter]
  congr 1
  funext u
  rw[hM];by_cases c:u=j
  ·subst c;simp
  ·simp[c]
 rw[e];refine List.length_filter_lt_length_iff_exists.2 ⟨j,?_,by simp⟩;rw[List.mem_filter];refine⟨?_,by rw[hj];rfl⟩;obtain⟨p,hp,hpj⟩:=hasV_mem.1 hv;rw[List.mem_flatMap];refine⟨p,hp,?_⟩;rcases hpj with rfl|rfl<;>simp
theorem pairsOf_at:∀{es:List (Value×Value)} {l:List (Int×Int)},pairsOf es=some l->l.length=es.length/\∀(i:Nat) (e:Value×Value),es[i]?=some e->∃a b,e.1=.agg #[.int .i64 a,.int .i64 b]/\l[i]?=some (a,b)
 | [],l,h=>by
  simp only[pairsOf,oi]at h;subst h;exact⟨rfl,(fun i e he=>by simp at he)⟩
 |e :: r,l,h=>by
  simp only[pairsOf]at h;split at h
  ·rename_i a b l' h1 h2
   simp only[oi]at h;subst h;obtain⟨k1,k2⟩:=pairsOf_at h2;refine⟨by simp[k1],fun i x hx=>?_⟩
   match i with
   |0=>simp at hx;subst hx;exact⟨a,b,h1,rfl⟩
   |i+1=>simpa using k2 i x (by simpa using hx)
  ·cases h
theorem append_fullC{P:Program}{t t2 e es:Nat}(hT:SliceT P t e es)(ht2:P.underlying t2=some (.slice e)){h:AHeap}{b n n2 c2:Nat}{a2:Option Addr}{cells news:List Value}(ho:Own h b es cells)(hb:b<h.next)(hl:cells.length=n*es)(hn:n<=1000)(hs:Cells h a2 n2 es news)(hok:cells.all cellOK=true)(hok2:news.all cellOK=true)(h0:0<n2)(hbig:n2<=1000000) :
  appendH P h [t,t2] [.slice (some ⟨b,0,none⟩) n n,.slice a2 n2 c2]=some (.slice (some ⟨h.next,0,none⟩) (n+n2) (someCap es (n+n2)),h.push es (cells++news)):=by
 obtain⟨by_,hby,hby2⟩:=hT.bytes;obtain⟨z,hz,hz2⟩:=hT.zero;have hnl:=hs.length;have hnews:newsA P h e es false (.slice a2 n2 c2)=some (n2,news):=by
  unfold newsA;simp only[cond_false];cases a2 with
  |none=>obtain⟨rfl,rfl⟩:=hs;simp
  |some ad=>
   obtain⟨h1,h2,h3⟩:=hs;simp only[h3]
 have hcl:capLow n=n:=Nat.mod_eq_of_lt (by unfold slack;omega);unfold appendH;simp only[hT.und,hT.size,hby,ht2,hz,isIntDesc,hnews];rw[hcl,ble_false (by omega)];simp only[cond_false];rw[ble_true (show n+n2<=1073741824 by omega),ble_true hby2,hok2,hz2,hnl];simp only[Bool.and_self,Nat.beq_refl,cond_true];have hr:h.readG ⟨b,0,none⟩ (n*es)=some cells:=by rw[ho.readG (by omega)];simp[<-hl]
 simp only[hr];rw[blt_true (show n<slack by unfold slack;omega),hok];simp only[cond_true]
noncomputable def cWay:Code:=Try.f54.body.getD .skip
theorem cWay_is:Try.f54.body=some cWay:=by kernel_rfl
theorem mII:MapT Try.prog 107 intK intK 0:=⟨⟨3,.int .i64,3,by kernel_rfl,keyInt (by kernel_rfl),by kernel_rfl,fun _=>rfl⟩⟩
theorem uPB:Try.prog.underlying 87=some (.map 89 4):=by kernel_rfl
theorem TI:SliceT Try.prog 25 3 1:=⟨by kernel_rfl,by kernel_rfl,⟨8,by kernel_rfl,by omega⟩,⟨.int .i64 0,by kernel_rfl,rfl⟩⟩
variable{F:Prims}{a0 head b0 d0 e0 bnot f0 g0 i0 j0 k0 l0 m0 n0 o0 nz p0 rd wr push next q0 r0 s0 t0 u0 v0 w0 z0 a1 b1 d1 i1 j1 l1 m1 n1 o1 r1 lt ne s1 t1 x1 yn z1 b2 i2 mnew bytes j2 m2 o2:_}(hA:AP F ⟨a0,head,b0,d0,e0,bnot,f0,g0,i0,j0,k0,l0,m0,n0,o0,nz,p0,rd,wr,push,next,q0,r0,s0,t0,u0,v0,w0,z0,a1,b1,d1,i1,j1,l1,m1,n1,o1,r1,lt,ne,s1,t1,x1,yn,z1,b2,i2,mnew,bytes,j2,m2,o2⟩)
include hA
theorem way_wn(hF:CallOK Try.prog F){h:AHeap}(hlow:h.low=h.next){id:Nat}(hid:id<h.next){es:List (Value×Value)}(hm:h.m.get id=some (.map es)){l:List (Int×Int)}(hfl:pairsOf es=some l)(hg:grows l.reverse=true){x y:Int}{R:Value->AHeap->Prop}
  (hno:pathR l.reverse x y=none->∀h',h.next<=h'.low->R (.slice none 0 0) h') (hyes:∀p,pathR l.reverse x y=some p->∀b c h',Own h' b 1 (p.map (.int .i64))->h.next<=b->b<h'.next->(c=p.length\/c=someCap 1 p.length)->h.next<=h'.low->R (.slice (some ⟨b,0,none⟩) p.length c) h') (hbig:l.length<=1000) :
  WNs progU Try.f54.ntmps cWay ⟨argsL [.map (some id),.int .i64 x,.int .i64 y] 0 [],0,[],h⟩ (fun e s'=>(e=.normal\/e=.ret)/\∃v,lk s'.env 6=some v/\noLoc v=true/\R v s'.h):=by
 have run:=fun {c:Code} {s:SS} {Q:Exit->SS->Prop} (hl:loopsOf c=[]) (hr:rangesOf c=[])=>WNs.run hA.toAOK live mixedP hF namedP Try.func54 cWay_is (c:=c) hl hr (s:=s) (Q:=Q)
 refine WNs.seq (run rfl rfl (zc ?_));refine WNs.seq (run rfl rfl (zc ?_));have hN:mnew h=h.pushB (.map (encE intK intK ([]:List (Int×Int)))):=e_mnew hA h;obtain⟨M1,u1,u2,u3,_⟩:=put_enc mII (h:=h.pushB (.map (encE intK intK ([]:List (Int×Int))))) (id:=h.next) (l:=[]) (by show(h.m.set _ _).get _=_;rw[Tri.get_set];simp) y y;obtain rfl:M1=[(y,y)]:=u3 rfl;obtain⟨h1,hh1⟩:∃z,z=(h.pushB (.map (encE intK intK ([]:List (Int×Int))))).putB h.next (.map (encE intK intK [(y,y)])):=⟨_,rfl⟩;rw[<-hh1]at u1;have g1:h1.m.get h.next=some (.map (encE intK intK [(y,y)])):=by rw[hh1];show(Tri.set _ _ _).get _=_;rw[Tri.get_set];simp
 have g2:h1.m.get id=some (.map es):=by rw[hh1];show((h.m.set _ _).set _ _).get _=_;rw[Tri.get_set_ne _ _ (by omega),Tri.get_set_ne _ _ (by omega)];exact hm
 have g3:h.next<=h1.low:=by rw[hh1];show h.next<=Nat.min h.low h.next;rw[hlow];exact Nat.le_min.2 ⟨Nat.le_refl _,Nat.le_refl _⟩
 have g4:h.next<h1.next:=by rw[hh1];show h.next<h.next+1;omega
 refine⟨h1,(e_mput hA _ _ _ _ _ _).mpr (by rw[e_next hA];show updateH _ (mnew h) _ _ _ _=_;rw[hN];exact u1),?_⟩;refine zc ?_;rw[e_next hA];refine WNs.seq (WNs.seq (run rfl rfl (zc ?_)));obtain⟨k1,k2⟩:=pairsOf_at hfl;obtain⟨T,hT⟩:∃T,T=l.reverse:=⟨_,rfl⟩;rw[<-hT]at hg hno hyes;refine WNs.block ?_;refine WNs.lessE (env0:=[(0,.map (some id)),(1,.int .i64 x),(2,.int .i64 y),(7,.map (some h.next)),(8,.bool true)]) (fun p hp=>?_) ?_
 ·simp only[List.mem_cons,List.not_mem_nil,or_false]at hp
  rcases hp with rfl|rfl|rfl|rfl|rfl<;>rfl
 refine WNs.loop [0,1,2,7,8] 0 (fun m s=>∃more M h',s=⟨[(0,.map (some id)),(1,.int .i64 x),(2,.int .i64 y),(7,.map (some h.next)),(8,.bool more)],0,[],h'⟩/\h'.m.get h.next=some (.map (encE intK intK M))/\h'.m.get id=some (.map es)/\WayIs T y M/\(more=false->∀p∈T,(getL M p.1).isSome=(getL M p.2).isSome)/\m=2*leftV T M+(if more then 1 else 0)/\h.next<=h'.low/\h.next<h'.next) ?_
  (m:=2*leftV T [(y,y)]+1) ⟨true,[(y,y)],h1,rfl,g1,g2,.init T y,(fun e=>by cases e),rfl,g3,g4⟩
 rintro m s ⟨more,M,h',rfl,q1,q2,q3,q4,rfl,q5,q6⟩;cases more with
 |false=>
  refine WNs.seq (run rfl rfl (zc ?_));refine WNs.seq (run rfl rfl (zc ?_));obtain⟨b,hb⟩:∃b,b=(getL M x).isSome:=⟨_,rfl⟩;obtain⟨v,hv⟩:∃v,v=(getL M x).getD 0:=⟨_,rfl⟩;refine⟨v,b,(e_mget hA _ _ _ _ _ _).mpr (by rw[hb,hv];exact look_enc mII q1 x),?_⟩;refine zc ?_;have agree:=q4 rfl;cases b with
  |false=>
   rw[show bnot false=true from e_bnot hA false];refine zc ?_;refine⟨.inr trivial,_,rfl,rfl,hno ?_ h' q5⟩;cases hp:pathR T x y with
   |none=>rfl
   |some p=>rw[q3.all hg agree _ x p (Nat.le_refl _) hp]at hb;cases hb
  |true=>
   rw[show bnot true=false from e_bnot hA true];refine zc ?_;refine WNs.seq (run rfl rfl (zc ?_));rw[e_next hA,e_push hA];obtain⟨h3,hh3⟩:∃z,z=h'.push 1 [.int .i64 x]:=⟨_,rfl⟩;rw[<-hh3];refine WNs.seq (WNs.seq (run rfl rfl (zc ?_)));obtain⟨w,hw⟩:=Option.isSome_iff_exists.1 hb.symm;obtain⟨p,hp,hon,_⟩:=q3.way x w hw;obtain⟨⟨q,rfl⟩,_⟩:=path_ends hg hp;refine WNs.block ?_;have lenp:(x :: q).length<=l.length+1:=by have:=path_len hg hp;rw[hT,List.length_reverse]at this;exact this
   refine WNs.lessE (env0:=[(2,.int .i64 y),(7,.map (some h.next)),(16,.slice (some ⟨h'.next,0,none⟩) 1 1),(17,.int .i64 x)]) (fun p hp=>?_) ?_
   ·simp only[List.mem_cons,List.not_mem_nil,or_false]at hp
    rcases hp with rfl|rfl|rfl|rfl<;>rfl
   refine WNs.loop [2,7,16,17] 0 (fun m s=>∃pre cur rest b n c h'',s=⟨[(2,.int .i64 y),(7,.map (some h.next)),(16,.slice (some ⟨b,0,none⟩) n c),(17,.int .i64 cur)],0,[],h''⟩/\n=pre.length+1/\pre++cur :: rest=x :: q/\pathR T cur y=some (cur :: rest)/\Own h'' b 1 ((pre++[cur]).map (.int .i64))/\h.next<=b/\b<h''.next/\(c=n\/c=someCap 1 n)/\h''.m.get h.next=some (.map (encE intK intK M))/\h.next<=h''.low/\h.next<h''.next/\m=rest.length) ?_
    (m:=q.length) ⟨[],x,q,h'.next,1,1,h3,rfl,rfl,rfl,hp,by rw[hh3];exact Own.push h' 1 _,by omega,by rw[hh3];show h'.next<h'.next+1;omega,.inl rfl,by rw[hh3];show(Tri.set _ _ _).get _=_;rw[Tri.get_set_ne _ _ (by omega)];exact q1,by rw[hh3];exact q5,by rw[hh3];show h.next<h'.next+1;omega,rfl⟩
   rintro m s ⟨pre,cur,rest,b,n,c,h4,rfl,hn,w1,w2,w3,w4,w5,w6,w7,w8,w9,rfl⟩;refine WNs.seq (run rfl rfl (zc ?_));refine br (cur≠y) (by rw[e_neq hA]) (fun c1=>?_) (fun c1=>?_)<;>refine zc ?_
   ·cases rest with
    |nil=>exact absurd (path_one hg w2) c1
    |cons z rest=>
    have hcur:(getL M cur).isSome=true:=hon cur (by rw[<-w1];simp);have hz:=q3.known hg w2 hcur;obtain⟨e1,e2⟩:=path_rest hg w2;refine run rfl rfl (zc ?_);refine⟨z,true,(e_mget hA _ _ _ _ _ _).mpr (by have:=look_enc mII w7 cur;rw[hz]at this;exact this),?_⟩;refine zc ?_;rw[e_app hA,e_next hA,e_push hA];have lenr:pre.length+rest.length+2<=l.length+1:=by rw[<-w1]at lenp;simp only[List.length_append,List.length_cons]at lenp;omega
    have hs:Cells (h4.push 1 [.int .i64 z]) (some ⟨h4.next,0,none⟩) 1 1 [.int .i64 z]:=⟨rfl,by simp[AHeap.push],by rw[(Own.push h4 1 _).readG (by simp)];rfl⟩;have hl4:((pre++[cur]).map (Value.int .i64)).length=n*1:=by simp[hn]
    have hok4:((pre++[cur]).map (Value.int .i64)).all cellOK=true:=by rw[List.all_map,List.all_eq_true];intro v _;rfl
    have xp:Ext h4 (h4.push 1 [.int .i64 z]):=.push h4 1 _;have key:∃b' c' h5,appendH Try.prog (h4.push 1 [.int .i64 z]) [25,25] [.slice (some ⟨b,0,none⟩) n c,.slice (some ⟨h4.next,0,none⟩) 1 1]=some (.slice (some ⟨b',0,none⟩) (n+1) c',h5)/\Own h5 b' 1 ((pre++[cur]++[z]).map (.int .i64))/\h.next<=b'/\b'<h5.next/\(c'=n+1\/c'=someCap 1 (n+1))/\h5.m.get h.next=some (.map (encE intK intK M))/\h.next<=h5.low/\h.next<h5.next:=by
     have hbne:b≠h.next:=fun e=>by subst e;unfold Own at w3;rw[w3]at w7;cases w7
     obtain⟨X,hX⟩:∃X,X=h4.push 1 [.int .i64 z]:=⟨_,rfl⟩;have hs':Cells X (some ⟨h4.next,0,none⟩) 1 1 [.int .i64 z]:=by rw[hX];exact hs
     have oX:Own X b 1 ((pre++[cur]).map (.int .i64)):=by rw[hX];exact w3.ext xp w5
     have nX:X.next=h4.next+1:=by rw[hX];rfl
     have gX:X.m.get h.next=some (.map (encE intK intK M)):=by rw[hX,xp.get _ w9];exact w7
     have lX:h.next<=X.low:=by rw[hX];exact w8
     rw[<-hX];rcases w6 with rfl|rfl
     ·refine⟨X.next,_,_,append_fullC TI TI.und oX (by omega) hl4 (by omega) hs' hok4 rfl (by omega) (by omega),?_,by omega,by show X.next<X.next+1;omega,.inr rfl,?_,lX,by show h.next<X.next+1;omega⟩
      ·rw[List.map_append (l₁:=pre++[cur])]
       exact Own.push X 1 _
      ·rw[(Ext.push X 1 _).get _ (by omega)]
       exact gX
     ·obtain⟨b',c',h5,v1,⟨v2,v3,v4,v5⟩,v6⟩:=append_any TI TI.und (c2:=1) ⟨oX,by omega,hl4,.inr rfl⟩ hs' hok4 rfl (by omega)
      have x0:Ext { next:=h.next+1,low:=X.low,m:=X.m } X:=⟨by show h.next+1<=X.next;omega,fun q=>by have q':X.low<=h.next+1:=q;omega,Nat.min_le_left _ _,fun _ _=>rfl⟩;obtain⟨y1,y2⟩:=v6 _ x0 (by show h.next+1<=b;omega);have y3:=y1.lowG;have y4:=y1.next;have y2':h.next+1<=b':=y2;have y3':Nat.min X.low (h.next+1)<=h5.low:=y3;have y4':h.next+1<=h5.next:=y4;refine⟨b',c',h5,v1,by rw[List.map_append (l₁:=pre++[cur])];exact v2,by omega,v3,?_,?_,?_,by omega⟩
      ·rcases v5 with ⟨_,v5⟩|v5
       ·omega
       ·exact .inr v5
      ·have:=y1.get h.next (by show h.next<h.next+1;omega)
       rw[this];exact gX
      ·have y5:min X.low (h.next+1)<=h5.low:=y3'
       omega
    obtain⟨b',c',h5,v1,v2,v3,v4,v5,v6,v7,v8⟩:=key;refine⟨_,_,_,_,v1,?_⟩;refine zc ?_;refine⟨rest.length,_,by simp,rfl,pre++[cur],z,rest,b',n+1,c',h5,rfl,by simp[hn],by rw[<-w1];simp,e1,v2,v3,v4,v5,v6,v7,v8,rfl⟩
   ·obtain rfl:cur=y:=Classical.byContradiction c1
    rw[path_self]at w2;simp only[oi,List.cons.injEq,true_and]at w2;subst w2;refine WNs.seq (run rfl rfl (zc ?_));refine WNs.ret ⟨.inr rfl,_,rfl,rfl,?_⟩;have hlen:n=(x :: q).length:=by rw[<-w1];simp[hn]
    rw[hlen]at w6 ⊢;exact hyes (x :: q) hp b c h4 (by rw[<-w1];exact w3) w4 w5 w6 w8
 |true=>
  refine WNs.seq (run rfl rfl (zc ?_));refine WNs.block ?_;refine WNs.seq (run rfl rfl (zc ?_));refine WNs.seq (run rfl rfl (zc ?_));obtain⟨h2,hh2⟩:∃z,z=h'.pushB (.iter (some id) es.length []):=⟨_,rfl⟩;refine⟨h2,(e_mrng hA _ _ _ _).mpr (by unfold rangeH;rw[uPB];simp only[q2,hh2]),?_⟩;refine zc ?_;rw[e_next hA];have f1:h2.m.get h'.next=some (.iter (some id) es.length []):=by rw[hh2];show(Tri.set _ _ _).get _=_;rw[Tri.get_set];simp
  have f2:h2.m.get id=some (.map es):=by rw[hh2];show(Tri.set _ _ _).get _=_;rw[Tri.get_set_ne _ _ (by omega)];exact q2
  have f3:h2.m.get h.next=some (.map (encE intK intK M)):=by rw[hh2];show(Tri.set _ _ _).get _=_;rw[Tri.get_set_ne _ _ (by omega)];exact q1
  refine WNs.block ?_;have nh2:h2.next=h'.next+1:=by rw[hh2];rfl
  have lh2:h.next<=h2.low:=by rw[hh2];exact q5
  refine WNs.lessE (env0:=[(0,.map (some id)),(1,.int .i64 x),(2,.int .i64 y),(7,.map (some h.next)),(8,.bool false),(24,.pointer (some ⟨h'.next,0,none⟩))]) (fun p hp=>?_) ?_
  ·simp only[List.mem_cons,List.not_mem_nil,or_false]at hp
   rcases hp with rfl|rfl|rfl|rfl|rfl|rfl<;>rfl
  refine WNs.loop [0,1,2,7,8,24] 0 (fun m s=>∃more M' h'' seen,s=⟨[(0,.map (some id)),(1,.int .i64 x),(2,.int .i64 y),(7,.map (some h.next)),(8,.bool more),(24,.pointer (some ⟨h'.next,0,none⟩))],0,[],h''⟩/\h''.m.get h.next=some (.map (encE intK intK M'))/\h''.m.get id=some (.map es)/\h''.m.get h'.next=some (.iter (some id) es.length seen)/\(∀i∈seen,i<es.length)/\WayIs T y M'/\leftV T M'<=leftV T M/\(more=true->leftV T M'<leftV T M)/\(more=false->∀i p,i∈seen->l[i]?=some p->(getL M' p.1).isSome=(getL M' p.2).isSome)/\m=leftN es.length seen/\h.next<=h''.low/\h'.next<h''.next) ?_
   (m:=leftN es.length []) ⟨false,M,h2,[],rfl,f3,f2,f1,(fun i hi=>by cases hi),q3,Nat.le_refl _,(fun e=>by cases e),(fun _ i p hi=>by cases hi),rfl,lh2,by omega⟩
  rintro m s ⟨more,M',h3,seen,rfl,w1,w2,w3,w4,w5,w6,w7,w8,rfl,w9,w10⟩;refine WNs.seq (WNs.next (d:=25) (d2:=26) (x:=.tmp 24) rfl rfl rfl (by decide) rfl rfl rfl (by decide) rfl rfl w3 w2 (fun hall=>?_) (fun i e he hi=>?_))
  ·refine WNs.seq (WNs.cond rfl (WNs.exit ?_))
   refine⟨2*leftV T M'+(if more then 1 else 0),_,?_,rfl,more,M',h3,rfl,w1,w2,w5,fun e p hp=>?_,rfl,w9,by omega⟩
   ·cases more with
    |true=>have:=w7 rfl;simp;omega
    |false=>simp;omega
   ·rw[hT,List.mem_reverse]at hp
    obtain⟨i,hi,rfl⟩:=List.getElem_of_mem hp;exact w8 e i _ (hall i (by omega)) (List.getElem?_eq_getElem hi)
  ·refine WNs.seq (WNs.cond rfl (WNs.skip ?_))
   obtain⟨a,b,e1,e2⟩:=k2 i e he;obtain⟨ek,ev⟩:=e;simp only at e1;subst e1;have hi':i<es.length:=(List.getElem?_eq_some_iff.1 he).1;obtain⟨h4,hh4⟩:∃z,z=h3.putB h'.next (.iter (some id) es.length (seen++[i])):=⟨_,rfl⟩;have v1:h4.m.get h'.next=some (.iter (some id) es.length (seen++[i])):=by rw[hh4];show(Tri.set _ _ _).get _=_;rw[Tri.get_set];simp
   have v2:h4.m.get id=some (.map es):=by rw[hh4];show(Tri.set _ _ _).get _=_;rw[Tri.get_set_ne _ _ (by omega)];exact w2
   have v3:h4.m.get h.next=some (.map (encE intK intK M')):=by rw[hh4];show(Tri.set _ _ _).get _=_;rw[Tri.get_set_ne _ _ (by omega)];exact w1
   have v4:h.next<=h4.low:=by rw[hh4];show h.next<=Nat.min h3.low h'.next;exact Nat.le_min.2 ⟨w9,by omega⟩
   have v5:h4.next=h3.next:=by rw[hh4];rfl
   have hent:entryH h4 (.pointer (some ⟨h'.next,0,none⟩))=some (.tuple #[.agg #[.int .i64 a,.int .i64 b],ev],h4):=by
    unfold entryH;simp only[v1,v2,List.getLast?_append,List.getLast?_singleton,Option.some_or,Nat.beq_refl,cond_true,he]
   rw[<-hh4];refine run rfl rfl (zc ?_);refine⟨.agg #[.int .i64 a,.int .i64 b],ev,(e_ment hA _ _ _ _).mpr hent,?_⟩;refine zc ?_;obtain⟨va,hva⟩:∃v,v=(getL M' a).getD 0:=⟨_,rfl⟩;obtain⟨ba,hba⟩:∃v,v=(getL M' a).isSome:=⟨_,rfl⟩;obtain⟨vb,hvb⟩:∃v,v=(getL M' b).getD 0:=⟨_,rfl⟩;obtain⟨bb,hbb⟩:∃v,v=(getL M' b).isSome:=⟨_,rfl⟩;refine⟨va,ba,(e_mget hA _ _ _ _ _ _).mpr (by rw[hva,hba];exact look_enc mII v3 a),?_⟩;refine zc ?_;refine⟨vb,bb,(e_mget hA _ _ _ _ _ _).mpr (by rw[hvb,hbb];exact look_enc mII v3 b),?_⟩;refine zc ?_;have hab:Adj T a b:=by rw[hT];exact .inl (List.mem_reverse.2 (List.mem_of_getElem? e2))
   have same:(getL M' a).isSome=(getL M' b).isSome->∃m' s2,m'<leftN es.length seen/\s2=(⟨[(0,.map (some id)),(1,.int .i64 x),(2,.int .i64 y),(7,.map (some h.next)),(8,.bool more),(24,.pointer (some ⟨h'.next,0,none⟩))],0,[],h4⟩:SS)/\∃more M' h'' seen,s2=⟨[(0,.map (some id)),(1,.int .i64 x),(2,.int .i64 y),(7,.map (some h.next)),(8,.bool more),(24,.pointer (some ⟨h'.next,0,none⟩))],0,[],h''⟩/\h''.m.get h.next=some (.map (encE intK intK M'))/\h''.m.get id=some (.map es)/\h''.m.get h'.next=some (.iter (some id) es.length seen)/\(∀i∈seen,i<es.length)/\WayIs T y M'/\leftV T M'<=leftV T M/\(more=true->leftV T M'<leftV T M)/\(more=false->∀i p,i∈seen->l[i]?=some p->(getL M' p.1).isSome=(getL M' p.2).isSome)/\m'=leftN es.length seen/\h.next<=h''.low/\h'.next<h''.next:=by
    intro e;refine⟨_,_,leftN_lt hi' hi,rfl,more,M',h4,seen++[i],rfl,v3,v2,v1,?_,w5,w6,w7,fun em j p hj hp=>?_,rfl,v4,by omega⟩
    ·intro j hj
     rcases List.mem_append.1 hj with hj|hj
     ·exact w4 j hj
     ·rw[List.mem_singleton.1 hj];exact hi'
    ·rcases List.mem_append.1 hj with hj|hj
     ·exact w8 em j p hj hp
     ·rw[List.mem_singleton.1 hj,e2]at hp
      obtain rfl:=Option.some.inj hp;exact e
   have more1:∀(u v:Int),Adj T u v->(getL M' u).isSome=true->getL M' v=none->∃h5,updateH Try.prog h4 107 (.map (some h.next)) (intK v) (intK u)=some (undef,h5)/\∃m' s2,m'<leftN es.length seen/\s2=(⟨[(0,.map (some id)),(1,.int .i64 x),(2,.int .i64 y),(7,.map (some h.next)),(8,.bool true),(24,.pointer (some ⟨h'.next,0,none⟩))],0,[],h5⟩:SS)/\∃more M' h'' seen,s2=⟨[(0,.map (some id)),(1,.int .i64 x),(2,.int .i64 y),(7,.map (some h.next)),(8,.bool more),(24,.pointer (some ⟨h'.next,0,none⟩))],0,[],h''⟩/\h''.m.get h.next=some (.map (encE intK intK M'))/\h''.m.get id=some (.map es)/\h''.m.get h'.next=some (.iter (some id) es.length seen)/\(∀i∈seen,i<es.length)/\WayIs T y M'/\leftV T M'<=leftV T M/\(more=true->leftV T M'<leftV T M)/\(more=false->∀i p,i∈seen->l[i]?=some p->(getL M' p.1).isSome=(getL M' p.2).isSome)/\m'=leftN es.length seen/\h.next<=h''.low/\h'.next<h''.next:=by
    intro u v ha hu hv;obtain⟨M5,p1,p2,p3,_⟩:=put_enc mII v3 v u;refine⟨_,p1,_,_,leftN_lt hi' hi,rfl,true,M5,_,seen++[i],rfl,?_,?_,?_,?_,w5.add hg ha hu hv p2,?_,fun _=>?_,(fun e=>by cases e),rfl,?_,?_⟩
    ·show(Tri.set _ _ _).get _=_;rw[Tri.get_set];simp
    ·show(Tri.set _ _ _).get _=_;rw[Tri.get_set_ne _ _ (by omega)];exact v2
    ·show(Tri.set _ _ _).get _=_;rw[Tri.get_set_ne _ _ (by omega)];exact v1
    ·intro j hj
     rcases List.mem_append.1 hj with hj|hj
     ·exact w4 j hj
     ·rw[List.mem_singleton.1 hj];exact hi'
    ·have:=leftV_lt ha.v2 hv p2;omega
    ·have:=leftV_lt ha.v2 hv p2;omega
    ·show h.next<=Nat.min h4.low h.next;exact Nat.le_min.2 ⟨v4,Nat.le_refl _⟩
    ·show h'.next<h4.next;omega
   cases ba with
   |true=>
    cases bb with
    |true=>
     obtain⟨m',s2,y1,rfl,y2⟩:=same (by rw[<-hba,<-hbb]);refine zc ?_;rw[show bnot true=false from e_bnot hA true];refine zc ?_;rw[show bnot true=false from e_bnot hA true];refine zc ?_;exact⟨m',_,y1,rfl,y2⟩
    |false=>
     obtain⟨h5,y0,m',s2,y1,rfl,y2⟩:=more1 a b hab hba.symm (by cases c:getL M' b with|none=>rfl|some _=>rw[c]at hbb;cases hbb);refine zc ?_;rw[show bnot false=true from e_bnot hA false];refine zc ?_;refine⟨h5,(e_mput hA _ _ _ _ _ _).mpr y0,?_⟩;refine zc ?_;exact⟨m',_,y1,rfl,y2⟩
   |false=>
    cases bb with
    |true=>
     obtain⟨h5,y0,m',s2,y1,rfl,y2⟩:=more1 b a hab.symm hbb.symm (by cases c:getL M' a with|none=>rfl|some _=>rw[c]at hba;cases hba);refine zc ?_;rw[show bnot false=true from e_bnot hA false];refine zc ?_;refine⟨h5,(e_mput hA _ _ _ _ _ _).mpr y0,?_⟩;refine zc ?_;exact⟨m',_,y1,rfl,y2⟩
    |false=>
     obtain⟨m',s2,y1,rfl,y2⟩:=same (by rw[<-hba,<-hbb]);refine zc ?_;exact⟨m',_,y1,rfl,y2⟩
omit hA in
theorem wayF_ok{F:Prims}(hF:CallOK Try.prog F):CallOK Try.prog (withF 54 wayF F):=by
 intro g args h v h' hc hg G w cargs hR hA;unfold withF at hc;cases hb:Nat.beq g 54 with
 |false=>rw[hb]at hc;exact hF g args h v h' hc hg G w cargs hR hA
 |true=>
  obtain rfl:=Nat.eq_of_beq_eq_true hb;rw[hb]at hc;simp only[cond_true]at hc;unfold wayF at hc;split at hc
  ·rename_i id x y
   split at hc
   ·rename_i es hm
    split at hc
    ·rename_i l hl
     cases hgl:(grows l.reverse && Nat.ble l.length 1000)with
     |false=>rw[hgl]at hc;cases hc
     |true=>
     rw[hgl]at hc;simp only[cond_true]at hc;rw[Bool.and_eq_true]at hgl;obtain⟨hgr,hbl⟩:=hgl;have hbig:l.length<=1000:=Nat.le_of_ble_eq_true hbl;have hid:id<h.next:=by
      obtain⟨c,l2,_,hv,_⟩:=hA.head;obtain⟨L,hL,_⟩:=hv.mapL;exact hR.gdom id L hL
     have hB:AP noPrims (atomsOf Try.prog hint noPrims):=⟨⟨rfl,noPrims_keep⟩,fun _ _ _ _=>rfl⟩;cases hp:pathR l.reverse x y with
     |none=>
      rw[hp]at hc;simp only[oi,pj]at hc;obtain⟨rfl,rfl⟩:=hc;have wn:=way_wn hB noPrims_ok (h:=h.anew) rfl hid (es:=es) hm hl hgr (x:=x) (y:=y) (R:=fun v h'=>v=.slice none 0 0/\h.next<=h'.low) (fun _ h' q=>⟨rfl,q⟩) (fun p q=>by rw[hp]at q;cases q) hbig;exact Does.plain hR rfl (WNs.does (P:=progU) Try.func54 cWay_is (namedP _ _ Try.func54) rfl (Nat.le_refl _) wn (anewHR hR) hA)
     |some p=>
      rw[hp]at hc;simp only[oi,pj]at hc;obtain⟨rfl,rfl⟩:=hc;obtain⟨⟨q,hq⟩,_⟩:=path_ends hgr hp;have hlen:=path_len hgr hp;have wn:=way_wn hB noPrims_ok (h:=h.anew) rfl hid (es:=es) hm hl hgr (x:=x) (y:=y) (R:=fun v h'=>∃b c0,v=.slice (some ⟨b,0,none⟩) p.length c0/\h'.m.get b=some (.live true 1 (p.map (.int .i64)))/\h.next<=b/\(c0=p.length\/c0=someCap 1 p.length)/\h.next<=h'.low)
       (fun q=>by rw[hp]at q;cases q) (fun p' q b c h' q1 q2 q3 q4 q5=>by rw[hp]at q;obtain rfl:=Option.some.inj q;exact⟨b,c,rfl,q1,q2,q4,q5⟩) hbig
      refine Does.newList hR (by simp) (by rw[hq];simp) (by omega) (by rw[List.length_reverse]at hlen;unfold slack;omega) (by rw[List.all_map,List.all_eq_true];intro v _;rfl) ?_;exact WNs.does (P:=progU) Try.func54 cWay_is (namedP _ _ Try.func54) rfl (Nat.le_refl _) wn (anewHR hR) hA
    ·cases hc
   ·cases hc
  ·cases hc
