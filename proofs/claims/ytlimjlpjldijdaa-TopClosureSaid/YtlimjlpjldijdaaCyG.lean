import Derived.Test.YtlimjlpjldijdaaCyB
set_option linter.unusedSimpArgs false
set_option linter.unusedVariables false
namespace Go.Proofs.Ytlimjlpjldijdaa
open Go.Sim
set_option maxRecDepth 100000
def stS(l:List Vk):Int->Prop:=fun x=>∃v∈l,x=v.i\/x=v.j
theorem RMap.putN{S:Int->Prop}{M M':List (Int×Bool)}{R:Int->Bool}(h:RMap S M R){s:Int}{b:Bool}(h1:∀k,getL M' k=if k=s then some b else getL M k)(h2:getL M s=none->M'=M++[(s,b)])(h3:∀u,getL M s=some u->M'.map (·.1)=M.map (·.1)):RMap (fun x=>S x\/x=s) M' (fun x=>if x=s then b else R x):=by
 refine⟨?_,fun x=>?_,fun x=>?_⟩
 ·cases c:getL M s with
  |some u=>rw[h3 u c];exact h.nd
  |none=>
   rw[h2 c];simp only[List.map_append,List.map_cons,List.map_nil];rw[List.nodup_append];refine⟨h.nd,List.nodup_cons.2 ⟨by simp,List.nodup_nil⟩,fun a ha b' hb=>?_⟩;rw[List.mem_singleton.1 hb];obtain⟨e,he,rfl⟩:=List.mem_map.1 ha;exact getL_none.1 c e he
 ·rw[h1]
  by_cases c:x=s
  ·rw[if_pos c];exact⟨fun _=>.inr c,fun _=>rfl⟩
  ·rw[if_neg c,h.keys];exact⟨.inl,fun q=>q.elim id (fun q=>absurd q c)⟩
 ·rw[h1]
  by_cases c:x=s
  ·simp only[if_pos c];cases b<;>simp
  ·simp only[if_neg c];exact h.val x
theorem RMap.of{S S':Int->Prop}{M:List (Int×Bool)}{R R':Int->Bool}(h:RMap S M R)(hs:∀x,S x↔S' x)(hr:∀x,R x=R' x):RMap S' M R':=
 ⟨h.nd,fun x=>(h.keys x).trans (hs x),fun x=>(hr x).symm.trans (h.val x)⟩
theorem RMap.nil:RMap (fun _=>False) [] (fun _=>false):=⟨by simp,fun x=>by simp[getL],fun x=>by simp[getL]⟩
theorem pushB_eq(h:AHeap)(x:Blk):(h.pushB x).m.get h.next=some x:=by
 show(h.m.set _ _).get _=_;rw[Tri.get_set_eq]
theorem pushB_ne(h:AHeap)(x:Blk){i:Nat}(hi:i<h.next):(h.pushB x).m.get i=h.m.get i:=by
 show(h.m.set _ _).get _=_;rw[Tri.get_set_ne _ _ (by omega)]
theorem _root_.Go.Sim.Ext.pushB(h:AHeap)(x:Blk):Ext h (h.pushB x):=
 ⟨Nat.le_succ _,fun l=>by show h.low<=h.next+1;omega,Nat.min_le_left _ _,fun _ hi=>pushB_ne h x hi⟩
variable{F:Prims}{call head arith cmp scmp bnot bsame conv neg imax imin ofNat slen place inR nz geZ rd wr push next mkOK nat zeros sadd eqAgg cut slc sslc strAt part app cpy putAt fresh lowered bump wrote addN lt ne fpAll fpApp brk yn rng mget mput mnew bytes clr mrng ment:_}(hA:AP F ⟨call,head,arith,cmp,scmp,bnot,bsame,conv,neg,imax,imin,ofNat,slen,place,inR,nz,geZ,rd,wr,push,next,mkOK,nat,zeros,sadd,eqAgg,cut,slc,sslc,strAt,part,app,cpy,putAt,fresh,lowered,bump,wrote,addN,lt,ne,fpAll,fpApp,brk,yn,rng,mget,mput,mnew,bytes,clr,mrng,ment⟩)
include hA
theorem st_loop{h0:AHeap}{a:Option Addr}{n c:Nat}{N:Int}(hN:N=n){l:List Vk}(hl:Vs h0 a n l)(hn:n<=1000){id:Nat}(hid0:h0.next<=id){Q:Exit->SS->Prop}
  (hQ:∀h' M,h'.m.get id=some (.map (encE intK boolK M))->RMap (stS l) M (fun _=>false)->Ext h0 h'->id<h'.next->Q (.exit 0) ⟨[(3,.map (some id))],0,[],h'⟩) :
  ∀(m:Nat) (i:Int) (h:AHeap) (M:List (Int×Bool)),(n-i).toNat<=m->0<=i->i<=n->h.m.get id=some (.map (encE intK boolK M))->RMap (stS (l.take i.toNat)) M (fun _=>false)->Ext h0 h->id<h.next->
   head 68 3 0 ⟨[(3,.map (some id)),(7,.slice a n c),(8,.int .i64 N),(9,.int .i64 i)],0,[],h⟩ Q:=by
 have hlen:=hl.len;refine upTo (fun m ih=>?_);intro i h M hm i0 i1 hg hR he hb;by_cases ci:i<n
 rotate_left
 ·refine hA.roundR Try.func68 r68_ok (zc ?_)
  refine br (i<N) (by rw[e_lss hA]) (fun c1=>by omega) (fun c1=>?_)<;>refine zc ?_;rw[List.take_of_length_le (by omega)]at hR;exact hQ h M hg hR he hb
 obtain⟨m,rfl⟩:∃k,m=k+1:=⟨m-1,by omega⟩
 replace ih:=ih m rfl
 obtain⟨bb,o,x,y,z,u,d,w,rfl,hbb,hgt,r1,_⟩:=vs_at (hl.ext he) (i:=i) i0 ci;have q1:=rd_ok hA r1;have e2:arith .add .i64 i 1=i+1:=add64 hA (by omega) (by omega);refine hA.roundR Try.func68 r68_ok (zc ?_);refine br (i<N) (by rw[e_lss hA]) (fun c1=>?_) (fun c1=>by omega)<;>refine zc ?_;refine zq ?_;refine⟨_,_,_,_,_,_,q1,?_⟩;refine zq ?_;obtain⟨M1,p1,p2,p3,p4⟩:=put_enc mIB hg x false;obtain⟨h1,hh1⟩:∃z,z=h.putB id (.map (encE intK boolK M1)):=⟨_,rfl⟩;rw[<-hh1]at p1;refine⟨h1,(e_mput hA _ _ _ _ _ _).mpr p1,?_⟩;refine zc ?_;have g1:h1.m.get id=some (.map (encE intK boolK M1)):=by rw[hh1];exact putB_eq _
 have x1:Ext h0 h1:=by rw[hh1];exact he.putB hid0 _
 have n1:h1.next=h.next:=by rw[hh1];rfl
 obtain⟨M2,s1,s2,s3,s4⟩:=put_enc mIB g1 y false;obtain⟨h2,hh2⟩:∃z,z=h1.putB id (.map (encE intK boolK M2)):=⟨_,rfl⟩;rw[<-hh2]at s1;refine⟨h2,(e_mput hA _ _ _ _ _ _).mpr s1,?_⟩;refine zc ?_;rw[e2];refine ih (i+1) h2 M2 (by omega) (by omega) (by omega) (by rw[hh2];exact putB_eq _) ?_ (by rw[hh2];exact x1.putB hid0 _) (by rw[hh2];show id<h1.next;omega);refine((hR.putN p2 p3 p4).putN s2 s3 s4).of (fun k=>?_) (fun k=>?_)
 ·rw[gt_take l i0 (by omega),hgt]
  unfold stS;constructor
  ·rintro((⟨v,hv,h⟩|h)|h)
   ·exact⟨v,List.mem_append_left _ hv,h⟩
   ·exact⟨⟨x,y,z,u,d,w⟩,List.mem_append_right _ (List.mem_singleton.2 rfl),.inl h⟩
   ·exact⟨⟨x,y,z,u,d,w⟩,List.mem_append_right _ (List.mem_singleton.2 rfl),.inr h⟩
  ·rintro⟨v,hv,h⟩
   rcases List.mem_append.1 hv with hv|hv
   ·exact .inl (.inl ⟨v,hv,h⟩)
   ·rw[List.mem_singleton.1 hv]at h
    exact h.elim (fun h=>.inl (.inr h)) .inr
 ·by_cases c1:k=y
  ·rw[if_pos c1]
  ·rw[if_neg c1]
   by_cases c2:k=x
   ·rw[if_pos c2]
   ·rw[if_neg c2]
theorem stations_ok{h:AHeap}(hlow:h.low<=h.next){a:Option Addr}{n c:Nat}{l:List Vk}(hl:Vs h a n l)(hn:n<=1000){Q:Value->AHeap->Prop}
  (hQ:∀h' id M,h'.m.get id=some (.map (encE intK boolK M))->RMap (stS l) M (fun _=>false)->Ext h h'->h.next<=id->id<h'.next->Q (.map (some id)) h') :
  call 68 [.slice a n c] h Q:=by
 refine hA.bodyR Try.func68 r68_ok (hA.alike _ _ _ rfl) hlow (zc ?_);simp only[e_next hA,e_ofNat hA,e_mnew hA];refine st_loop hA rfl hl hn (Nat.le_refl _) (fun h' M q1 q2 q3 q4=>?_) n 0 _ [] (by omega) (by omega) (by omega) (pushB_eq _ _) ?_ (Ext.pushB _ _) (by show h.next<h.next+1;omega)
 ·refine zc ?_
  exact hQ h' _ M q1 q2 q3 (Nat.le_refl _) q4
 ·refine RMap.nil.of (fun x=>?_) (fun _=>rfl)
  unfold stS;simp
end Go.Proofs.Ytlimjlpjldijdaa
namespace Go.Proofs.Ytlimjlpjldijdaa
open Go.Sim
set_option maxRecDepth 100000
def un(b:Bool):Nat:=if b=true then 0 else 1
def unr(R:Int->Bool):Nat:=un (R 0)+un (R 1)+un (R 2)+un (R 3)+un (R 4)+un (R 5)+un (R 6)+un (R 7)
theorem setR_same{R:Int->Bool}{s:Int}(h:R s=true):setR R s=R:=by
 funext x
 unfold setR;by_cases c:x=s
 ·rw[if_pos c,c,h]
 ·rw[if_neg c]
theorem unr_set{R:Int->Bool}{s:Int}(h0:0<=s)(h8:s<8)(h:R s=false):unr (setR R s)+1=unr R:=by
 rcases(show s=0\/s=1\/s=2\/s=3\/s=4\/s=5\/s=6\/s=7 by omega)with rfl|rfl|rfl|rfl|rfl|rfl|rfl|rfl <;>
  simp[unr,setR,un,h]<;>omega
theorem unr_add{R:Int->Bool}{p:F2}(hp:okP p.n p.d)(h:cutP R p=true):unr (addR R p)+1=unr R:=by
 obtain⟨h1,h2,h3,h4,_⟩:=hp.is;unfold cutP at h;unfold addR;cases c1:R p.n with
 |true=>
  cases c2:R p.d with
  |true=>rw[c1,c2]at h;cases h
  |false=>rw[setR_same c1];exact unr_set (by omega) (by omega) c2
 |false=>
  cases c2:R p.d with
  |false=>rw[c1,c2]at h;cases h
  |true=>
   rw[setR_same (s:=p.d)]
   ·exact unr_set (by omega) (by omega) c1
   ·unfold setR
    by_cases c:p.d=p.n
    ·rw[if_pos c]
    ·rw[if_neg c];exact c2
structure GS(h0:AHeap)(S:Int->Prop)(id:Nat)(R:Int->Bool)(t:List F2)(a':Option Addr)(k c':Nat)(h:AHeap):Prop where
 ext:Ext h0 h
 lt:id<h.next
 map:∃M,h.m.get id=some (.map (encE intK boolK M))/\RMap S M R
 tr:Apd h 2 a' k c' (t.flatMap F2.cells)
 fr:From (id+1) a'
 len:t.length=k
theorem GS.ext1{h0:AHeap}{S:Int->Prop}{id:Nat}{R:Int->Bool}{t:List F2}{a':Option Addr}{k c':Nat}{h h':AHeap}(g:GS h0 S id R t a' k c' h)(x:Ext h h'):GS h0 S id R t a' k c' h':=by
 obtain⟨M,m1,m2⟩:=g.map;have:=x.next;have:=g.lt;exact⟨g.ext.trans x,by omega,⟨M,by rw[x.get id (by omega)];exact m1,m2⟩,g.tr.ext x,g.fr,g.len⟩
variable{F:Prims}{call head arith cmp scmp bnot bsame conv neg imax imin ofNat slen place inR nz geZ rd wr push next mkOK nat zeros sadd eqAgg cut slc sslc strAt part app cpy putAt fresh lowered bump wrote addN lt ne fpAll fpApp brk yn rng mget mput mnew bytes clr mrng ment:_}(hA:AP F ⟨call,head,arith,cmp,scmp,bnot,bsame,conv,neg,imax,imin,ofNat,slen,place,inR,nz,geZ,rd,wr,push,next,mkOK,nat,zeros,sadd,eqAgg,cut,slc,sslc,strAt,part,app,cpy,putAt,fresh,lowered,bump,wrote,addN,lt,ne,fpAll,fpApp,brk,yn,rng,mget,mput,mnew,bytes,clr,mrng,ment⟩)
include hA
theorem appR2_ok{t e es:Nat}(hT:SliceT Try.prog t e es){α:Type}{enc:α->List Value}(he:∀x,(enc x).length=es)(hp0:0<es)(hok:∀x,(enc x).all cellOK=true){h:AHeap}{a:Option Addr}{n c:Nat}{l:List α}{v:α}(hp:Apd h es a n c (l.flatMap enc))(hn:n<=100000){C:Option Addr->Nat->Nat->AHeap->Prop}
  (hC:∀a' c' h',Apd h' es a' (n+1) c' ((l++[v]).flatMap enc)->(∀h0,Ext h0 h->From h0.next a->Ext h0 h'/\From h0.next a')->(∀b,b<h.next->b≠0->(∀ad,a=some ad->b≠ad.block)->h'.m.get b=h.m.get b)->C a' (n+1) c' h') :
  app [t,t] [.slice a n c,.slice (some ⟨next h,0,none⟩) 1 1] (push h es (enc v)) C:=by
 have key:=appR_ok hA hT he hp0 hok (v:=v) hp hn (C:=fun a' n' c' h'=>n'=n+1/\Apd h' es a' (n+1) c' ((l++[v]).flatMap enc)/\(∀h0,Ext h0 h->From h0.next a->Ext h0 h'/\From h0.next a')) (fun a' c' h' k1 k2=>⟨rfl,k1,k2⟩);rw[e_app hA]at key ⊢;obtain⟨a',n',c',h',k1,rfl,k2,k3⟩:=key;refine⟨a',_,c',h',k1,hC a' c' h' k2 k3 (fun b hb hb0 hne=>?_)⟩;rw[e_push hA]at k1;rw[appendH_only k1 (b:=b) (by show b<h.next+1;omega) (by
  cases a with
  |none=>exact hb0
  |some ad=>exact hne ad rfl)]
 exact(Ext.push h es (enc v)).get b hb
theorem gr_in{h0:AHeap}(hlow0:h0.low<=h0.next){a:Option Addr}{n c:Nat}{l:List Vk}(hl:Vs h0 a n l)(hs:stOK l)(hn:n<=1000){P:List F2}(hP:Bas l P)(hd:(l.map Vk.pr).Nodup){id:Nat}(hid:h0.next<=id){pk:Int}{Q:Exit->SS->Prop} :
  ∀(m:Nat) (R:Int->Bool) (t:List F2) (h:AHeap) (a':Option Addr) (k c' b8:Nat) (ok:Bool) (p:F2),unr R<=m->k+unr R<=8->GS h0 (stS l) id R t a' k c' h->Own h b8 2 p.cells->id<b8->b8<h.next->(∀ad,a'=some ad->ad.block≠b8)->
   (ok=false->P.find? (cutP R)=none)->(ok=true->P.find? (cutP R)=some p)->
   (∀R' t' h' a'' k' c'',Reach P R t R' t'->GS h0 (stS l) id R' t' a'' k' c'' h'->k'+unr R'<=8->unr R'<=unr R->Q (.exit 2) ⟨[(0,.slice a n c),(4,.map (some id)),(5,.slice a'' k' c''),(6,.int .i64 pk)],0,[],h'⟩)->
   head 58 10 0 ⟨[(0,.slice a n c),(4,.map (some id)),(5,.slice a' k c'),(6,.int .i64 pk),(8,.pointer (some ⟨b8,0,none⟩)),(9,.bool ok)],0,[],h⟩ Q:=by
 intro m
 induction m with
 |zero=>
  intro R t h a' k c' b8 ok p hm hk8 hg ho hb8 hb8n hap hno hyes hQ;cases ok with
  |false=>
   refine hA.roundR Try.func58 r58_ok (zc ?_);exact hQ R t h a' k c' (.stop (hno rfl)) hg hk8 (Nat.le_refl _)
  |true=>
   have h1:=hyes rfl;have h2:=unr_add (hP.ok hs p (List.mem_of_find?_eq_some h1)) (List.find?_some h1);omega
 |succ m ih=>
 intro R t h a' k c' b8 ok p hm hk8 hg ho hb8 hb8n hap hno hyes hQ;cases ok with
 |false=>
  refine hA.roundR Try.func58 r58_ok (zc ?_);exact hQ R t h a' k c' (.stop (hno rfl)) hg hk8 (Nat.le_refl _)
 |true=>
 have f1:=hyes rfl;have f2:=unr_add (hP.ok hs p (List.mem_of_find?_eq_some f1)) (List.find?_some f1);have fm:=List.mem_of_find?_eq_some f1;have hSn:stS l p.n:=by obtain⟨v,hv,e⟩:=(hP.mem p).1 fm;exact⟨v,hv,.inl (by rw[e];rfl)⟩
 have hSd:stS l p.d:=by obtain⟨v,hv,e⟩:=(hP.mem p).1 fm;exact⟨v,hv,.inr (by rw[e];rfl)⟩
 obtain⟨M,m1,m2⟩:=hg.map;have r6:rd h b8 (addN 0 0) 1 [.int .i64 p.n]:=rd_fld0 hA (ho.readG (o:=0+0) (n:=1) (by simp[F2.cells]));refine hA.roundR Try.func58 r58_ok (zc ?_);refine zq ?_;obtain⟨M1,p1,p2,p3,p4⟩:=put_enc mIB m1 p.n true;obtain⟨h1,hh1⟩:∃z,z=h.putB id (.map (encE intK boolK M1)):=⟨_,rfl⟩;rw[<-hh1]at p1;refine⟨h1,(e_mput hA _ _ _ _ _ _).mpr p1,?_⟩;refine zc ?_;have g1:h1.m.get id=some (.map (encE intK boolK M1)):=by rw[hh1];exact putB_eq _
 have x1:Ext h0 h1:=by rw[hh1];exact hg.ext.putB hid _
 have n1:h1.next=h.next:=by rw[hh1];rfl
 have old1:∀i,i≠id->h1.m.get i=h.m.get i:=fun i hi=>by rw[hh1];exact putB_ne _ hi
 have ho1:Own h1 b8 2 p.cells:=by unfold Own;rw[old1 b8 (by omega)];exact ho
 have r7:rd h1 b8 (addN 0 1) 1 [.int .i64 p.d]:=rd_fld0 hA (ho1.readG (o:=0+1) (n:=1) (by simp[F2.cells]));refine zq ?_;obtain⟨M2,s1,s2,s3,s4⟩:=put_enc mIB g1 p.d true;obtain⟨h2,hh2⟩:∃z,z=h1.putB id (.map (encE intK boolK M2)):=⟨_,rfl⟩;rw[<-hh2]at s1;refine⟨h2,(e_mput hA _ _ _ _ _ _).mpr s1,?_⟩;refine zc ?_;have g2:h2.m.get id=some (.map (encE intK boolK M2)):=by rw[hh2];exact putB_eq _
 have x2:Ext h0 h2:=by rw[hh2];exact x1.putB hid _
 have n2:h2.next=h1.next:=by rw[hh2];rfl
 have old2:∀i,i≠id->h2.m.get i=h.m.get i:=fun i hi=>by rw[hh2,putB_ne _ hi,old1 i hi]
 have ho2:Own h2 b8 2 p.cells:=by unfold Own;rw[old2 b8 (by omega)];exact ho
 have R2:RMap (stS l) M2 (addR R p):=(m2.put hSn p2 p4).put hSd s2 s4;have T2:Apd h2 2 a' k c' (t.flatMap F2.cells):=hg.tr.of_get (by omega) (fun ad had hlt=>old2 _ (by have:=hg.fr ad had;omega));have r8:rd h2 b8 0 2 [.int .i64 p.n,.int .i64 p.d]:=rd_at hA (ho2.readG (o:=0) (n:=2) (by simp[F2.cells]));refine zq ?_;have hk100:k<=100000:=by omega
 refine appR2_ok hA TP2 f2_len (by omega) f2_ok' (v:=p) T2 hk100 (fun a2 c2 h3 hp3 hx hz=>?_);obtain⟨hB,hhB⟩:∃z:AHeap,z = { next:=id+1,low:=h2.low,m:=h2.m }:=⟨_,rfl⟩;have xB:Ext hB h2:=by rw[hhB];exact ext_cut (by have:=hg.lt;omega)
 have nB:hB.next=id+1:=by rw[hhB]
 obtain⟨x3,_⟩:=hx h0 x2 (fun ad had=>by have:=hg.fr ad had;omega);obtain⟨xB3,hf3⟩:=hx hB xB (by rw[nB];exact hg.fr);rw[nB]at hf3;have ho3:Own h3 b8 2 p.cells:=by unfold Own;rw[hz b8 (by omega) (by omega) (fun ad had e=>hap ad had e.symm)];exact ho2
 have g3:GS h0 (stS l) id (addR R p) (t++[p]) a2 (k+1) c2 h3:=⟨x3,by have:=xB3.next;omega,⟨M2,by rw[xB3.get id (by omega),hhB];exact g2,R2⟩,hp3,hf3,by simp[hg.len]⟩;have q3:rd h3 b8 0 2 [.int .i64 p.n,.int .i64 p.d]:=rd_at hA (ho3.readG (o:=0) (n:=2) (by simp[F2.cells]));refine zq ?_;have hlow3:h3.low<=h3.next:=x3.lowOK hlow0;simp only[e_next hA,e_push hA];have e4:=Ext.push h3 2 [.int .i64 0,.int .i64 0];have o4:=Own.push h3 2 [.int .i64 0,.int .i64 0];have n4:(h3.push 2 [.int .i64 0,.int .i64 0]).next=h3.next+1:=rfl;generalize h3.push 2 [.int .i64 0,.int .i64 0]=h4 at *;have lt3:=g3.lt;obtain⟨b9,hb9⟩:∃v,v=h3.next:=⟨_,rfl⟩;rw[<-hb9]at o4 n4 ⊢;obtain⟨h5,w5,o5,k5⟩:=o4.write (o:=0) (vs:=[.int .i64 p.n,.int .i64 p.d]) (by simp);have n5:=k5.next;refine⟨h5,wr_at hA w5,?_⟩;refine zc ?_;have e5:Ext h3 h5:=k5.ext e4 (by omega);have g5:=g3.ext1 e5;obtain⟨M5,q1,q2⟩:=g5.map;refine cnext_ok hA (g5.ext.lowOK hlow0) (hl.ext g5.ext) hs hn hP hd (id:=id) g5.lt q1 q2 (fun h6 e6 x6=>?_) (fun h6 p6 e6 x6=>?_)
 ·refine⟨0,0,false,rfl,?_⟩
  refine zc ?_;have o6:Own h6 b9 2 [.int .i64 p.n,.int .i64 p.d]:=Own.ext o5 x6 (by omega);obtain⟨h7,w7,o7,k7⟩:=o6.write (o:=0) (vs:=[.int .i64 0,.int .i64 0]) (by simp);refine⟨h7,wr_at hA w7,?_⟩;refine zc ?_;have n6:=x6.next;have n7:=k7.next;refine ih (addR R p) (t++[p]) h7 a2 (k+1) c2 b9 false ⟨0,0⟩ (by omega) (by omega) (g3.ext1 (k7.ext (e5.trans x6) (by omega))) o7 (by omega) (by omega) (fun ad had=>by have:=hp3.lt ad had;omega) (fun _=>e6) (fun q=>by cases q) ?_;intro R' t' h' a'' k' c'' j1 j2 j3 j4;exact hQ R' t' h' a'' k' c'' (.step f1 j1) j2 j3 (by omega)
 ·refine⟨p6.n,p6.d,true,rfl,?_⟩
  refine zc ?_;have o6:Own h6 b9 2 [.int .i64 p.n,.int .i64 p.d]:=Own.ext o5 x6 (by omega);obtain⟨h7,w7,o7,k7⟩:=o6.write (o:=0) (vs:=[.int .i64 p6.n,.int .i64 p6.d]) (by simp);refine⟨h7,wr_at hA w7,?_⟩;refine zc ?_;have n6:=x6.next;have n7:=k7.next;refine ih (addR R p) (t++[p]) h7 a2 (k+1) c2 b9 true p6 (by omega) (by omega) (g3.ext1 (k7.ext (e5.trans x6) (by omega))) o7 (by omega) (by omega) (fun ad had=>by have:=hp3.lt ad had;omega) (fun q=>by cases q) (fun _=>e6) ?_;intro R' t' h' a'' k' c'' j1 j2 j3 j4;exact hQ R' t' h' a'' k' c'' (.step f1 j1) j2 j3 (by omega)
omit hA in
theorem stS_pos{l:List Vk}(hs:stOK l){x:Int}(hx:stS l x):0<=x/\x<8:=by
 obtain⟨v,hv,e⟩:=hx;obtain⟨i,i0,i1,rfl⟩:=mem_gt hv;obtain⟨h1,h2,h3,h4,_⟩:=(hs i i0 i1).is;rcases e with rfl|rfl<;>omega
structure LW(F:Prims):Prop where
 least:∀args h,F 69 args h=leastF args h
 way:∀args h,F 54 args h=wayF args h
theorem least_call(hW:LW F){h:AHeap}{id:Nat}{M:List (Int×Bool)}(hm:h.m.get id=some (.map (encE intK boolK M)))(hp:∀e∈M,0<=e.1){Q:Value->AHeap->Prop}(hQ:Q (.int .i64 (leastOf M)) h):call 69 [.map (some id)] h Q:=by
 refine hA.prim (h':=h) (v:=.int .i64 (leastOf M)) ?_ hQ;rw[hW.least];unfold leastF;simp only[hm,flags_enc hp]
omit hA in
theorem RMap.pos{S:Int->Prop}{M:List (Int×Bool)}{R:Int->Bool}(h:RMap S M R)(hs:∀x,S x->0<=x):∀e∈M,0<=e.1:=fun e he=>by
 obtain⟨i,hi⟩:=List.getElem?_of_mem he;exact hs _ ((h.keys _).1 (by rw[getL_nd h.nd hi];rfl))
theorem gr_out(hW:LW F){h0:AHeap}(hlow0:h0.low<=h0.next){a:Option Addr}{n c:Nat}{l:List Vk}(hl:Vs h0 a n l)(hs:stOK l)(hn:n<=1000){P:List F2}(hP:Bas l P)(hd:(l.map Vk.pr).Nodup){id:Nat}(hid:h0.next<=id){Q:Exit->SS->Prop} :
  ∀(m:Nat) (R:Int->Bool) (t:List F2) (h:AHeap) (a':Option Addr) (k c':Nat) (pk s:Int),unr R<=m->k+unr R<=8->0<=pk->pk+unr R<=8->GS h0 (stS l) id R t a' k c' h->
   ((s=-1/\∀x,stS l x->R x=true)\/(0<=s/\stS l s/\R s=false/\∀x,stS l x->x<s->R x=true))->
   (∀t' h' a'' k' c'' pk',Parts P (stS l) R t pk t' pk'->Apd h' 2 a'' k' c'' (t'.flatMap F2.cells)->From h0.next a''->Ext h0 h'->t'.length=k'->0<=pk'->pk'<=8->k'<=8->Q (.exit 0) ⟨[(5,.slice a'' k' c''),(6,.int .i64 pk')],0,[],h'⟩)->
   head 58 5 0 ⟨[(0,.slice a n c),(4,.map (some id)),(5,.slice a' k c'),(6,.int .i64 pk),(7,.int .i64 s)],0,[],h⟩ Q:=by
 intro m
 induction m with
 |zero=>
  intro R t h a' k c' pk s hm hk8 hp0 hp8 hg hle hQ;rcases hle with ⟨rfl,h1⟩|⟨h0',h1,h2,_⟩
  ·refine hA.roundR Try.func58 r58_ok (zc ?_)
   refine br False (by rw[e_geq hA];rfl) (fun q=>q.elim) (fun _=>?_)<;>refine zc ?_;exact hQ t h a' k c' pk (.stop h1) hg.tr (fun ad had=>by have:=hg.fr ad had;omega) hg.ext hg.len hp0 (by omega) (by omega)
  ·have:=unr_set (stS_pos hs h1).1 (stS_pos hs h1).2 h2
   omega
 |succ m ih=>
 intro R t h a' k c' pk s hm hk8 hp0 hp8 hg hle hQ;rcases hle with ⟨rfl,h1⟩|⟨h0',h1,h2,h3⟩
 ·refine hA.roundR Try.func58 r58_ok (zc ?_)
  refine br False (by rw[e_geq hA];rfl) (fun q=>q.elim) (fun _=>?_)<;>refine zc ?_;exact hQ t h a' k c' pk (.stop h1) hg.tr (fun ad had=>by have:=hg.fr ad had;omega) hg.ext hg.len hp0 (by omega) (by omega)
 have hu:=unr_set (stS_pos hs h1).1 (stS_pos hs h1).2 h2;have e2:arith .add .i64 pk 1=pk+1:=add64 hA (by omega) (by omega);obtain⟨M,m1,m2⟩:=hg.map;refine hA.roundR Try.func58 r58_ok (zc ?_);refine br (0<=s) (by rw[e_geq hA]) (fun c1=>?_) (fun c1=>by omega)<;>refine zc ?_;obtain⟨M1,p1,p2,p3,p4⟩:=put_enc mIB m1 s true;obtain⟨h1',hh1⟩:∃z,z=h.putB id (.map (encE intK boolK M1)):=⟨_,rfl⟩;rw[<-hh1]at p1;refine⟨h1',(e_mput hA _ _ _ _ _ _).mpr p1,?_⟩;refine zc ?_;obtain⟨pk1,hpk1⟩:∃z,z=pk+1:=⟨_,rfl⟩;rw[e2,<-hpk1];have g1:h1'.m.get id=some (.map (encE intK boolK M1)):=by rw[hh1];exact putB_eq _
 have x1:Ext h0 h1':=by rw[hh1];exact hg.ext.putB hid _
 have n1:h1'.next=h.next:=by rw[hh1];rfl
 have old1:∀i,i≠id->h1'.m.get i=h.m.get i:=fun i hi=>by rw[hh1];exact putB_ne _ hi
 have R1:RMap (stS l) M1 (setR R s):=m2.put h1 p2 p4;have G1:GS h0 (stS l) id (setR R s) t a' k c' h1':=⟨x1,by have:=hg.lt;omega,⟨M1,g1,R1⟩,hg.tr.of_get (by omega) (fun ad had hlt=>old1 _ (by have:=hg.fr ad had;omega)),hg.fr,hg.len⟩;have fin:∀R' t' h' a'' k' c'',Reach P (setR R s) t R' t'->GS h0 (stS l) id R' t' a'' k' c'' h'->k'+unr R'<=8->unr R'<=unr (setR R s)->∀s',((s'=-1/\∀x,stS l x->R' x=true)\/(0<=s'/\stS l s'/\R' s'=false/\∀x,stS l x->x<s'->R' x=true))->
   head 58 5 0 ⟨[(0,.slice a n c),(4,.map (some id)),(5,.slice a'' k' c''),(6,.int .i64 pk1),(7,.int .i64 s')],0,[],h'⟩ Q:=fun R' t' h' a'' k' c'' j1 j2 j3 j4 s' j5=>
  ih R' t' h' a'' k' c'' pk1 s' (by omega) j3 (by omega) (by omega) j2 j5 (fun t2 h2' a2 k2 c2 pk2 y1 y2 y3 y4 y5 y6 y7 y8=>hQ t2 h2' a2 k2 c2 pk2 (.part h1 h2 h3 j1 (hpk1 ▸ y1)) y2 y3 y4 y5 y6 y7 y8)
 refine cnext_ok hA (x1.lowOK hlow0) (hl.ext x1) hs hn hP hd (id:=id) G1.lt g1 R1 (fun h6 e6 x6=>?_) (fun h6 p6 e6 x6=>?_)
 ·refine⟨0,0,false,rfl,?_⟩
  refine zc ?_;simp only[e_next hA,e_push hA];have e7:=Ext.push h6 2 [.int .i64 0,.int .i64 0];have o7:=Own.push h6 2 [.int .i64 0,.int .i64 0];have n7:(h6.push 2 [.int .i64 0,.int .i64 0]).next=h6.next+1:=rfl;generalize h6.push 2 [.int .i64 0,.int .i64 0]=h7 at *;have G6:=G1.ext1 x6;have lt6:=G6.lt;obtain⟨b9,hb9⟩:∃v,v=h6.next:=⟨_,rfl⟩;rw[<-hb9]at o7 n7 ⊢;obtain⟨h8,w8,o8,k8⟩:=o7.write (o:=0) (vs:=[.int .i64 0,.int .i64 0]) (by simp);have n8:=k8.next;refine⟨h8,wr_at hA w8,?_⟩;refine zc ?_;have e8:Ext h6 h8:=k8.ext e7 (by omega);refine gr_in hA hlow0 hl hs hn hP hd hid (unr (setR R s)) (setR R s) t h8 a' k c' b9 false ⟨0,0⟩ (Nat.le_refl _) (by omega) (G6.ext1 e8) o8 (by omega) (by omega) (fun ad had=>by have:=G6.tr.lt ad had;omega) (fun _=>e6) (fun q=>by cases q) ?_;intro R' t' h' a'' k' c'' j1 j2 j3 j4;refine zc ?_;obtain⟨M',y1,y2⟩:=j2.map;refine least_call hA hW y1 (y2.pos (fun x hx=>(stS_pos hs hx).1)) ?_;have y3:=y2.least (fun x hx=>(stS_pos hs hx).1);generalize leastOf M'=s' at y3 ⊢;refine⟨s',rfl,?_⟩;refine zc ?_;exact fin R' t' h' a'' k' c'' j1 j2 j3 j4 s' y3
 ·refine⟨p6.n,p6.d,true,rfl,?_⟩
  refine zc ?_;simp only[e_next hA,e_push hA];have e7:=Ext.push h6 2 [.int .i64 0,.int .i64 0];have o7:=Own.push h6 2 [.int .i64 0,.int .i64 0];have n7:(h6.push 2 [.int .i64 0,.int .i64 0]).next=h6.next+1:=rfl;generalize h6.push 2 [.int .i64 0,.int .i64 0]=h7 at *;have G6:=G1.ext1 x6;have lt6:=G6.lt;obtain⟨b9,hb9⟩:∃v,v=h6.next:=⟨_,rfl⟩;rw[<-hb9]at o7 n7 ⊢;obtain⟨h8,w8,o8,k8⟩:=o7.write (o:=0) (vs:=[.int .i64 p6.n,.int .i64 p6.d]) (by simp);have n8:=k8.next;refine⟨h8,wr_at hA w8,?_⟩;refine zc ?_;have e8:Ext h6 h8:=k8.ext e7 (by omega);refine gr_in hA hlow0 hl hs hn hP hd hid (unr (setR R s)) (setR R s) t h8 a' k c' b9 true p6 (Nat.le_refl _) (by omega) (G6.ext1 e8) o8 (by omega) (by omega) (fun ad had=>by have:=G6.tr.lt ad had;omega) (fun q=>by cases q) (fun _=>e6) ?_;intro R' t' h' a'' k' c'' j1 j2 j3 j4;refine zc ?_;obtain⟨M',y1,y2⟩:=j2.map;refine least_call hA hW y1 (y2.pos (fun x hx=>(stS_pos hs hx).1)) ?_;have y3:=y2.least (fun x hx=>(stS_pos hs hx).1);generalize leastOf M'=s' at y3 ⊢;refine⟨s',rfl,?_⟩;refine zc ?_;exact fin R' t' h' a'' k' c'' j1 j2 j3 j4 s' y3
theorem grow_ok(hW:LW F){h:AHeap}(hlow:h.low<=h.next){a:Option Addr}{n c:Nat}{l:List Vk}(hl:Vs h a n l)(hs:stOK l)(hn:n<=1000){P:List F2}(hP:Bas l P)(hd:(l.map Vk.pr).Nodup){Q:Value->AHeap->Prop}
  (hQ:∀t h' a' k c' pk,Parts P (stS l) (fun _=>false) [] 0 t pk->Apd h' 2 a' k c' (t.flatMap F2.cells)->From h.next a'->Ext h h'->t.length=k->0<=pk->pk<=8->k<=8->Q (.tuple #[.slice a' k c',.int .i64 pk]) h') :
  call 58 [.slice a n c] h Q:=by
 refine hA.bodyR Try.func58 r58_ok (hA.alike _ _ _ rfl) hlow (zc ?_);refine stations_ok hA hlow hl hn (fun h1 id M q1 q2 q3 q4 q5=>?_);refine⟨_,rfl,?_⟩;refine zc ?_;refine least_call hA hW q1 (q2.pos (fun x hx=>(stS_pos hs hx).1)) ?_;have y3:=q2.least (fun x hx=>(stS_pos hs hx).1);generalize leastOf M=s' at y3 ⊢;refine⟨s',rfl,?_⟩;refine zc ?_;have hu8:unr (fun _=>false)=8:=by simp[unr,un]
 refine gr_out hA hW hlow hl hs hn hP hd q4 8 (fun _=>false) [] h1 none 0 0 0 s' (by omega) (by omega) (by omega) (by omega) ⟨q3,q5,⟨M,q1,q2⟩,Apd.nil _ _,From.none _,rfl⟩ y3 ?_;intro t' h' a'' k' c'' pk' j1 j2 j3 j4 j5 j6 j7 j8;refine zc ?_;exact hQ t' h' a'' k' c'' pk' j1 j2 j3 j4 j5 j6 j7 j8
