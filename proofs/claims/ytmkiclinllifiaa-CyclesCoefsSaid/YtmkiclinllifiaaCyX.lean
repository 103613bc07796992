import Derived.Test.YtmkiclinllifiaaCyL
import Derived.Test.YtmkiclinllifiaaCyU
import Derived.Test.YtmkiclinllifiaaCyK
import Derived.Test.YtmkiclinllifiaaCxR
set_option linter.unusedSimpArgs false
set_option linter.unusedVariables false
namespace Go.Proofs.Ytmkiclinllifiaa
open Go.Sim
set_option maxRecDepth 100000
def FindQ(T:List (Int×Int))(x y but:Int)(h:AHeap)(Q:Value->AHeap->Prop):Prop:=
 (findS T x y but=none->∀h',Ext h h'->Q (.slice none 0 0) h')/\∀r,findS T x y but=some r->∀h' a' c',r.length<=capLow c'->Rows iC 1 h' a' r.length r->From h.next a'->Ext h h'->Q (.slice a' r.length c') h'
theorem findS_len{T:List (Int×Int)}(hg:grows T=true){x y but:Int}{r:List Int}(h:findS T x y but=some r):1<=r.length/\r.length<=T.length+1:=by
 unfold findS at h;cases c:pathR T x y with
 |none=>rw[c]at h;cases h
 |some p=>
  rw[c]at h;simp only at h;by_cases c2:p.tail.head?=some but
  ·rw[if_pos c2]at h;cases h
  ·rw[if_neg c2]at h
   obtain rfl:=Option.some.inj h;obtain⟨⟨q,e⟩,_⟩:=path_ends hg c;exact⟨by rw[e];simp,path_len hg c⟩
theorem append_full3{P:Program}{t t2 e es:Nat}(hT:SliceT P t e es)(ht2:P.underlying t2=some (.slice e)){h:AHeap}{b n n2 c2:Nat}{a2:Option Addr}{cells news:List Value}(ho:Own h b es cells)(hb:b<h.next)(hl:cells.length=n*es)(hn:n<=1000)(hs:Cells h a2 n2 es news)(hok:cells.all cellOK=true)(hok2:news.all cellOK=true)(h0:0<n2)(hbig:n2<=1000000) :
  appendH P h [t,t2] [.slice (some ⟨b,0,none⟩) n n,.slice a2 n2 c2]=some (.slice (some ⟨h.next,0,none⟩) (n+n2) (someCap es (n+n2)),h.push es (cells++news)):=by
 obtain⟨by_,hby,hby2⟩:=hT.bytes;obtain⟨z,hz,hz2⟩:=hT.zero;have hnl:=hs.length;have hnews:newsA P h e es false (.slice a2 n2 c2)=some (n2,news):=by
  unfold newsA;simp only[cond_false];cases a2 with
  |none=>obtain⟨rfl,rfl⟩:=hs;simp
  |some ad=>
   obtain⟨h1,h2,h3⟩:=hs;simp only[h3]
 have hcl:capLow n=n:=Nat.mod_eq_of_lt (by unfold slack;omega);unfold appendH;simp only[hT.und,hT.size,hby,ht2,hz,isIntDesc,hnews];rw[hcl,ble_false (by omega)];simp only[cond_false];rw[ble_true (show n+n2<=1073741824 by omega),ble_true hby2,hok2,hz2,hnl];simp only[Bool.and_self,Nat.beq_refl,cond_true];have hr:h.readG ⟨b,0,none⟩ (n*es)=some cells:=by rw[ho.readG (by omega)];simp[<-hl]
 simp only[hr];rw[blt_true (show n<slack by unfold slack;omega),hok];simp only[cond_true]
variable{F:Prims}{call head arith cmp scmp bnot bsame conv neg imax imin ofNat slen place inR nz geZ rd wr push next mkOK nat zeros sadd eqAgg cut slc sslc strAt part app cpy putAt fresh lowered bump wrote addN lt ne fpAll fpApp brk yn rng mget mput mnew bytes clr mrng ment:_}(hA:AP F ⟨call,head,arith,cmp,scmp,bnot,bsame,conv,neg,imax,imin,ofNat,slen,place,inR,nz,geZ,rd,wr,push,next,mkOK,nat,zeros,sadd,eqAgg,cut,slc,sslc,strAt,part,app,cpy,putAt,fresh,lowered,bump,wrote,addN,lt,ne,fpAll,fpApp,brk,yn,rng,mget,mput,mnew,bytes,clr,mrng,ment⟩)
include hA
theorem fd_loop{h0:AHeap}(hlow:h0.low<=h0.next){a:Option Addr}{n c:Nat}{t:List F2}(hl:Rows F2.cells 2 h0 a n t)(hn:n<=8)(hok:∀p∈t,okP p.n p.d)(hg:grows (trT t)=true){x y but:Int}(hxy:x≠y)
  (IH:∀v h1 Q,Adj (trT t) x v->v≠but->Ext h0 h1->FindQ (trT t) v y x h1 Q->call 45 [.slice a n c,.int .i64 v,.int .i64 y,.int .i64 x] h1 Q) {Q:Exit->SS->Prop}
  (hno:findS (trT t) x y but=none->∀h',Ext h0 h'->∀e kn K,Q (.exit 0) ⟨e,kn,K,h'⟩)
  (hyes:∀r,findS (trT t) x y but=some r->∀h' a' c' rn,rn=r.length->rn<=capLow c'->Rows iC 1 h' a' rn r->From h0.next a'->Ext h0 h'->∀e kn K,Q .ret ⟨(8,.slice a' rn c') :: e,kn,K,h'⟩) :
  ∀(m:Nat) (i:Int) (h:AHeap),(n-i).toNat<=m->0<=i->i<=n->(∀v,Adj (trT (t.take i.toNat)) x v->v≠but->findS (trT t) v y x=none)->Ext h0 h->
   head 45 4 0 ⟨[(0,.slice a n c),(1,.int .i64 x),(2,.int .i64 y),(3,.int .i64 but),(9,.int .i64 i)],0,[],h⟩ Q:=by
 have hlen:=hl.len;refine upTo (fun m ih=>?_);intro i h hm i0 i1 hv he;by_cases ci:i<n
 rotate_left
 ·refine hA.roundR Try.func45 r45_ok (zc ?_)
  refine br (i<n) (by rw[e_lss hA,e_ofNat hA]) (fun c1=>absurd c1 ci) (fun c1=>?_)<;>refine zc ?_;rw[List.take_of_length_le (by omega)]at hv;exact hno (find_none hg hxy hv) h he _ _ _
 obtain⟨m,rfl⟩:∃k,m=k+1:=⟨m-1,by omega⟩
 replace ih:=ih m rfl
 have e2:arith .add .i64 i 1=i+1:=add64 hA (by omega) (by omega);obtain⟨b,o,u,w,rfl,_,hgt,_,f0,f1⟩:=fr_at (hl.ext he) (i:=i) i0 ci;have p1:rd h b (addN (place o i 2) 0) 1 [.int .i64 u]:=rd_fld hA f0;have p2:rd h b (addN (place o i 2) 1) 1 [.int .i64 w]:=rd_fld hA f1;have hmem:(⟨u,w⟩:F2)∈t:=by rw[<-hgt];exact gt_mem t i0 (by omega)
 obtain⟨u0,u1,w0,w1,_⟩:=(hok _ hmem).is;simp only at u0 u1 w0 w1;have auw:Adj (trT t) u w:=.inl (trT_mem.2 hmem);have huw:u≠w:=adj_ne hg auw;have htk:=gt_take t i0 (by omega);rw[hgt]at htk;have nxt:(∀v,(u=x/\v=w)\/(w=x/\v=u)->v≠but->findS (trT t) v y x=none)->∀v,Adj (trT (t.take (i+1).toNat)) x v->v≠but->findS (trT t) v y x=none:=fun hn v ha hb=>by
  have old:∀q:F2,q∈t.take (i+1).toNat->q∈t.take i.toNat\/q=⟨u,w⟩:=fun q hq=>by
   rw[htk]at hq;exact(List.mem_append.1 hq).imp id List.mem_singleton.1
  rcases ha with ha|ha
  ·rcases old _ (trT_mem.1 ha)with z|z
   ·exact hv v (.inl (trT_mem.2 z)) hb
   ·have z1:x=u:=congrArg F2.n z
    have z2:v=w:=congrArg F2.d z;exact hn v (.inl ⟨z1.symm,z2⟩) hb
  ·rcases old _ (trT_mem.1 ha)with z|z
   ·exact hv v (.inr (trT_mem.2 z)) hb
   ·have z1:v=u:=congrArg F2.n z
    have z2:x=w:=congrArg F2.d z;exact hn v (.inr ⟨z2.symm,z1⟩) hb
 refine hA.roundR Try.func45 r45_ok (zc ?_);refine br (i<n) (by rw[e_lss hA,e_ofNat hA]) (fun c1=>?_) (fun c1=>absurd ci c1)<;>refine zc ?_;refine zq ?_;refine br (u=x) (by rw[e_eql hA]) (fun c2=>?_) (fun c2=>?_)<;>refine zc ?_
 ·refine zq ?_
  refine br (w=x) (by rw[e_eql hA]) (fun c3=>absurd (c2.trans c3.symm) huw) (fun c3=>?_)<;>refine zc ?_;obtain⟨nx,hnx⟩:∃z,z=w:=⟨_,rfl⟩;have nn:0<=nx:=by omega
  have an:Adj (trT t) x nx:=by rw[hnx,<-c2];exact auw
  have nxt':(nx≠but->findS (trT t) nx y x=none)->∀v,Adj (trT (t.take (i+1).toNat)) x v->v≠but->findS (trT t) v y x=none:=fun hf=>nxt (fun v hv' hb=>by
   rcases hv' with ⟨_,z⟩|⟨z,_⟩
   ·rw[z,<-hnx];exact hf (by rw[hnx,<-z];exact hb)
   ·exact absurd z c3)
  rw[<-hnx];refine br (nx<0) (by rw[e_lss hA]) (fun c4=>by omega) (fun c4=>?_)<;>refine zc ?_;refine br (nx=but) (by rw[e_eql hA]) (fun c5=>?_) (fun c5=>?_)<;>refine zc ?_
  ·rw[e2]
   exact ih (i+1) h (by omega) (by omega) (by omega) (nxt' (fun q=>absurd c5 q)) he
  refine IH nx h _ an c5 he ⟨fun hf h' x'=>?_,fun r hf h' a' c' _ hr hfr x'=>?_⟩
  ·refine⟨_,_,_,rfl,?_⟩
   refine zc ?_;refine br ((0:Int)<0) (by rw[e_gtr hA,e_ofNat hA];rfl) (fun c6=>by omega) (fun c6=>?_)<;>refine zc ?_;rw[e2];exact ih (i+1) h' (by omega) (by omega) (by omega) (nxt' (fun _=>hf)) (he.trans x')
  ·refine⟨_,_,_,rfl,?_⟩
   obtain⟨rn,hrn⟩:∃z,z=r.length:=⟨_,rfl⟩;have hrl:=findS_len hg hf;rw[<-hrn]at hr hrl ⊢;refine zc ?_;refine br (0<rn) (by rw[e_gtr hA,e_ofNat hA];simp) (fun c6=>?_) (fun c6=>by omega)<;>refine zc ?_;simp only[e_next hA,e_push hA];have ex:=Ext.push h' 1 [.int .i64 x];have ox:=Own.push h' 1 [.int .i64 x];have nxx:(h'.push 1 [.int .i64 x]).next=h'.next+1:=rfl;generalize h'.push 1 [.int .i64 x]=hY at *;obtain⟨bx,hbx⟩:∃z,z=h'.next:=⟨_,rfl⟩;rw[<-hbx]at ox ⊢;have hfs:=find_step hg an c5 hf;have htl:(trT t).length=t.length:=by unfold trT;simp
   have a9:=append_full3 (P:=Try.prog) (t2:=38) TI1 TI1.und (n:=1) ox (by omega) (by rfl) (by omega) (hr.ext ex).cells (c2:=c') (by rfl) (by exact all_flat iC_ok _) (by omega) (by omega);refine app_ok hA a9 ?_;obtain⟨c9,hc9⟩:∃z,z=someCap 1 (1+rn):=⟨_,rfl⟩;rw[<-hc9];have hcirc:[Value.int .i64 x]++r.flatMap iC=(x :: r).flatMap iC:=rfl;rw[hcirc];obtain⟨cn,hcn⟩:∃q,q=1+rn:=⟨_,rfl⟩;have lc:cn=(x :: r).length:=by rw[List.length_cons];omega
   rw[<-hcn];have eg:=Ext.push hY 1 ((x :: r).flatMap iC);have og:=Own.push hY 1 ((x :: r).flatMap iC);have ng:(hY.push 1 ((x :: r).flatMap iC)).next=hY.next+1:=rfl;generalize hY.push 1 ((x :: r).flatMap iC)=hZ at *;obtain⟨bg,hbg⟩:∃z,z=hY.next:=⟨_,rfl⟩;rw[<-hbg]at og ⊢;have og2:Rows iC 1 hZ (some ⟨bg,0,none⟩) cn (x :: r):=by rw[lc];exact Own.rows og iC_len (by omega) (by omega)
   have hxx:=he.trans x';exact hyes (x :: r) hfs hZ (some ⟨bg,0,none⟩) c9 cn lc (by rw[hc9,capLow_some (by unfold slack;omega)];omega) og2 (fun ad had=>by cases had;have:=hxx.next;show h0.next<=bg;omega) (hxx.trans (ex.trans eg)) _ _ _
 ·refine zq ?_
  refine br (w=x) (by rw[e_eql hA]) (fun c3=>?_) (fun c3=>?_)<;>refine zc ?_
  rotate_left
  ·refine br ((-1:Int)<0) (by rw[e_lss hA]) (fun c4=>?_) (fun c4=>by omega)<;>refine zc ?_
   rw[e2];exact ih (i+1) h (by omega) (by omega) (by omega) (nxt (fun v hv' _=>by
    rcases hv' with ⟨z,_⟩|⟨z,_⟩
    ·exact absurd z c2
    ·exact absurd z c3)) he
  refine zq ?_;obtain⟨nx,hnx⟩:∃z,z=u:=⟨_,rfl⟩;have nn:0<=nx:=by omega
  have an:Adj (trT t) x nx:=by rw[hnx,<-c3];exact auw.symm
  have nxt':(nx≠but->findS (trT t) nx y x=none)->∀v,Adj (trT (t.take (i+1).toNat)) x v->v≠but->findS (trT t) v y x=none:=fun hf=>nxt (fun v hv' hb=>by
   rcases hv' with ⟨z,_⟩|⟨_,z⟩
   ·exact absurd z c2
   ·rw[z,<-hnx];exact hf (by rw[hnx,<-z];exact hb))
  rw[<-hnx];refine br (nx<0) (by rw[e_lss hA]) (fun c4=>by omega) (fun c4=>?_)<;>refine zc ?_;refine br (nx=but) (by rw[e_eql hA]) (fun c5=>?_) (fun c5=>?_)<;>refine zc ?_
  ·rw[e2]
   exact ih (i+1) h (by omega) (by omega) (by omega) (nxt' (fun q=>absurd c5 q)) he
  refine IH nx h _ an c5 he ⟨fun hf h' x'=>?_,fun r hf h' a' c' _ hr hfr x'=>?_⟩
  ·refine⟨_,_,_,rfl,?_⟩
   refine zc ?_;refine br ((0:Int)<0) (by rw[e_gtr hA,e_ofNat hA];rfl) (fun c6=>by omega) (fun c6=>?_)<;>refine zc ?_;rw[e2];exact ih (i+1) h' (by omega) (by omega) (by omega) (nxt' (fun _=>hf)) (he.trans x')
  ·refine⟨_,_,_,rfl,?_⟩
   obtain⟨rn,hrn⟩:∃z,z=r.length:=⟨_,rfl⟩;have hrl:=findS_len hg hf;rw[<-hrn]at hr hrl ⊢;refine zc ?_;refine br (0<rn) (by rw[e_gtr hA,e_ofNat hA];simp) (fun c6=>?_) (fun c6=>by omega)<;>refine zc ?_;simp only[e_next hA,e_push hA];have ex:=Ext.push h' 1 [.int .i64 x];have ox:=Own.push h' 1 [.int .i64 x];have nxx:(h'.push 1 [.int .i64 x]).next=h'.next+1:=rfl;generalize h'.push 1 [.int .i64 x]=hY at *;obtain⟨bx,hbx⟩:∃z,z=h'.next:=⟨_,rfl⟩;rw[<-hbx]at ox ⊢;have hfs:=find_step hg an c5 hf;have htl:(trT t).length=t.length:=by unfold trT;simp
   have a9:=append_full3 (P:=Try.prog) (t2:=38) TI1 TI1.und (n:=1) ox (by omega) (by rfl) (by omega) (hr.ext ex).cells (c2:=c') (by rfl) (by exact all_flat iC_ok _) (by omega) (by omega);refine app_ok hA a9 ?_;obtain⟨c9,hc9⟩:∃z,z=someCap 1 (1+rn):=⟨_,rfl⟩;rw[<-hc9];have hcirc:[Value.int .i64 x]++r.flatMap iC=(x :: r).flatMap iC:=rfl;rw[hcirc];obtain⟨cn,hcn⟩:∃q,q=1+rn:=⟨_,rfl⟩;have lc:cn=(x :: r).length:=by rw[List.length_cons];omega
   rw[<-hcn];have eg:=Ext.push hY 1 ((x :: r).flatMap iC);have og:=Own.push hY 1 ((x :: r).flatMap iC);have ng:(hY.push 1 ((x :: r).flatMap iC)).next=hY.next+1:=rfl;generalize hY.push 1 ((x :: r).flatMap iC)=hZ at *;obtain⟨bg,hbg⟩:∃z,z=hY.next:=⟨_,rfl⟩;rw[<-hbg]at og ⊢;have og2:Rows iC 1 hZ (some ⟨bg,0,none⟩) cn (x :: r):=by rw[lc];exact Own.rows og iC_len (by omega) (by omega)
   have hxx:=he.trans x';exact hyes (x :: r) hfs hZ (some ⟨bg,0,none⟩) c9 cn lc (by rw[hc9,capLow_some (by unfold slack;omega)];omega) og2 (fun ad had=>by cases had;have:=hxx.next;show h0.next<=bg;omega) (hxx.trans (ex.trans eg)) _ _ _
theorem find_ok{a:Option Addr}{n c:Nat}{t:List F2}(hn:n<=8)(hok:∀p∈t,okP p.n p.d)(hg:grows (trT t)=true):∀(m:Nat) (x y but:Int) (h:AHeap),cntD (trT t) x but<=m->0<=x->x<8->h.low<=h.next->Rows F2.cells 2 h a n t->∀Q,FindQ (trT t) x y but h Q->
  call 45 [.slice a n c,.int .i64 x,.int .i64 y,.int .i64 but] h Q:=by
 intro m
 induction m with
 |zero=>
  intro x y but h hm x0 x8 hlow hl Q hQ;have:=cntD_pos (T:=trT t) (but:=but) x0 x8;omega
 |succ m ih=>
  intro x y but h hm x0 x8 hlow hl Q hQ;refine hA.bodyR Try.func45 r45_ok (hA.alike _ _ _ rfl) hlow (zc ?_);refine br (x=y) (by rw[e_eql hA]) (fun c1=>?_) (fun c1=>?_)<;>refine zc ?_
  ·simp only[e_next hA,e_push hA]
   have og:=Own.push h 1 (([x]:List Int).flatMap iC);have:=Own.rows og iC_len (by omega) (by show h.next<h.next+1;omega);refine hQ.2 [x] (by rw[<-c1];exact findS_self _ _ _) _ _ _ (show 1<=capLow 1 by decide) this (fun ad had=>by cases had;exact Nat.le_refl _) (Ext.push _ _ _)
  ·refine fd_loop hA hlow hl hn hok hg c1 (fun v h1 Q' ha hb x1 hq=>?_) (fun hf h' x' e kn K=>?_) (fun r hf h' a' c' rn hrn hcap hr hfr x' e kn K=>?_) n 0 h (by omega) (by omega) (by omega) (fun v ha=>by rcases ha with q|q<;>cases q) (.refl h)
   ·have hlt:=cntD_lt hg x0 x8 ha hb
    have hv:0<=v/\v<8:=by
     rcases ha with q|q
     ·obtain⟨_,_,z1,z2,_⟩:=(hok _ (trT_mem.1 q)).is;exact⟨z1,z2⟩
     ·obtain⟨z1,z2,_⟩:=(hok _ (trT_mem.1 q)).is;exact⟨z1,z2⟩
    exact ih v y x h1 (by omega) hv.1 hv.2 (x1.lowOK hlow) (hl.ext x1) Q' hq
   ·refine zc ?_
    exact hQ.1 hf h' x'
   ·refine zc ?_
    subst hrn;exact hQ.2 r hf h' a' c' hcap hr hfr x'
end Go.Proofs.Ytmkiclinllifiaa
namespace Go.Proofs.Ytmkiclinllifiaa
open Go.Sim
set_option maxRecDepth 100000
theorem basP_len(l:List Vk):(basP l).length<=28:=by
 have:=List.length_filter_le (fun p=>decide (p∈l.map Vk.pr)) allP;rw[allP_is]at this;unfold basP;rw[allP_is];simpa using this
theorem tree_pairs{l:List Vk}(hv:∀v∈l,okV v){t:List F2}{k:Int}(h:Parts (basP l) (stS l) (fun _=>false) [] 0 t k):∀p∈t,okP p.n p.d:=fun p hp=>by
 rcases(h.grows rfl (fun x hx=>by cases hx)).2 p hp with q|q
 ·cases q
 ·exact(basP_is hv).ok (okV.st hv) p q
theorem tree_pos{t:List F2}(h:∀p∈t,okP p.n p.d):∀u,hasV (trT t) u=true->0<=u:=fun u hu=>by
 obtain⟨⟨a,b⟩,hp,e⟩:=hasV_mem.1 hu;obtain⟨h1,h2,h3,h4,_⟩:=(h _ (trT_mem.1 hp)).is;simp only at e h1 h3;rcases e with e|e<;>omega
variable{F:Prims}{call head arith cmp scmp bnot bsame conv neg imax imin ofNat slen place inR nz geZ rd wr push next mkOK nat zeros sadd eqAgg cut slc sslc strAt part app cpy putAt fresh lowered bump wrote addN lt ne fpAll fpApp brk yn rng mget mput mnew bytes clr mrng ment:_}(hA:AP F ⟨call,head,arith,cmp,scmp,bnot,bsame,conv,neg,imax,imin,ofNat,slen,place,inR,nz,geZ,rd,wr,push,next,mkOK,nat,zeros,sadd,eqAgg,cut,slc,sslc,strAt,part,app,cpy,putAt,fresh,lowered,bump,wrote,addN,lt,ne,fpAll,fpApp,brk,yn,rng,mget,mput,mnew,bytes,clr,mrng,ment⟩)
include hA
theorem rch_loop{h0:AHeap}(hlow:h0.low<=h0.next){P t:List F2}{a3 a5:Option Addr}{n3 c3 n5 c5:Nat}(ht:Rows F2.cells 2 h0 a3 n3 t)(hP:Rows F2.cells 2 h0 a5 n5 P)(hn3:n3<=1000)(hn5:n5<=1000){Q:Exit->SS->Prop}
  (hQ:∀h' a' k c',Apd h' 2 a' k c' ((chds t P).flatMap F2.cells)->From h0.next a'->Ext h0 h'->(chds t P).length=k->Q (.exit 0) ⟨[(6,.slice a' k c')],0,[],h'⟩) :
  ∀(m:Nat) (i:Int) (h:AHeap) (a':Option Addr) (k c':Nat),(n5-i).toNat<=m->0<=i->i<=n5->Apd h 2 a' k c' ((chds t (P.take i.toNat)).flatMap F2.cells)->From h0.next a'->Ext h0 h->(chds t (P.take i.toNat)).length=k->
   head 40 5 0 ⟨[(3,.slice a3 n3 c3),(5,.slice a5 n5 c5),(6,.slice a' k c'),(7,.int .i64 i)],0,[],h⟩ Q:=by
 have hlen:=hP.len;refine upTo (fun m ih=>?_);intro i h a' k c' hm i0 i1 hp hf he hk;by_cases ci:i<n5
 rotate_left
 ·refine hA.roundR Try.func40 r40_ok (zc ?_)
  refine br (i<n5) (by rw[e_lss hA,e_ofNat hA]) (fun c1=>absurd c1 ci) (fun c1=>?_)<;>refine zc ?_;rw[List.take_of_length_le (by omega)]at hp hk;exact hQ h a' k c' hp hf he hk
 obtain⟨m,rfl⟩:∃k,m=k+1:=⟨m-1,by omega⟩
 replace ih:=ih m rfl
 have e2:arith .add .i64 i 1=i+1:=add64 hA (by omega) (by omega);obtain⟨b,o,x,y,rfl,_,hgt,r1,_,_⟩:=fr_at (hP.ext he) (i:=i) i0 ci;have q1:=rd_ok hA r1;have htk:=gt_take P i0 (by omega);rw[hgt]at htk;have hk1000:k<=100000:=by
  have:=List.length_filter_le (fun p=>decide (p∉t)) (P.take i.toNat);have:=List.length_take_le i.toNat P;unfold chds at hk;omega
 refine hA.roundR Try.func40 r40_ok (zc ?_);refine br (i<n5) (by rw[e_lss hA,e_ofNat hA]) (fun c1=>?_) (fun c1=>absurd ci c1)<;>refine zc ?_;refine zq ?_;refine has_ok hA (he.lowOK hlow) (ht.ext he) hn3 (fun r h1 hr x1=>⟨_,rfl,?_⟩);refine zc ?_;have he1:=he.trans x1;refine br (r=false) (by rw[e_bnot hA];cases r<;>rfl) (fun c2=>?_) (fun c2=>?_)<;>refine zc ?_
 ·have hnt:(⟨x,y⟩:F2)∉t:=fun q=>by have:=hr.2 q;rw[c2]at this;cases this
  have e3:chds t (P.take (i+1).toNat)=chds t (P.take i.toNat)++[⟨x,y⟩]:=by
   unfold chds;rw[htk,List.filter_append,List.filter_cons_of_pos (by simpa using hnt)];rfl
  obtain⟨_,_,_,_,hc',_,hgt',r1',_,_⟩:=fr_at (hP.ext he1) (i:=i) i0 ci;cases hc';rw[hgt]at hgt';cases hgt';have q1':=rd_ok hA r1';refine zq ?_;refine appR_ok hA TP2 f2_len (by omega) f2_ok' (v:=⟨x,y⟩) (hp.ext x1) hk1000 (fun a2 c2' h2 hp2 hx=>?_);obtain⟨x2,f2⟩:=hx h0 he1 hf;refine zc ?_;rw[e2];exact ih (i+1) h2 a2 (k+1) c2' (by omega) (by omega) (by omega) (by rw[e3];exact hp2) f2 x2 (by rw[e3];simp[hk])
 ·have htt:(⟨x,y⟩:F2)∈t:=hr.1 (by cases r with|true=>rfl|false=>exact absurd rfl c2)
  have e3:chds t (P.take (i+1).toNat)=chds t (P.take i.toNat):=by
   unfold chds;rw[htk,List.filter_append,List.filter_cons_of_neg (by simpa using htt)];simp
  rw[e2];exact ih (i+1) h1 a' k c' (by omega) (by omega) (by omega) (by rw[e3];exact hp.ext x1) hf he1 (by rw[e3];exact hk)
theorem rchords_ok{h:AHeap}(hlow:h.low<=h.next){a:Option Addr}{n c:Nat}{l:List Vk}(hl:Vs h a n l)(hv:∀v∈l,okV v)(hn:n<=1000)(hd:(l.map Vk.pr).Nodup){Q:Value->AHeap->Prop}
  (hQ:∀t h' a' k c' pk,Parts (basP l) (stS l) (fun _=>false) [] 0 t pk->Rows F2.cells 2 h' a' k (chds t (basP l))->From h.next a'->Ext h h'->Q (.slice a' k c') h') :
  call 40 [.slice a n c] h Q:=by
 refine hA.bodyR Try.func40 r40_ok (hA.alike _ _ _ rfl) hlow (zc ?_);refine grown_ok hA hlow hl hv hn hd (fun t h1 a3 n3 c3 pk q1 q2 q3 q4 q5=>?_);refine⟨_,_,_,_,rfl,?_⟩;refine zc ?_;refine pairs_ok hA (q4.lowOK hlow) (hl.ext q4) hn hd (fun h2 a5 n5 c5 hP hf x2=>?_);refine⟨_,_,_,rfl,?_⟩;refine zc ?_;have xx:=q4.trans x2;have hbl:=basP_len l;have hpl:=hP.len;refine rch_loop hA (xx.lowOK hlow) (q2.ext x2) hP (by omega) (by omega) (fun h3 a' k c' y1 y2 y3 y4=>?_) n5 0 h2 none 0 0 (by omega) (by omega) (by omega) (Apd.nil _ _) (From.none _) (.refl _) rfl;refine zc ?_;exact hQ t h3 a' k c' pk q1 ⟨y1.cells,f2_len,by omega⟩ (fun ad had=>by have:=y2 ad had;have:=xx.next;omega) (xx.trans y3)
end Go.Proofs.Ytmkiclinllifiaa
namespace Go.Proofs.Ytmkiclinllifiaa
open Go.Sim
set_option maxRecDepth 100000
variable{F:Prims}{call head arith cmp scmp bnot bsame conv neg imax imin ofNat slen place inR nz geZ rd wr push next mkOK nat zeros sadd eqAgg cut slc sslc strAt part app cpy putAt fresh lowered bump wrote addN lt ne fpAll fpApp brk yn rng mget mput mnew bytes clr mrng ment:_}(hA:AP F ⟨call,head,arith,cmp,scmp,bnot,bsame,conv,neg,imax,imin,ofNat,slen,place,inR,nz,geZ,rd,wr,push,next,mkOK,nat,zeros,sadd,eqAgg,cut,slc,sslc,strAt,part,app,cpy,putAt,fresh,lowered,bump,wrote,addN,lt,ne,fpAll,fpApp,brk,yn,rng,mget,mput,mnew,bytes,clr,mrng,ment⟩)
include hA
theorem rows_low{α:Type}{enc:α->List Value}{es:Nat}{h9 hz hX:AHeap}{a:Option Addr}{n:Nat}{l:List α}(hr:Rows enc es hz a n l)(e:hX=lowered h9 hz):Rows enc es hX a n l:=by
 rw[e_lowered hA]at e;refine⟨cells_of' hr.cells (fun ad had=>?_),hr.each,hr.pos⟩;have:=hr.cells;rw[had]at this;rw[e];exact⟨this.2.1,rfl⟩
theorem rba_loop{h0:AHeap}(hlow0:h0.low<=h0.next){C t:List F2}{a3 a5:Option Addr}{n3 c3 n c:Nat}(ht:Rows F2.cells 2 h0 a3 n3 t)(hl:Rows F2.cells 2 h0 a5 n C)(hn3:n3<=8)(hn:n<=1000)(hok:∀p∈t,okP p.n p.d)(hCok:∀p∈C,okP p.n p.d)(hg:grows (trT t)=true)
  (hc:∀p∈C,Conn (trT t) p.d p.n/\p.n≠p.d) {Q:Exit->SS->Prop}
  (hQ:∀h' a' c' hs,BaI h0 a' n c' hs (C.map (circF t)) h'->Q (.exit 0) ⟨[(6,.slice a' n c')],0,[],h'⟩) :
  ∀(m:Nat) (i:Int) (h:AHeap) (a':Option Addr) (k c':Nat) (hs:List Hd),(n-i).toNat<=m->0<=i->i<=n->(k:Int)=i->BaI h0 a' k c' hs ((C.take i.toNat).map (circF t)) h->
   head 42 5 0 ⟨[(3,.slice a3 n3 c3),(5,.slice a5 n c),(6,.slice a' k c'),(7,.int .i64 i)],0,[],h⟩ Q:=by
 have hlen:=hl.len;refine upTo (fun m ih=>?_);intro i h a' k c' hs hm' i0 i1 hk hb;by_cases ci:i<n
 rotate_left
 ·obtain rfl:k=n:=by omega
  refine hA.roundR Try.func42 r42_ok (zc ?_);refine br (i<k) (by rw[e_lss hA,e_ofNat hA]) (fun c1=>absurd c1 ci) (fun c1=>?_)<;>refine zc ?_;rw[List.take_of_length_le (by omega)]at hb;exact hQ h a' c' hs hb
 obtain⟨m,rfl⟩:∃k,m=k+1:=⟨m-1,by omega⟩
 replace ih:=ih m rfl
 obtain⟨h9,hh9⟩:∃z,z=bump h 13:=⟨_,rfl⟩;have e9:Ext h h9:=by rw[hh9];exact ext_bump hA _ _
 have b9:=hb.more e9;obtain⟨bb,o,x,y,rfl,hbb,hgt,r1,f0,f1⟩:=fr_at (hl.ext b9.ext) (i:=i) i0 ci;have p1:rd h9 bb (addN (place o i 2) 0) 1 [.int .i64 x]:=rd_fld hA f0;have p2:rd h9 bb (addN (place o i 2) 1) 1 [.int .i64 y]:=rd_fld hA f1;have e2:arith .add .i64 i 1=i+1:=add64 hA (by omega) (by omega);have hmem:(⟨x,y⟩:F2)∈C:=by rw[<-hgt];exact gt_mem C i0 (by omega)
 obtain⟨x0,x8,y0,y8,_⟩:=(hCok _ hmem).is;obtain⟨⟨w,hw⟩,hxy⟩:=hc _ hmem;simp only at x0 x8 y0 y8 hw hxy;obtain⟨⟨w1,hw1⟩,w2,hw2⟩:=path_ends hg hw;have wl:=path_len hg hw;have htl:(trT t).length=t.length:=by unfold trT;simp
 have htn:=ht.len;have htop:findS (trT t) y x (-1)=some w:=by rw[findS_top hg (tree_pos hok) y0];exact hw
 refine hA.roundR Try.func42 r42_ok (zc ?_);refine br (i<n) (by rw[e_lss hA,e_ofNat hA]) (fun c1=>?_) (fun c1=>absurd ci c1)<;>refine zc ?_;rw[<-hh9];refine zq ?_;refine find_ok hA hn3 hok hg 8 y x (-1) (fresh h9) (cntD_le _ _ _) y0 y8 (low_fresh hA h9) ((ht.ext b9.ext).ext (ext_fresh hA h9)) _ ⟨fun hf=>absurd (htop.symm.trans hf) (by simp),fun r hf hz aw cw hcap hr hfr ez=>?_⟩;obtain rfl:w=r:=by rw[htop]at hf;exact Option.some.inj hf
 refine⟨_,_,_,rfl,?_⟩;obtain⟨wn,hwn⟩:∃z,z=w.length:=⟨_,rfl⟩;rw[<-hwn]at hr hcap ⊢;have l9:=b9.ext.lowOK hlow0;obtain⟨hX,hhX⟩:∃z,z=lowered h9 hz:=⟨_,rfl⟩;have lowh:=hb.ext.lowOK hlow0;have eX:Ext h hX:=by rw[hhX];exact ext_low hA lowh e9 ez
 have bX:=hb.more eX;have lX:=bX.ext.lowOK hlow0;have hrX:Rows iC 1 hX aw wn w:=rows_low hA hr hhX;refine zc ?_;rw[<-hhX];obtain⟨h10,hh10⟩:∃z,z=bump hX 16:=⟨_,rfl⟩;have e10:Ext hX h10:=by rw[hh10];exact ext_bump hA _ _
 rw[<-hh10];obtain⟨_,_,_,_,hc',_,hgt',_,f0',f1'⟩:=fr_at (hl.ext (bX.ext.trans e10)) (i:=i) i0 ci;cases hc';rw[hgt]at hgt';cases hgt';have p1':rd h10 bb (addN (place o i 2) 0) 1 [.int .i64 x]:=rd_fld hA f0';refine zq ?_;have wpos:2<=wn:=by
  rw[hwn,hw1];cases w1 with
  |nil=>exact absurd (path_one hg (hw.trans (congrArg some hw1))).symm hxy
  |cons=>simp
 obtain⟨z,hz'⟩:∃z:Int,z=wn-1:=⟨_,rfl⟩;rw[e_ofNat hA,sub64 hA (by omega) (by omega),<-hz'];refine⟨by rw[e_cut hA];omega,?_⟩;simp only[e_nat hA];obtain⟨zn,hzn⟩:∃q,q=z.toNat:=⟨_,rfl⟩;rw[<-hzn];have hi1:addN (next hX) 6=hX.next+6:=by rw[e_addN hA,e_next hA]
 obtain⟨i1,hi1'⟩:∃q,q=addN (next hX) 6:=⟨_,rfl⟩;rw[<-hi1']at hi1 ⊢;have n10:h10.next=hX.next+16:=by rw[hh10,e_bump hA];rfl
 have nX:=eX.next;obtain⟨xPX,oP,nP,gP⟩:=put_ext hA e10 (i:=i1) (es:=1) (by omega) [Value.int .i64 x];obtain⟨P,hP⟩:∃q,q=putAt h10 i1 1 [Value.int .i64 x]:=⟨_,rfl⟩;rw[<-hP]at xPX oP nP gP ⊢;refine zq ?_;have xP:=eX.trans xPX;have oPF:Own (fresh P) i1 1 [Value.int .i64 x]:=oP.ext (ext_fresh hA P) (by omega);have nPF:(fresh P).next=P.next:=by rw[e_fresh hA];rfl
 have hnews:Cells (fresh P) aw zn 1 (w.dropLast.flatMap iC):=by
  have h1:=((hrX.ext xPX).ext (ext_fresh hA P)).cells.head (m:=zn) (by omega);rw[Nat.mul_one,iC_flat,<-List.map_take,show w.take zn=w.dropLast by rw[List.dropLast_eq_take];congr 1;omega,<-iC_flat]at h1;exact h1
 have a9:=append_full3 (P:=Try.prog) (t2:=38) TI1 TI1.und (n:=1) oPF (by omega) (by rfl) (by omega) hnews (c2:=cw) (by rfl) (all_flat iC_ok _) (by omega) (by omega);refine app_ok hA a9 ?_;have hcirc:[Value.int .i64 x]++w.dropLast.flatMap iC=(circF t ⟨x,y⟩).flatMap iC:=by
  unfold circF;simp only[hw,Option.getD_some,List.flatMap_cons];rfl
 rw[hcirc];obtain⟨cn,hcn⟩:∃q,q=1+zn:=⟨_,rfl⟩;have lc:(circF t ⟨x,y⟩).length=cn:=by
  unfold circF;simp only[hw,Option.getD_some,List.length_cons,List.length_dropLast];omega
 rw[<-hcn];obtain⟨c9,hc9⟩:∃z,z=someCap 1 cn:=⟨_,rfl⟩;rw[<-hc9];have eg:=Ext.push (fresh P) 1 ((circF t ⟨x,y⟩).flatMap iC);have og:=Own.push (fresh P) 1 ((circF t ⟨x,y⟩).flatMap iC);have ng:((fresh P).push 1 ((circF t ⟨x,y⟩).flatMap iC)).next=(fresh P).next+1:=rfl;generalize (fresh P).push 1 ((circF t ⟨x,y⟩).flatMap iC)=hZ at *;obtain⟨bg,hbg⟩:∃z,z=(fresh P).next:=⟨_,rfl⟩;rw[<-hbg]at og ⊢;obtain⟨X2,hX2⟩:∃q,q=lowered P hZ:=⟨_,rfl⟩;have x2:Ext h X2:=by rw[hX2];exact ext_low hA lowh xP eg
 have o2:Own X2 bg 1 ((circF t ⟨x,y⟩).flatMap iC):=by rw[hX2,e_lowered hA];exact og
 have n2:X2.next=hZ.next:=by rw[hX2,e_lowered hA];rfl
 refine zc ?_;rw[<-hX2];have hi2:addN (next hX) 13=hX.next+13:=by rw[e_addN hA,e_next hA]
 obtain⟨i2,hi2'⟩:∃q,q=addN (next hX) 13:=⟨_,rfl⟩;rw[<-hi2']at hi2 ⊢;have hk5:k<=100000:=by omega
 have lt0:h0.next<=h.next:=hb.ext.next;have n9:=e9.next;refine appKD_ok hA TL1 hd_len (by omega) hd_ok (X:=X2) (i:=i2) (v:=⟨some ⟨bg,0,none⟩,cn,c9⟩) (by omega) (hb.hd.ext x2) (fun ad had=>by have:=hb.hd.lt ad had;omega) hk5 (fun b2 h' hp2 hb2 hnx hkeep hx=>?_);have xE0:=hx h0 (hb.ext.trans x2) hlow0 (by omega) hb.fr;generalize someCap 1 (k+1)=sc at *;obtain⟨hE,hhE⟩:∃q,q=lowered (putAt X2 i2 1 (Hd.cells ⟨some ⟨bg,0,none⟩,cn,c9⟩)) h':=⟨_,rfl⟩;rw[<-hhE]at hp2 hnx hkeep xE0;refine zc ?_;have hhE':hE=lowered (putAt X2 i2 1 [.slice (some ⟨bg,0,none⟩) cn c9]) h':=hhE;rw[<-hhE',e2];refine ih (i+1) hE (some ⟨b2,0,none⟩) (k+1) sc (hs++[⟨some ⟨bg,0,none⟩,cn,c9⟩]) (by omega) (by omega) (by omega) (by omega) ?_;rw[gt_take C i0 (by omega),List.map_append,hgt,List.map_singleton];have lh:=hb.lh;have lg:=hb.lg;refine⟨xE0,hp2,fun ad had=>by cases had;show h0.next<=b2;omega,by simp[lh],by rw[List.length_append,lg];rfl,fun y' y0 y1=>?_⟩;have old:∀{α:Type} [Inhabited α] (l:List α) (v:α),l.length=k->y'<k->gt (l++[v]) y'=gt l y':=fun l v hl hy=>by
  unfold gt;rw[List.getD_eq_getElem?_getD,List.getD_eq_getElem?_getD,List.getElem?_append_left (by omega)]
 have new:∀{α:Type} [Inhabited α] (l:List α) (v:α),l.length=k->¬y'<k->gt (l++[v]) y'=v:=fun l v hl hy=>by
  unfold gt;rw[List.getD_eq_getElem?_getD,List.getElem?_append_right (by omega),show y'.toNat-l.length=0 by omega];rfl
 by_cases cy:y'<k
 ·rw[old hs _ lh cy,old _ _ lg cy]
  obtain⟨r1,r2⟩:=hb.row y' y0 cy;have rl:∀ad,(gt hs y').a=some ad->ad.block<h.next:=fun ad had=>by have:=r1.cells;rw[had]at this;exact this.2.1
  refine⟨⟨cells_of' r1.cells (fun ad had=>⟨by have:=rl ad had;omega,?_⟩),r1.each,r1.pos⟩,fun ad had=>⟨(r2 ad had).1,fun ad' had'=>?_⟩⟩
  ·rw[hkeep _ (by have:=rl ad had;omega) (by have:=rl ad had;omega) (fun ad' had' e=>(r2 ad had).2 ad' had' e.symm)]
   exact x2.get _ (rl ad had)
  ·cases had'
   have:=rl ad had;show ad.block≠b2;omega
 ·rw[new hs _ lh cy,new _ _ lg cy]
  have ogE:Own hE bg 1 ((circF t ⟨x,y⟩).flatMap iC):=by
   unfold Own;rw[hkeep bg (by omega) (by omega) (fun ad had e=>by have:=hb.hd.lt ad had;omega)];exact o2
  refine⟨?_,fun ad had=>⟨by cases had;show h0.next<bg;omega,fun ad' had'=>by cases had;cases had';show bg≠b2;omega⟩⟩;have:=Own.rows ogE iC_len (by omega) (by omega);rw[lc]at this;exact this
theorem rbasis_ok{h:AHeap}(hlow:h.low<=h.next){a:Option Addr}{n c:Nat}{l:List Vk}(hl:Vs h a n l)(hv:∀v∈l,okV v)(hn:n<=1000)(hd:(l.map Vk.pr).Nodup){Q:Value->AHeap->Prop}
  (hQ:∀t pk h' a' k c' hs',Parts (basP l) (stS l) (fun _=>false) [] 0 t pk->GrR iC 1 h' a' k hs' ((chds t (basP l)).map (circF t))->From h.next a'->Ext h h'->Q (.slice a' k c') h') :
  call 42 [.slice a n c] h Q:=by
 refine hA.bodyR Try.func42 r42_ok (hA.alike _ _ _ rfl) hlow (zc ?_);refine grown_ok hA hlow hl hv hn hd (fun t h1 a3 n3 c3 pk q1 q2 q3 q4 q5=>?_);refine⟨_,_,_,_,rfl,?_⟩;refine zc ?_;refine rchords_ok hA (q4.lowOK hlow) (hl.ext q4) hv hn hd (fun t2 h2 a5 n5 c5 pk2 y1 y2 y3 y4=>?_);obtain⟨rfl,_⟩:=q1.uniq y1;refine⟨_,_,_,rfl,?_⟩;refine zc ?_;have xx:=q4.trans y4;have hk:n5<=1000:=by
  have h5:=y2.len;have h6:=List.length_filter_le (fun p=>decide (p∉t)) (basP l);have:=basP_len l;unfold chds at h5;omega
 have hst:=okV.st hv;have hC:∀p∈chds t (basP l),okP p.n p.d:=fun p hp=>(basP_is hv).ok hst p (List.mem_filter.1 hp).1
 refine rba_loop hA (xx.lowOK hlow) (q2.ext y4) y2 q5 hk (tree_pairs hv q1) hC (parts_grows q1) (chds_ok hst (okV.lt hv) (basP_is hv) q1) (fun h3 a' c' hs' b=>?_) n5 0 h2 none 0 0 [] (by omega) (by omega) (by omega) rfl ⟨.refl _,Apd.nil _ _,From.none _,rfl,rfl,fun y y0 y1=>by omega⟩;refine zc ?_;exact hQ t pk h3 a' n5 c' hs' q1 ⟨⟨b.hd.cells,hd_len,by omega⟩,b.lg,fun y y0 y1=>(b.row y y0 y1).1⟩ (fun ad had=>by have:=b.fr ad had;have:=xx.next;omega) (xx.trans b.ext)
