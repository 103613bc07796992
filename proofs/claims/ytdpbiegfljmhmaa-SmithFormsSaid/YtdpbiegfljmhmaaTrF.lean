import Derived.Test.YtdpbiegfljmhmaaTrD
import Derived.Test.YtdpbiegfljmhmaaDetG
set_option linter.unusedSimpArgs false
set_option linter.unusedVariables false
namespace Go.Proofs.Ytdpbiegfljmhmaa
open Go.Sim
set_option maxRecDepth 100000
theorem Ext.Rou.near{m a k:Nat}{F:Nat->Ext.Vec}(hx:F a k≠0){y:Nat}(hy:a<y)(hm:y<m):(Ext.redF F a k m y k).natAbs<(F a k).natAbs:=by
 obtain⟨r,er,hr,_⟩:=Ext.tmod_is (F y k) (F a k) hx;unfold Ext.redF;rw[if_pos ⟨hy,hm⟩];show(F y k-(F y k).tdiv (F a k)*F a k).natAbs<_;rw[<-er];exact hr
variable{F:Prims}{call head arith cmp scmp bnot bsame conv neg imax imin ofNat slen place inR nz geZ rd wr push next mkOK nat zeros sadd eqAgg cut slc sslc strAt part app cpy putAt fresh lowered bump wrote addN lt ne fpAll fpApp brk yn rng mget mput mnew bytes clr:_}(hA:AP F ⟨call,head,arith,cmp,scmp,bnot,bsame,conv,neg,imax,imin,ofNat,slen,place,inR,nz,geZ,rd,wr,push,next,mkOK,nat,zeros,sadd,eqAgg,cut,slc,sslc,strAt,part,app,cpy,putAt,fresh,lowered,bump,wrote,addN,lt,ne,fpAll,fpApp,brk,yn,rng,mget,mput,mnew,bytes,clr⟩)
include hA
theorem tr_rounds{P:Ext.Pl}{n:Nat}{F0:Nat->Ext.Vec}{h0:AHeap}(hl0:h0.low<=h0.next){m w cp a k:Nat}{ra:Option Addr}(o:Ext.PlOK P w n m F0)(am:a<m)(kn:k<n)(hw:w<=1000)(hm:m<=1000){N K A:Int}(eA:A=a)(eK:K=k){Q:Exit->SS->Prop}
  (hQ:∀(h':AHeap) bs F,Grd h0 h' m w ra cp bs F->((Ext.Trg P w m F0 a k F/\∀z,a<=z->z<m->F z k=0)\/Ext.Dn P w m F0 a k F)->Q (.exit 2) ⟨[(0,.slice ra m cp),(1,.int .i64 N),(5,.int .i64 A),(6,.int .i64 K)],0,[],h'⟩) :
  ∀(d:Nat) (bs:Nat->Nat) (E:Nat->Ext.Vec) (more:Bool) (h:AHeap),Grd h0 h m w ra cp bs E->((more=true/\Ext.Trg P w m F0 a k E)\/(Ext.Rou P w m F0 a k E/\E a k≠0/\(more=true↔∃y,a<y/\y<m/\E y k≠0)))->(more=true->∀z,a<=z->z<m->E z k≠0->∃z',a<=z'/\z'<m/\E z' k≠0/\(E z' k).natAbs<=d)->
   head 59 6 0 ⟨[(0,.slice ra m cp),(1,.int .i64 N),(5,.int .i64 A),(6,.int .i64 K),(7,.bool more)],0,[],h⟩ Q:=by
 have nw:=o.nw;obtain⟨M,eM⟩:∃z:Int,z=m:=⟨_,rfl⟩;intro d
 induction d using Nat.strongRecOn with
 |_ d ih=>
 intro bs E more h t hJ hd;cases more with
 |false=>
  rcases hJ with ⟨q,_⟩|⟨r,hx,hz⟩
  ·cases q
  refine hA.roundR Try.func59 r59_ok (zc ?_);refine hQ h bs E t (.inr (r.done o hx (fun i i1 i2=>?_)));refine Classical.byContradiction fun c=>?_
  have:=hz.2 ⟨i,i1,i2,c⟩;cases this
 |true=>
 have r:Ext.Rou P w m F0 a k E:=by
  rcases hJ with ⟨_,q⟩|⟨q,_⟩
  ·exact q.rnd o am kn
  ·exact q
 refine hA.roundR Try.func59 r59_ok (zc ?_);refine tr_best hA hl0 am (show k<w by omega) hw hm eA eK (fun i i1 i2=>?_) eM (fun h1 B t1 bi=>?_) (m-a) a A (-1) h (by omega) (by omega) (Nat.le_refl _) eA t (.inl ⟨rfl,fun z z1 z2=>by omega⟩)
 ·have:=r.kb i k i1 i2 (show k<w by omega)
  have:=o.k18 am (show k<w by omega);omega
 refine zq ?_;rcases bi with ⟨rfl,bz⟩|⟨b,eB,b1,b2,b3,b4⟩
 ·refine br ((-1:Int)<0) (by rw[e_lss hA]) (fun _=>?_) (fun q=>by omega)<;>refine zc ?_
  refine zq ?_;refine hQ h1 bs E t1 (.inl ⟨?_,bz⟩);rcases hJ with ⟨_,q⟩|⟨_,q,_⟩
  ·exact q
  ·exact absurd (bz a (Nat.le_refl _) am) q
 refine br (B<0) (by rw[e_lss hA]) (fun q=>by omega) (fun _=>?_)<;>refine zc ?_;obtain⟨cw,ecw⟩:∃z,z=someCap 1 w:=⟨_,rfl⟩;obtain⟨h9,eh9⟩:∃z,z=bump h1 16:=⟨_,rfl⟩;have t9:=t1.more (show Ext h1 h9 by rw[eh9];exact ext_bump hA _ _);obtain⟨hb,h2,h3,rfl,w1,w2,t3⟩:=t9.swap am b2;obtain⟨b',e',_,q1⟩:=t9.head am;cases e';obtain⟨b',e',_,q2⟩:=t9.head b2;cases e';rw[<-ecw]at q1 q2 w1 w2;have r1:rd h9 hb (place 0 A 1) 1 [.slice (some ⟨bs a,0,none⟩) w cw]:=rd_ok hA (by rw[eA];exact q1);have r2:rd h9 hb (place 0 B 1) 1 [.slice (some ⟨bs b,0,none⟩) w cw]:=rd_ok hA (by rw[eB];exact q2);have p1:wr h9 hb (place 0 A 1) [.slice (some ⟨bs b,0,none⟩) w cw] h2:=wr_ok hA (by rw[eA];exact w1);have p2:wr h2 hb (place 0 B 1) [.slice (some ⟨bs a,0,none⟩) w cw] h3:=wr_ok hA (by rw[eB];exact w2);have rs:=r.swap b1 b2;have xs:(fun y=>E (swN a b y)) a k≠0:=by
  show E (swN a b a) k≠0;rw[show swN a b a=b by unfold swN;rw[if_pos rfl]];exact b3
 rw[<-eh9];refine zq ?_;rw[add64 hA (by omega) (by omega)];refine tr_rows hA hl0 o rs xs kn hw hm eA eK eM (fun h4 more t4 hmore=>?_) m (a+1) (A+1) false h3 (by omega) (by omega) (by omega) (by omega) (by rw[Ext.redF_start];exact t3) ⟨(fun q=>by cases q),(fun q=>by obtain⟨y,y1,y2,_⟩:=q;omega)⟩;refine zq ?_;have rr:=rs.round o kn xs;have e1:(fun y=>E (swN a b y)) a=E b:=by show E (swN a b a)=E b;rw[show swN a b a=b by unfold swN;rw[if_pos rfl]]
 have e2:Ext.redF (fun y=>E (swN a b y)) a k m a=E b:=by unfold Ext.redF;rw[if_neg (by omega)];exact e1
 have lt:(E b k).natAbs<=d:=by
  obtain⟨z',z1,z2,z3,z4⟩:=hd rfl b b1 b2 b3;exact Nat.le_trans (b4 z' z1 z2 z3) z4
 refine ih ((E b k).natAbs-1) (by omega) _ _ more h4 t4 (.inr ⟨rr,by rw[e2];exact b3,hmore⟩) (fun hm' z z1 z2 z3=>?_);obtain⟨y,y1,y2,y3⟩:=hmore.1 hm';refine⟨y,by omega,y2,y3,?_⟩;have:=Ext.Rou.near (a:=a) (k:=k) (m:=m) (F:=fun y=>E (swN a b y)) xs y1 y2;rw[show E (swN a b a)=E b from e1]at this;omega
theorem tr_cols{P:Ext.Pl}{n:Nat}{F0:Nat->Ext.Vec}{h0:AHeap}(hl0:h0.low<=h0.next){m w cp:Nat}{ra:Option Addr}(o:Ext.PlOK P w n m F0)(hw:w<=1000)(hm:m<=1000){N:Int}(eN:N=n){Q:Exit->SS->Prop}
  (hQ:∀(h':AHeap) bs E (a k:Nat) (A:Int),A=a->k<=n->(k=n\/a=m)->Grd h0 h' m w ra cp bs E->Ext.Trg P w m F0 a k E->Q (.exit 0) ⟨[(5,.int .i64 A)],0,[],h'⟩) :
  ∀(d k a:Nat) (K A:Int) (bs:Nat->Nat) (E:Nat->Ext.Vec) (h:AHeap),n-k<=d->k<=n->K=k->A=a->Grd h0 h m w ra cp bs E->Ext.Trg P w m F0 a k E->
   head 59 3 0 ⟨[(0,.slice ra m cp),(1,.int .i64 N),(5,.int .i64 A),(6,.int .i64 K)],0,[],h⟩ Q:=by
 have nw:=o.nw;obtain⟨M,eM⟩:∃z:Int,z=m:=⟨_,rfl⟩;have e0:ofNat m=M:=by rw[eM];exact e_ofNat hA m
 intro d
 induction d with
 |zero=>
  intro k a K A bs E h hd hk eK eA t tr;refine hA.roundR Try.func59 r59_ok (zc ?_);refine br (K<N) (by rw[e_lss hA]) (fun q=>by omega) (fun _=>?_)<;>refine zc ?_;refine zq ?_;exact hQ h bs E a k A eA hk (.inl (by omega)) t tr
 |succ d ih=>
 intro k a K A bs E h hd hk eK eA t tr;have am:=tr.am;by_cases ck:k<n
 rotate_left
 ·refine hA.roundR Try.func59 r59_ok (zc ?_)
  refine br (K<N) (by rw[e_lss hA]) (fun q=>by omega) (fun _=>?_)<;>refine zc ?_;refine zq ?_;exact hQ h bs E a k A eA hk (.inl (by omega)) t tr
 refine hA.roundR Try.func59 r59_ok (zc ?_);refine br (K<N) (by rw[e_lss hA]) (fun _=>?_) (fun q=>by omega)<;>refine zc ?_
 (refine zq ?_;repeat ((first|rw[e0]);refine zq ?_))
 refine br (A<M) (by rw[e_lss hA]) (fun ca=>?_) (fun ca=>?_)<;>refine zc ?_
 rotate_left
 ·refine zq ?_
  exact hQ h bs E a k A eA hk (.inr (by omega)) t tr
 refine zq ?_;have am':a<m:=by omega
 obtain⟨cw,ecw⟩:∃z,z=someCap 1 w:=⟨_,rfl⟩;refine tr_rounds hA hl0 o am' ck hw hm eA eK (fun h1 bs1 E1 t1 hz=>?_) (P.K a k) bs E true h t (.inl ⟨rfl,tr⟩) (fun _ z z1 z2 z3=>⟨z,z1,z2,z3,(tr.rnd o am' ck).kb z k z1 z2 (show k<w by omega)⟩);obtain⟨hb,rfl,_,q1⟩:=t1.head am';rw[<-ecw]at q1;have r1:rd h1 hb (place 0 A 1) 1 [.slice (some ⟨bs1 a,0,none⟩) w cw]:=rd_ok hA (by rw[eA];exact q1);obtain⟨x,ex⟩:∃z,z=E1 a k:=⟨_,rfl⟩;have r2:rd h1 (bs1 a) (place 0 K 1) 1 [.int .i64 x]:=rd_ok hA (by rw[eK,ex];exact t1.rows.el am' (show k<w by omega));refine zq ?_;refine br (x=0) (by rw[e_eql hA]) (fun cx=>?_) (fun cx=>?_)<;>refine zc ?_
 ·refine zq ?_
  rw[add64 hA (by omega) (by omega)];rcases hz with ⟨q1,q2⟩|q
  ·exact ih (k+1) a (K+1) A bs1 E1 h1 (by omega) (by omega) (by omega) eA t1 (q1.skip q2)
  ·exact absurd (ex.symm.trans cx) q.ne
 rcases hz with ⟨q1,q2⟩|dn
 ·exact absurd (ex.trans (q2 a (Nat.le_refl _) am')) cx
 refine zq ?_;refine br (x<0) (by rw[e_lss hA]) (fun c=>?_) (fun c=>?_)<;>refine zc ?_
 ·obtain⟨W,eW⟩:∃z:Int,z=w:=⟨_,rfl⟩
  refine zq ?_;refine tr_neg hA hl0 (E:=E1) (i:=a) am' hw hm eA (fun x hx=>?_) eW (fun h2 t2=>?_) w 0 0 h1 (by omega) (by omega) rfl (t1.congr (fun z c hz hc=>by unfold rowT;rw[if_neg (by omega)]))
  ·have:=dn.kb x hx
   have:=o.k18 am' hx;omega
  have t3:Grd h0 h2 m w (some ⟨hb,0,none⟩) cp bs1 (Ext.put E1 a (fun c=>-(E1 a c))):=t2.congr (fun z c hz hc=>rowT_all rfl z c (by omega) hc);have dn2:=dn.neg;have hp:0<Ext.put E1 a (fun c=>-(E1 a c)) a k:=by unfold Ext.put;rw[if_pos rfl];show 0 < -(E1 a k);omega
  refine zq ?_;refine tr_ups hA hl0 o dn2 hp (show k<w by omega) hw hm eA eK (fun h4 t4=>?_) a 0 0 h2 (by omega) (by omega) rfl (by rw[Ext.upF_start];exact t3);refine zq ?_;rw[add64 hA (by omega) (by omega),add64 hA (by omega) (by omega)];exact ih (k+1) (a+1) (K+1) (A+1) bs1 _ h4 (by omega) (by omega) (by omega) (by omega) t4 (dn2.tri o (show k<w by omega) hp)
 ·have hp:0<E1 a k:=by omega
  refine zq ?_;refine tr_ups hA hl0 o dn hp (show k<w by omega) hw hm eA eK (fun h4 t4=>?_) a 0 0 h1 (by omega) (by omega) rfl (by rw[Ext.upF_start];exact t1);refine zq ?_;rw[add64 hA (by omega) (by omega),add64 hA (by omega) (by omega)];exact ih (k+1) (a+1) (K+1) (A+1) bs1 _ h4 (by omega) (by omega) (by omega) (by omega) t4 (dn.tri o (show k<w by omega) hp)
theorem triangle_ok{P:Ext.Pl}{n:Nat}{F0:Nat->Ext.Vec}{h0 h:AHeap}(hl0:h0.low<=h0.next){m w cp:Nat}{ra:Option Addr}{bs:Nat->Nat}{E:Nat->Ext.Vec}(o:Ext.PlOK P w n m F0)(hw:w<=1000)(hm:m<=1000)(t:Grd h0 h m w ra cp bs E)(tr:Ext.Trg P w m F0 0 0 E){N:Int}(eN:N=n){Q:Value->AHeap->Prop}
  (hQ:∀(h':AHeap) bs E (a k:Nat) (A:Int),A=a->k<=n->(k=n\/a=m)->Grd h0 h' m w ra cp bs E->Ext.Trg P w m F0 a k E->Q (.int .i64 A) h'):call 59 [.slice ra m cp,.int .i64 N] h Q:=by
 have hlow:h.low<=h.next:=t.rows.ext.lowOK hl0;refine hA.bodyR Try.func59 r59_ok (hA.alike _ _ _ rfl) hlow (zc ?_);refine tr_cols hA hl0 o hw hm eN (fun h' bs E a k A eA hk hc t' tr'=>?_) n 0 0 0 0 bs E h (by omega) (by omega) rfl rfl t tr;refine zc ?_;exact hQ h' bs E a k A eA hk hc t' tr'
end Go.Proofs.Ytdpbiegfljmhmaa
namespace Go.Proofs.Ytdpbiegfljmhmaa
open Go.Sim
set_option maxRecDepth 100000
theorem Grd.add{h0 h1 h':AHeap}{v m qc b1 b':Nat}{qa:Option Addr}{rb:Nat->Nat}{F:Nat->Ext.Vec}{u:Ext.Vec}(q:Grd h0 h1 v m qa qc rb F)(k1:Own h1 b1 1 ((lst u m).flatMap nC))(o1:h0.next<=b1)(k2:b1<h1.next)(d1:∀y,y<v->rb y≠b1)(d2:∀ad,qa=some ad->ad.block≠b1)
  (a':Apd h' 1 (some ⟨b',0,none⟩) (v+1) (someCap 1 (v+1)) ((hdS rb m v++[(⟨some ⟨b1,0,none⟩,m,someCap 1 m⟩:Hd)]).flatMap Hd.cells)) (xe:Ext h0 h') (n':h1.next<h'.next) (nb':h1.next<b') (k':∀i,i<h1.next->(∀ad,qa=some ad->ad.block≠i)->h'.m.get i=h1.m.get i) :
  ∃rb2,Grd h0 h' (v+1) m (some ⟨b',0,none⟩) (someCap 1 (v+1)) rb2 (fun y=>if y=v then u else F y):=by
 obtain⟨rb2,erb⟩:∃z,z=fun y=>if y=v then b1 else rb y:=⟨_,rfl⟩
 have rbv:rb2 v=b1:=by rw[erb];simp only[if_true]
 have rbn:∀y,y<v->rb2 y=rb y:=fun y hy=>by rw[erb];simp only[if_neg (show ¬y=v by omega)]
 have ehd:hdS rb m v++[(⟨some ⟨b1,0,none⟩,m,someCap 1 m⟩:Hd)]=hdS rb2 m (v+1):=by
  rw[hdS_succ,rbv]
  congr 1
  exact lst_congr (fun y hy=>by rw[rbn y hy])
 rw[ehd]at a';have hlt:=q.rows.lt;have hn0:=q.rows.ext.next;refine⟨rb2,⟨xe,fun y hy=>?_,fun y hy=>?_,fun y hy=>?_,fun y z hy hz e=>?_⟩,a',fun ad had=>by cases had;show h0.next<=b';omega,fun ad had y hy=>?_⟩
 ·by_cases c:y=v
  ·simp only[if_pos c];rw[c,rbv];exact k1.of_get (k' b1 k2 d2)
  ·simp only[if_neg c];rw[rbn y (by omega)];exact(q.rows.row y (by omega)).of_get (k' _ (hlt y (by omega)) (fun ad had=>q.nra ad had y (by omega)))
 ·by_cases c:y=v
  ·rw[c,rbv];exact o1
  ·rw[rbn y (by omega)];exact q.rows.old y (by omega)
 ·by_cases c:y=v
  ·rw[c,rbv];omega
  ·rw[rbn y (by omega)];have:=hlt y (by omega);omega
 ·by_cases c:y=v<;>by_cases d:z=v
  ·rw[c,d]
  ·rw[c,rbv,rbn z (by omega)]at e;exact absurd e.symm (d1 z (by omega))
  ·rw[d,rbv,rbn y (by omega)]at e;exact absurd e (d1 y (by omega))
  ·rw[rbn y (by omega),rbn z (by omega)]at e;exact q.rows.inj y z (by omega) (by omega) e
 ·cases had
  by_cases c:y=v
  ·rw[c,rbv];show b'≠b1;omega
  ·rw[rbn y (by omega)];have:=hlt y (by omega);show b'≠_;omega
theorem join_front{g:List (List Int)}{n i:Nat}(hl:(gt g (i:Int)).length=n):lst (joinM g n i) n=gt g (i:Int):=by
 apply List.ext_getElem?;intro j;by_cases c:j<n
 ·rw[lst_at _ c,gt_some _ (by omega)];unfold joinM;rw[if_pos c]
 ·rw[List.getElem?_eq_none (by rw[lst_len];omega),List.getElem?_eq_none (by omega)]
variable{F:Prims}{call head arith cmp scmp bnot bsame conv neg imax imin ofNat slen place inR nz geZ rd wr push next mkOK nat zeros sadd eqAgg cut slc sslc strAt part app cpy putAt fresh lowered bump wrote addN lt ne fpAll fpApp brk yn rng mget mput mnew bytes clr:_}(hA:AP F ⟨call,head,arith,cmp,scmp,bnot,bsame,conv,neg,imax,imin,ofNat,slen,place,inR,nz,geZ,rd,wr,push,next,mkOK,nat,zeros,sadd,eqAgg,cut,slc,sslc,strAt,part,app,cpy,putAt,fresh,lowered,bump,wrote,addN,lt,ne,fpAll,fpApp,brk,yn,rng,mget,mput,mnew,bytes,clr⟩)
include hA
theorem copy2_ok{h:AHeap}{a:Option Addr}{n c:Nat}{l:List Int}(hl:Rows nC 1 h a n l)(hn:n<=1000){C:Option Addr->Nat->Nat->AHeap->Prop}
  (hC:∀h' b' c',Own2 h' 1 b' n c' (l.flatMap nC)->Ext h h'->h.next<=b'->C (some ⟨b',0,none⟩) n c' h'):app [27,27] [.slice (some ⟨next h,0,none⟩) 0 0,.slice a n c] (push h 1 []) C:=by
 rw[e_app hA,e_push hA,e_next hA];have hp:Own2 (h.push 1 []) 1 h.next 0 0 []:=⟨Own.push h 1 [],by simp[AHeap.push],rfl,.inl ⟨rfl,rfl⟩⟩;obtain⟨b',c',h',k1,k2,k3⟩:=append_any TI1 TI1.und (c2:=c) hp (hl.ext (.push h 1 [])).cells rfl (all_flat nC_ok l) (by omega);obtain⟨x1,x2⟩:=k3 h (.push h 1 []) (Nat.le_refl _);rw[Nat.zero_add]at k1 k2;exact⟨_,_,_,h',k1,hC h' b' c' (by simpa using k2) x1 x2⟩
theorem joi_in{h0:AHeap}{m n w i ac:Nat}{aa ra:Option Addr}{rc:Nat}{bs:Nat->Nat}{g:List (List Int)}(hw:w=n+m)(n4:n<=4)(m4:m<=4){I M:Int}(eI:I=i)(eM:M=m){cw:Nat}(ecw:cw=someCap 1 w){Q:Exit->SS->Prop}
  (hQ:∀h' rb,Grd h0 h' i w ra rc bs (joinM g n)->Own h' rb 1 ((lst (joinM g n i) w).flatMap nC)->h0.next<=rb->rb<h'.next->(∀y,y<i->bs y≠rb)->(∀ad,ra=some ad->ad.block≠rb)->Q (.exit 2) ⟨[(0,.slice aa m ac),(3,.slice ra i rc),(4,.int .i64 I),(5,.slice (some ⟨rb,0,none⟩) w cw)],0,[],h'⟩) :
  ∀(d j u cu:Nat) (J:Int) (h:AHeap) (rb:Nat),m-j<=d->j<=m->u=n+j->cu=someCap 1 u->J=j->Grd h0 h i w ra rc bs (joinM g n)->Own h rb 1 ((lst (joinM g n i) u).flatMap nC)->h0.next<=rb->rb<h.next->(∀y,y<i->bs y≠rb)->(∀ad,ra=some ad->ad.block≠rb)->
   head 58 7 0 ⟨[(0,.slice aa m ac),(3,.slice ra i rc),(4,.int .i64 I),(5,.slice (some ⟨rb,0,none⟩) u cu),(6,.int .i64 J)],0,[],h⟩ Q:=by
 intro d;have e0:ofNat m=M:=by rw[eM];exact e_ofNat hA m
 induction d with
 |zero=>
  intro j u cu J h rb hd hj eu ecu eJ t ow o1 o2 d1 d2;refine hA.roundR Try.func58 r58_ok (zc ?_)
  (refine zq ?_;repeat ((first|rw[e0]);refine zq ?_))
  refine br (J<M) (by rw[e_lss hA]) (fun q=>by omega) (fun _=>?_)<;>refine zc ?_;obtain rfl:u=w:=by omega
  obtain rfl:cu=cw:=by rw[ecu,ecw]
  exact hQ h rb t ow o1 o2 d1 d2
 |succ d ih=>
 intro j u cu J h rb hd hj eu ecu eJ t ow o1 o2 d1 d2;by_cases cj:j<m
 rotate_left
 ·refine hA.roundR Try.func58 r58_ok (zc ?_)
  (refine zq ?_;repeat ((first|rw[e0]);refine zq ?_))
  refine br (J<M) (by rw[e_lss hA]) (fun q=>by omega) (fun _=>?_)<;>refine zc ?_;obtain rfl:u=w:=by omega
  obtain rfl:cu=cw:=by rw[ecu,ecw]
  exact hQ h rb t ow o1 o2 d1 d2
 have ap:Apd h 1 (some ⟨rb,0,none⟩) u cu ((lst (joinM g n i) u).flatMap nC):=.inr ⟨rb,rfl,ecu,o2,by rw[flatE_len nC_len,lst_len],ow⟩;have nxt:∀(v:Int) b' h',v=joinM g n i u->Apd h' 1 (some ⟨b',0,none⟩) (u+1) (someCap 1 (u+1)) ((lst (joinM g n i) u++[v]).flatMap nC)->(∀h0,Ext h0 h->From h0.next (some ⟨rb,0,none⟩)->Ext h0 h')->h.next<h'.next->h.next<b'->(∀k,k<h.next->(∀ad:Addr,some (⟨rb,0,none⟩:Addr)=some ad->ad.block≠k)->h'.m.get k=h.m.get k)->∀u1 cc,u1=u+1->cc=someCap 1 (u+1)->head 58 7 0 ⟨[(0,.slice aa m ac),(3,.slice ra i rc),(4,.int .i64 I),(5,.slice (some ⟨b',0,none⟩) u1 cc),(6,.int .i64 (J+1))],0,[],h'⟩ Q:=fun v b' h' ev a' x' n' nb' k' u1 cc eu1 ecc=>by
  rw[ev,<-lst_succ]at a';have xe:Ext h0 h':=x' h0 t.rows.ext (fun ad had=>by cases had;exact o1);have hn0:=t.rows.ext.next;have fr:∀k,k<h.next->k≠rb->h'.m.get k=h.m.get k:=fun k hk ne=>k' k hk (fun ad had=>by cases had;exact fun q=>ne q.symm)
  refine ih (j+1) u1 cc (J+1) h' b' (by omega) (by omega) (by omega) (by rw[ecc,eu1]) (by omega) ⟨t.rows.keep xe (Nat.le_of_lt n') (fun y hy=>fr _ (t.rows.lt y hy) (d1 y hy)),t.apd.of_get (Nat.le_of_lt n') (fun ad had hl=>fr _ hl (d2 ad had)),t.fr,t.nra⟩ ?_ (by omega) ?_ (fun y hy=>by have:=t.rows.lt y hy;omega) (fun ad had=>by have:=t.apd.lt ad had;omega)
  ·rw[eu1]
   rcases a' with ⟨q,_⟩|⟨b2,e,_,q1,q2,q3⟩
   ·cases q
   ·cases e;exact q3
  ·exact a'.lt _ rfl
 refine hA.roundR Try.func58 r58_ok (zc ?_)
 (refine zq ?_;repeat ((first|rw[e0]);refine zq ?_))
 refine br (J<M) (by rw[e_lss hA]) (fun _=>?_) (fun q=>by omega)<;>refine zc ?_;refine zq ?_;refine br (J=I) (by rw[e_eql hA]) (fun c=>?_) (fun c=>?_)<;>refine zc ?_
 ·refine zq ?_
  refine appK_ok hA TI1 nC_len (by omega) nC_ok (v:=(1:Int)) ap (by omega) (fun b' h' a' x' n' nb' k'=>?_);have nx:=nxt 1 b' h' (by unfold joinM;rw[if_neg (by omega),if_pos (by omega)]) a' x' n' nb' k' _ _ rfl rfl;generalize someCap 1 (u+1)=cc at *;generalize u+1=u1 at *;refine zq ?_;rw[add64 hA (by omega) (by omega)];exact nx
 ·refine zq ?_
  refine appK_ok hA TI1 nC_len (by omega) nC_ok (v:=(0:Int)) ap (by omega) (fun b' h' a' x' n' nb' k'=>?_);have nx:=nxt 0 b' h' (by unfold joinM;rw[if_neg (by omega),if_neg (by omega)]) a' x' n' nb' k' _ _ rfl rfl;generalize someCap 1 (u+1)=cc at *;generalize u+1=u1 at *;refine zq ?_;rw[add64 hA (by omega) (by omega)];exact nx
theorem joi_out{h0:AHeap}(hl0:h0.low<=h0.next){m n w ac:Nat}{aa:Option Addr}{hds:List Hd}{g:List (List Int)}(hw:w=n+m)(hM:Mat g m n)(hg:GrR nC 1 h0 aa m hds g){M:Int}(eM:M=m){Q:Exit->SS->Prop}
  (hQ:∀h' ra rc bs,Grd h0 h' m w ra rc bs (joinM g n)->Q (.exit 0) ⟨[(3,.slice ra m rc)],0,[],h'⟩) :
  ∀(d i:Nat) (I:Int) (h:AHeap) (ra:Option Addr) (rc:Nat) (bs:Nat->Nat),m-i<=d->i<=m->I=i->Grd h0 h i w ra rc bs (joinM g n)->
   head 58 3 0 ⟨[(0,.slice aa m ac),(3,.slice ra i rc),(4,.int .i64 I)],0,[],h⟩ Q:=by
 intro d;have n4:=hM.n4;have m4:=hM.m4;have n1:=hM.n1;have e0:ofNat m=M:=by rw[eM];exact e_ofNat hA m
 induction d with
 |zero=>
  intro i I h ra rc bs hd hi eI t;refine hA.roundR Try.func58 r58_ok (zc ?_)
  (refine zq ?_;repeat ((first|rw[e0]);refine zq ?_))
  refine br (I<M) (by rw[e_lss hA]) (fun q=>by omega) (fun _=>?_)<;>refine zc ?_;obtain rfl:i=m:=by omega
  exact hQ h ra rc bs t
 |succ d ih=>
 intro i I h ra rc bs hd hi eI t;by_cases ci:i<m
 rotate_left
 ·refine hA.roundR Try.func58 r58_ok (zc ?_)
  (refine zq ?_;repeat ((first|rw[e0]);refine zq ?_))
  refine br (I<M) (by rw[e_lss hA]) (fun q=>by omega) (fun _=>?_)<;>refine zc ?_;obtain rfl:i=m:=by omega
  exact hQ h ra rc bs t
 have gh:=hg.ext t.rows.ext;obtain⟨b,o,rfl,hb,q1⟩:=gh.hdAt (i:=I) (by omega) (by omega);obtain⟨xa,exa⟩:∃z,z=(gt hds I).a:=⟨_,rfl⟩;obtain⟨xn,exn⟩:∃z,z=(gt hds I).n:=⟨_,rfl⟩;obtain⟨xc,exc⟩:∃z,z=(gt hds I).c:=⟨_,rfl⟩;have row:=gh.row I (by omega) (by omega);rw[<-exa,<-exn]at row;rw[<-exa,<-exn,<-exc]at q1;have xp:Ext h (push h 1 []):=by rw[e_push hA];exact Ext.push h 1 []
 obtain⟨b',o',e',_,q2⟩:=(gh.ext xp).hdAt (i:=I) (by omega) (by omega);cases e';rw[<-exa,<-exn,<-exc]at q2;have r1:rd (push h 1 []) b (place o I 1) 1 [.slice xa xn xc]:=rd_ok hA q2;have hln:(gt g I).length=n:=hM.row I (by omega) (by omega);obtain rfl:n=xn:=by have:=row.len;omega
 refine hA.roundR Try.func58 r58_ok (zc ?_)
 (refine zq ?_;repeat ((first|rw[e0]);refine zq ?_))
 refine br (I<M) (by rw[e_lss hA]) (fun _=>?_) (fun q=>by omega)<;>refine zc ?_;refine zq ?_;refine copy2_ok hA row (by omega) (fun h1 b1 c1 o1 x1 lb=>?_);obtain⟨k1,k2,k3,k4⟩:=o1;have ec1:c1=someCap 1 n:=by rcases k4 with ⟨_,q⟩|q;omega;exact q
 have k1':Own h1 b1 1 ((lst (joinM g n i) n).flatMap nC):=by rw[join_front (by rw[<-eI];exact hln),<-eI];exact k1
 have t1:=t.more x1;have n1':=x1.next;have hn0:=t.rows.ext.next;obtain⟨cw,ecw⟩:∃z,z=someCap 1 w:=⟨_,rfl⟩;refine zq ?_;refine joi_in hA hw n4 m4 eI eM ecw (fun h2 rb t2 ow p1 p2 d1 d2=>?_) m 0 n c1 0 h1 b1 (by omega) (by omega) (by omega) ec1 rfl t1 k1' (by omega) k2 (fun y hy=>by have:=t.rows.lt y hy;omega) (fun ad had=>by have:=t.apd.lt ad had;omega);refine zq ?_;refine appK_ok hA TLL hd_len (by omega) hd_ok (v:=(⟨some ⟨rb,0,none⟩,w,cw⟩:Hd)) t2.apd (by omega) (fun b' h' a' x' n' nb' k'=>?_);rw[ecw]at a';obtain⟨rb2,t3⟩:=t2.add ow p1 p2 d1 d2 a' (x' h0 t2.rows.ext t2.fr) n' nb' k';have t4:Grd h0 h' (i+1) w (some ⟨b',0,none⟩) (someCap 1 (i+1)) rb2 (joinM g n):=t3.congr (fun y x hy hx=>by
  by_cases c:y=i
  ·simp only[if_pos c];rw[c]
  ·simp only[if_neg c])
 have nx:=ih (i+1) (I+1) h' (some ⟨b',0,none⟩) (someCap 1 (i+1)) rb2 (by omega) (by omega) (by omega) t4;generalize someCap 1 (i+1)=cc at *;generalize i+1=i1 at *;refine zq ?_;rw[add64 hA (by omega) (by omega)];exact nx
theorem joined_ok{h:AHeap}(hlow:h.low<=h.next){m n ac:Nat}{aa:Option Addr}{hds:List Hd}{g:List (List Int)}(hM:Mat g m n)(hg:GrR nC 1 h aa m hds g){Q:Value->AHeap->Prop}
  (hQ:∀h' ra rc bs,Grd h h' m (n+m) ra rc bs (joinM g n)->Q (.slice ra m rc) h'):call 58 [.slice aa m ac] h Q:=by
 obtain⟨M,eM⟩:∃z:Int,z=m:=⟨_,rfl⟩;refine hA.bodyR Try.func58 r58_ok (hA.alike _ _ _ rfl) hlow (zc ?_);refine joi_out hA hlow rfl hM hg eM (fun h' ra rc bs t=>?_) m 0 0 h none 0 (fun _=>0) (by omega) (by omega) rfl ⟨⟨.refl h,fun y hy=>by omega,fun y hy=>by omega,fun y hy=>by omega,fun y z hy=>by omega⟩,.nil _ _,.none _,fun ad had=>by cases had⟩;refine zq ?_;exact hQ h' ra rc bs t
