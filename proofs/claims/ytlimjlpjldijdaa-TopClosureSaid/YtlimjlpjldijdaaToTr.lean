import Derived.Test.YtlimjlpjldijdaaToEv
set_option linter.unusedSimpArgs false
set_option linter.unusedVariables false
namespace Go.Proofs.Ytlimjlpjldijdaa
open Go.Sim
set_option maxRecDepth 100000
def onesT:List Ck:=List.replicate 8 oneC
def skyT:List Ck:=[oneC,⟨0,1,1⟩,oneC,oneC,oneC,oneC,oneC,oneC]
theorem isC_one:isC 1 0 1 ⟨1,0⟩:=⟨by decide,by decide,by decide,by decide,by decide,by decide,by decide,(Rat.one_mul _).symm,(Rat.zero_mul _).symm⟩
theorem isC_i:isC 0 1 1 ⟨0,1⟩:=⟨by decide,by decide,by decide,by decide,by decide,by decide,by decide,(Rat.zero_mul _).symm,(Rat.one_mul _).symm⟩
theorem isC_ni:isC 0 (-1) 1 ⟨0,-1⟩:=⟨by decide,by decide,by decide,by decide,by decide,by decide,by decide,(Rat.zero_mul _).symm,by show((-1:Int):Rat)=-1*((1:Int):Rat);rw[show((1:Int):Rat)=1 from rfl,Rat.mul_one];rfl⟩
theorem mulO.of{x y r v:Ck}{e:Int}{z w:Cq}(h:mulO x y v e)(hx:isC x.a x.b x.d z)(hy:isC y.a y.b y.d w)(hr:isC r.a r.b r.d (z.mul w)):e=0/\v=r:=by
 obtain⟨h1,h2,h3,h4⟩:=(OpC.is (show OpC Cq.mul x.a x.b x.d y.a y.b y.d v.a v.b v.d e from h) hx hy).uniq (.inl ⟨hr,rfl⟩);refine⟨h4,?_⟩;cases v;cases r;simp only at h1 h2 h3;rw[h1,h2,h3]
theorem one_mulO{y v:Ck}{e:Int}(h:mulO oneC y v e)(hy:y.ok):e=0/\v=y:=by
 obtain⟨w,hw⟩:=hy;refine h.of isC_one hw ?_;rw[show Cq.mul ⟨1,0⟩ w=w from Cq.ext (by show 1*w.re-0*w.im=w.re;grind) (by show 1*w.im+0*w.re=w.im;grind)];exact hw
def Only(l:List Sk)(P:Prop):Prop:=∀s,l=[s]->s.sky->P
variable{F:Prims}{call head arith cmp scmp bnot bsame conv neg imax imin ofNat slen place inR nz geZ rd wr push next mkOK nat zeros sadd eqAgg cut slc sslc strAt part app cpy putAt fresh lowered bump wrote addN lt ne fpAll fpApp brk yn rng mget mput mnew bytes clr mrng ment:_}(hA:AP F ⟨call,head,arith,cmp,scmp,bnot,bsame,conv,neg,imax,imin,ofNat,slen,place,inR,nz,geZ,rd,wr,push,next,mkOK,nat,zeros,sadd,eqAgg,cut,slc,sslc,strAt,part,app,cpy,putAt,fresh,lowered,bump,wrote,addN,lt,ne,fpAll,fpApp,brk,yn,rng,mget,mput,mnew,bytes,clr,mrng,ment⟩)
include hA
theorem tb_loop1{h0:AHeap}(hlow0:h0.low<=h0.next){a:Option Addr}{n c:Nat}{l:List Sk}(hl:Ss h0 a n l)(hn:n<=1000){N:Int}(hN:N=n){Q:Exit->SS->Prop}
  (hno:∀h',Only l False->Ext h0 h'->∀e' kn K,Q .ret ⟨(5,.int .i64 8) :: (4,.slice none 0 0) :: e',kn,K,h'⟩)
  (hok:∀h',(∀s∈l,0<=s.st/\s.st<8)->Ext h0 h'->Q (.exit 0) ⟨[(0,.slice a n c),(1,.int .i64 0)],0,[],h'⟩) :
  ∀(m:Nat) (i:Int) (h:AHeap),(n-i).toNat<=m->0<=i->i<=n->(∀s∈l.take i.toNat,0<=s.st/\s.st<8)->Ext h0 h->
   head 49 6 0 ⟨[(0,.slice a n c),(1,.int .i64 0),(23,.slice a n c),(24,.int .i64 N),(25,.int .i64 i)],0,[],h⟩ Q:=by
 have hlen:=hl.len;refine upTo (fun m ih=>?_);intro i h hm i0 i1 hp he;by_cases ci:i<n
 rotate_left
 ·refine hA.roundR Try.func49 r49_ok (zc ?_)
  refine br (i<N) (by rw[e_lss hA]) (fun c1=>by omega) (fun c1=>?_)<;>refine zc ?_;rw[List.take_of_length_le (by omega)]at hp;exact hok h hp he
 obtain⟨m,rfl⟩:∃k,m=k+1:=⟨m-1,by omega⟩
 replace ih:=ih m rfl
 obtain⟨bb,o,k,st,f,u,x,y,z,q,rfl,hbb,hgt,r1⟩:=ss_at (hl.ext he) (i:=i) i0 ci;have q1:=rd_ok hA r1;have e2:arith .add .i64 i 1=i+1:=add64 hA (by omega) (by omega);have htk:=gt_take l i0 (by omega);rw[hgt]at htk;refine hA.roundR Try.func49 r49_ok (zc ?_);refine br (i<N) (by rw[e_lss hA]) (fun c1=>?_) (fun c1=>by omega)<;>refine zc ?_;refine zq ?_;refine⟨_,_,_,_,_,_,_,_,q1,?_⟩;refine zq ?_;refine svalid_ok hA (he.lowOK hlow0) ⟨k,st,f,u,x,y,z,q⟩ (fun r h1 hr hs x1=>⟨_,rfl,?_⟩);refine zc ?_;refine br (r=false) (by rw[e_bnot hA];cases r<;>rfl) (fun c2=>?_) (fun c2=>?_)<;>refine zc ?_
 ·refine hno h1 (fun s es sk=>?_) (he.trans x1) _ _ _
  obtain rfl:i=0:=by rw[es]at hlen;simp at hlen;omega
  rw[es]at hgt;have:s=⟨k,st,f,u,x,y,z,q⟩:=hgt;rw[this]at sk;rw[hs sk]at c2;cases c2
 rw[e2];refine ih (i+1) h1 (by omega) (by omega) (by omega) ?_ (he.trans x1);rw[htk];intro s hs';rcases List.mem_append.1 hs' with w|w
 ·exact hp s w
 ·rw[List.mem_singleton.1 w];exact hr (by cases r with|true=>rfl|false=>exact absurd rfl c2)
theorem tb_loop2{h0:AHeap}(hlow0:h0.low<=h0.next){a:Option Addr}{n c:Nat}{b:Nat}(hb0:h0.next<=b){N:Int}(hN:N=8){Q:Exit->SS->Prop}
  (hok:∀h',Own h' b 3 (onesT.flatMap Ck.cells)->b<h'.next->Ext h0 h'->Q (.exit 2) ⟨[(0,.slice a n c),(1,.int .i64 0),(8,.slice (some ⟨b,0,none⟩) 8 8)],0,[],h'⟩) :
  ∀(m:Nat) (i:Int) (h:AHeap) (G:List Ck),(8-i).toNat<=m->0<=i->i<=8->Own h b 3 (G.flatMap Ck.cells)->G.length=8->(∀k:Int,0<=k->k<i->gt G k=oneC)->b<h.next->Ext h0 h->
   head 49 13 0 ⟨[(0,.slice a n c),(1,.int .i64 0),(8,.slice (some ⟨b,0,none⟩) 8 8),(35,.int .i64 N),(36,.int .i64 i)],0,[],h⟩ Q:=by
 have fin:∀G:List Ck,G.length=8->(∀k:Int,0<=k->k<8->gt G k=oneC)->G=onesT:=fun G hG hk=>by
  apply gt_extR (by rw[hG];rfl);intro j j0 j1;rw[hk j j0 (by omega)];unfold gt onesT;rw[List.getD_eq_getElem?_getD,List.getElem?_replicate,if_pos (by omega)];rfl
 refine upTo (fun m ih=>?_);intro i h G hm i0 i1 ho hG hk hb he;by_cases ci:i<8
 rotate_left
 ·refine hA.roundR Try.func49 r49_ok (zc ?_)
  refine br (i<N) (by rw[e_lss hA]) (fun c1=>by omega) (fun c1=>?_)<;>refine zc ?_;rw[fin G hG (fun k k0 k1=>hk k k0 (by omega))]at ho;exact hok h ho hb he
 obtain⟨m,rfl⟩:∃k,m=k+1:=⟨m-1,by omega⟩
 replace ih:=ih m rfl
 have e2:arith .add .i64 i 1=i+1:=add64 hA (by omega) (by omega);obtain⟨h3,w3,o3,k3⟩:=Own.setRow ho ck_len (i:=i.toNat) (by omega) oneC;have ww:wr h b (place 0 i 3) [.int .i64 1,.int .i64 0,.int .i64 1] h3:=wr_ok hA (by rw[Nat.zero_add];exact w3);have n3:=k3.next;refine hA.roundR Try.func49 r49_ok (zc ?_);refine br (i<N) (by rw[e_lss hA]) (fun c1=>?_) (fun c1=>by omega)<;>refine zc ?_;refine zq ?_;rw[e2];refine ih (i+1) h3 (G.set i.toNat oneC) (by omega) (by omega) (by omega) o3 (by rw[List.length_set];exact hG) (fun k k0 k1=>?_) (by omega) (k3.ext he hb0);rw[gt_set G i0 k0 (by omega)];by_cases ck:k=i
 ·rw[if_pos ck]
 ·rw[if_neg ck];exact hk k k0 (by omega)
theorem tb_loop3{h0:AHeap}(hlow0:h0.low<=h0.next){a:Option Addr}{n c:Nat}{l:List Sk}(hl:Ss h0 a n l)(hn:n<=1000)(hst:∀s∈l,0<=s.st/\s.st<8){b:Nat}(hb0:h0.next<=b){N:Int}(hN:N=n){Q:Exit->SS->Prop}
  (hno:∀h' e,e≠0->Only l False->Ext h0 h'->∀e' kn K,Q .ret ⟨(5,.int .i64 e) :: (4,.slice none 0 0) :: e',kn,K,h'⟩)
  (hok:∀h' G,Own h' b 3 (G.flatMap Ck.cells)->G.length=8->Only l (G=skyT)->b<h'.next->Ext h0 h'->Q (.exit 4) ⟨[(8,.slice (some ⟨b,0,none⟩) 8 8)],0,[],h'⟩) :
  ∀(m:Nat) (i:Int) (h:AHeap) (G:List Ck),(n-i).toNat<=m->0<=i->i<=n->Own h b 3 (G.flatMap Ck.cells)->G.length=8->Only l (G=if i=0 then onesT else skyT)->b<h.next->Ext h0 h->
   head 49 18 0 ⟨[(1,.int .i64 0),(8,.slice (some ⟨b,0,none⟩) 8 8),(44,.slice a n c),(45,.int .i64 N),(46,.int .i64 i)],0,[],h⟩ Q:=by
 have hlen:=hl.len;have fin:∀{G:List Ck} {i:Int},i=n->Only l (G=if i=0 then onesT else skyT)->Only l (G=skyT):=fun {G i} hi g s es sk=>by
  have:=g s es sk;rw[es]at hlen;simp at hlen;rw[if_neg (by omega)]at this;exact this
 refine upTo (fun m ih=>?_);intro i h G hm i0 i1 ho hG hg hb he;by_cases ci:i<n
 rotate_left
 ·refine hA.roundR Try.func49 r49_ok (zc ?_)
  refine br (i<N) (by rw[e_lss hA]) (fun c1=>by omega) (fun c1=>?_)<;>refine zc ?_;exact hok h G ho hG (fin (by omega) hg) hb he
 obtain⟨m,rfl⟩:∃k,m=k+1:=⟨m-1,by omega⟩
 replace ih:=ih m rfl
 obtain⟨bb,o,k,st,f,u,x,y,z,q,rfl,hbb,hgt,r1⟩:=ss_at (hl.ext he) (i:=i) i0 ci;have q1:=rd_ok hA r1;have e2:arith .add .i64 i 1=i+1:=add64 hA (by omega) (by omega);have hsl:=hst _ (gt_mem l i0 (by omega));rw[hgt]at hsl;simp only at hsl;have one:∀s,l=[s]->i=0/\s=⟨k,st,f,u,x,y,z,q⟩:=fun s es=>by
  obtain rfl:i=0:=by rw[es]at hlen;simp at hlen;omega
  rw[es]at hgt;exact⟨rfl,hgt⟩
 refine hA.roundR Try.func49 r49_ok (zc ?_);refine br (i<N) (by rw[e_lss hA]) (fun c1=>?_) (fun c1=>by omega)<;>refine zc ?_;refine zq ?_;refine⟨_,_,_,_,_,_,_,_,q1,?_⟩;refine zq ?_;refine number_ok hA (he.lowOK hlow0) ⟨k,st,f,u,x,y,z,q⟩ (fun v e h1 hv x1=>⟨_,_,_,_,rfl,?_⟩);refine zc ?_;refine br (e≠0) (by rw[e_neq hA]) (fun c2=>?_) (fun c2=>?_)<;>refine zc ?_
 ·refine hno h1 e c2 (fun s es sk=>?_) (he.trans x1) _ _ _
  obtain⟨_,rfl⟩:=one s es;exact c2 (hv sk rfl).1
 have y1:=he.trans x1;obtain rfl:e=0:=by omega
 obtain⟨h9,hh9⟩:∃z,z=bump h1 16:=⟨_,rfl⟩;have e9:Ext h1 h9:=by rw[hh9];exact ext_bump hA _ _
 have o9:=ho.ext (x1.trans e9) hb;have n19:=(x1.trans e9).next;have r9:Cs h9 (some ⟨b,0,none⟩) 8 G:=by have:=Own.rows o9 ck_len (by omega) (by omega);rw[hG]at this;exact this
 obtain⟨_,_,a1,a2,a3,ez,_,hgg,r2⟩:=cs_at r9 (i:=st) hsl.1 hsl.2;cases ez;have d9:rd h9 b (place 0 st 3) 3 [.int .i64 a1,.int .i64 a2,.int .i64 a3]:=rd_ok hA r2;rw[<-hh9];refine zq ?_;refine cmul_ok hA (low_fresh hA h9) (fun r s t e hz ke xz=>⟨_,_,_,_,rfl,?_⟩);have ke:mulO (gt G st) v ⟨r,s,t⟩ e:=by rw[hgg];exact ke
 obtain⟨hX,hhX⟩:∃z,z=lowered h9 hz:=⟨_,rfl⟩;have eX:Ext h1 hX:=by rw[hhX];exact ext_low hA (y1.lowOK hlow0) e9 xz
 have nX:=(x1.trans eX).next;obtain⟨h3,w3,o3,k3⟩:=Own.setRow (ho.ext (x1.trans eX) hb) ck_len (i:=st.toNat) (by omega) (⟨r,s,t⟩:Ck);have ww:wr hX b (place 0 st 3) [.int .i64 r,.int .i64 s,.int .i64 t] h3:=wr_ok hA (by rw[Nat.zero_add];exact w3);have n3:=k3.next;have y3:Ext h0 h3:=k3.ext (y1.trans eX) hb0;refine zc ?_;rw[<-hhX];refine zq ?_;refine br (e≠0) (by rw[e_neq hA]) (fun c3=>?_) (fun c3=>?_)<;>refine zc ?_
 ·refine hno h3 e c3 (fun s' es sk=>?_) y3 _ _ _
  obtain⟨rfl,rfl⟩:=one s' es;have g0:=hg _ es sk;rw[if_pos rfl]at g0;have v0:=(hv sk rfl).2;obtain rfl:st=1:=sk.2.1;rw[g0,v0]at ke;exact c3 (one_mulO ke ⟨_,isC_i⟩).1
 rw[e2];refine ih (i+1) h3 (G.set st.toNat ⟨r,s,t⟩) (by omega) (by omega) (by omega) o3 (by rw[List.length_set];exact hG) (fun s' es sk=>?_) (by omega) y3;obtain⟨rfl,rfl⟩:=one s' es;have g0:=hg _ es sk;rw[if_pos rfl]at g0;have v0:=(hv sk rfl).2;obtain rfl:st=1:=sk.2.1;rw[g0,v0]at ke;rw[g0,(one_mulO ke ⟨_,isC_i⟩).2,if_neg (by omega)];rfl
end Go.Proofs.Ytlimjlpjldijdaa
namespace Go.Proofs.Ytlimjlpjldijdaa
open Go.Sim
set_option maxRecDepth 100000
theorem TCC:SliceT Try.prog 94 23 1:=⟨by kernel_rfl,by kernel_rfl,⟨24,by kernel_rfl,by omega⟩,⟨.slice none 0 0,by kernel_rfl,rfl⟩⟩
theorem TVV:SliceT Try.prog 37 22 1:=⟨by kernel_rfl,by kernel_rfl,⟨24,by kernel_rfl,by omega⟩,⟨.slice none 0 0,by kernel_rfl,rfl⟩⟩
variable{F:Prims}{call head arith cmp scmp bnot bsame conv neg imax imin ofNat slen place inR nz geZ rd wr push next mkOK nat zeros sadd eqAgg cut slc sslc strAt part app cpy putAt fresh lowered bump wrote addN lt ne fpAll fpApp brk yn rng mget mput mnew bytes clr mrng ment:_}(hA:AP F ⟨call,head,arith,cmp,scmp,bnot,bsame,conv,neg,imax,imin,ofNat,slen,place,inR,nz,geZ,rd,wr,push,next,mkOK,nat,zeros,sadd,eqAgg,cut,slc,sslc,strAt,part,app,cpy,putAt,fresh,lowered,bump,wrote,addN,lt,ne,fpAll,fpApp,brk,yn,rng,mget,mput,mnew,bytes,clr,mrng,ment⟩)
include hA
theorem table_ok{h:AHeap}(hlow:h.low<=h.next){a:Option Addr}{n c:Nat}{l:List Sk}(hl:Ss h a n l){Q:Value->AHeap->Prop}
  (hno:∀e h',e≠0->Only l False->Ext h h'->Q (.tuple #[.slice none 0 0,.int .i64 e]) h')
  (hok:∀h' b G,Cs h' (some ⟨b,0,none⟩) 8 G->Only l (G=skyT)->Ext h h'->Q (.tuple #[.slice (some ⟨b,0,none⟩) 8 8,.int .i64 0]) h') :
  call 49 [.slice a n c,.int .i64 0] h Q:=by
 have hlen:=hl.len;refine hA.bodyR Try.func49 r49_ok (hA.alike _ _ _ rfl) hlow (zc ?_);refine br False (by rw[e_lss hA];rfl) (fun q=>q.elim) (fun _=>?_)<;>refine zc ?_;refine br False (by rw[e_geq hA];rfl) (fun q=>q.elim) (fun _=>?_)<;>refine zc ?_;refine br ((8:Int)<n) (by rw[e_gtr hA,e_ofNat hA]) (fun c1=>?_) (fun c1=>?_)<;>refine zc ?_
 ·exact hno 4 h (by omega) (fun s es _=>by rw[es]at hlen;simp at hlen;omega) (.refl h)
 refine tb_loop1 hA hlow hl (by omega) (e_ofNat hA n) (fun h1 ho x1 e' kn K=>?_) (fun h1 hst x1=>?_) n 0 h (by omega) (by omega) (by omega) (fun s hs=>by simp at hs) (.refl h)
 ·refine zc ?_
  exact hno 8 h1 (by omega) ho x1
 refine⟨mk_ok hA (by omega) (by omega) (by omega),?_⟩;refine zc ?_;simp only[e_zeros hA,e_next hA,e_push hA,e_nat hA];rw[zcks];have ex:=Ext.push h1 3 ((List.replicate (8:Int).toNat zeC).flatMap Ck.cells);have ox:=Own.push h1 3 ((List.replicate (8:Int).toNat zeC).flatMap Ck.cells);have nx:(h1.push 3 ((List.replicate (8:Int).toNat zeC).flatMap Ck.cells)).next=h1.next+1:=rfl;generalize h1.push 3 ((List.replicate (8:Int).toNat zeC).flatMap Ck.cells)=h2 at *;refine zc ?_;refine tb_loop2 hA (x1.lowOK hlow) (b:=h1.next) (Nat.le_refl _) (e_ofNat hA 8) (fun h3 o3 b3 x3=>?_) 8 0 h2 _ (by omega) (by omega) (by omega) ox (by simp) (fun k k0 k1=>by omega) (by omega) ex;refine tb_loop3 hA (h0:=h1) (x1.lowOK hlow) (hl.ext x1) (by omega) hst (b:=h1.next) (Nat.le_refl _) (e_ofNat hA n) (fun h4 e he ho x4 e' kn K=>?_) (fun h4 G o4 g4 s4 b4 x4=>?_) n 0 h3 onesT (by omega) (by omega) (by omega) o3 rfl (fun s es sk=>by rw[if_pos rfl]) b3 x3
 ·refine zc ?_
  exact hno e h4 he ho (x1.trans x4)
 ·refine zc ?_
  have r4:=Own.rows o4 ck_len (by omega) b4;rw[g4]at r4;exact hok h4 _ G r4 s4 (x1.trans x4)
theorem spoil_ok{h:AHeap}(hlow:h.low<=h.next){a:Option Addr}{n c:Nat}{l:List Vk}(hl:Vs h a n l)(ke:CkR l 0){sb:Nat}(hs:Rows Hd.cells 1 h (some ⟨sb,0,none⟩) 1 [⟨a,n,c⟩]){ea:Option Addr}{en ec:Nat}{es:List Sk}(hE:Ss h ea en es){Q:Value->AHeap->Prop}
  (hno:∀h' e,e≠0->Only es (∃f,f≠0/\ActX skyT l [] f)->Ext h h'->Q (.tuple #[.slice none 0 0,.int .i64 e]) h')
  (hok:∀h' ra rc ma G m,ActX G l m 0->Only es (G=skyT)->Rows Hd.cells 1 h' ra 1 [⟨ma,n,n⟩]->Vs h' ma n m->Ext h h'->Q (.tuple #[.slice ra 1 rc,.int .i64 0]) h') :
  call 9 [.slice (some ⟨sb,0,none⟩) 1 1,.slice ea en ec] h Q:=by
 have e1:arith .add .i64 0 1=1:=add64 hA (by omega) (by omega);have d1:∀{h'},Ext h h'->rd h' sb (place 0 0 1) 1 [.slice a n c]:=fun {h'} x=>by
  obtain⟨_,_,e,_,w⟩:=(hs.ext x).at (i:=0) (by omega) (by omega);cases e;exact rd_ok hA (w 0 1 (by omega) (by omega))
 refine hA.bodyR Try.func9 r9_ok (hA.alike _ _ _ rfl) hlow (zc ?_);refine hA.bodyR Try.func29 r29_ok (hA.alike _ _ _ rfl) hlow (zc ?_);refine cocheck_ok hA hlow hl ke hs (fun h1 x1=>⟨_,rfl,?_⟩);refine zc ?_;refine br False (by rw[e_neq hA];rfl) (fun q=>q.elim) (fun _=>?_)<;>refine zc ?_;refine br False (by rw[e_eql hA,e_ofNat hA];rfl) (fun q=>q.elim) (fun _=>?_)<;>refine zc ?_;refine hA.roundR Try.func29 r29_ok (zc ?_);refine br True (by rw[e_lss hA,e_ofNat hA];rfl) (fun _=>?_) (fun q=>absurd trivial q)<;>refine zc ?_;refine table_ok hA (x1.lowOK hlow) (hE.ext x1) (fun e h2 he ho x2=>⟨_,_,_,_,rfl,?_⟩) (fun h2 gb G hG ho x2=>⟨_,_,_,_,rfl,?_⟩)
 ·refine zc ?_
  refine br (e≠0) (by rw[e_neq hA]) (fun _=>?_) (fun q=>absurd he q)<;>refine zc ?_;refine⟨_,_,_,_,rfl,?_⟩;refine zc ?_;exact hno h2 e he (fun s es sk=>(ho s es sk).elim) (x1.trans x2)
 have y2:=x1.trans x2;refine zc ?_;refine br False (by rw[e_neq hA];rfl) (fun q=>q.elim) (fun _=>?_)<;>refine zc ?_;refine appR_ok hA TCC hd_len (by omega) hd_ok (l:=[]) (v:=⟨some ⟨gb,0,none⟩,8,8⟩) (Apd.nil _ _) (by omega) (fun a3 c3 h3 p3 k3=>?_);obtain⟨x3,f3⟩:=k3 h2 (.refl h2) (From.none _);have y3:=y2.trans x3;refine zc ?_;rw[e1];refine hA.roundR Try.func29 r29_ok (zc ?_);refine br False (by rw[e_lss hA,e_ofNat hA];rfl) (fun q=>q.elim) (fun _=>?_)<;>refine zc ?_;refine hA.roundR Try.func29 r29_ok (zc ?_);refine br True (by rw[e_lss hA,e_ofNat hA];rfl) (fun _=>?_) (fun q=>absurd trivial q)<;>refine zc ?_;have w3:=d1 y3;have r3:Rows Hd.cells 1 h3 a3 1 [⟨some ⟨gb,0,none⟩,8,8⟩]:=⟨p3.cells,hd_len,by omega⟩;obtain⟨tb,to,rfl,_,wt⟩:=r3.at (i:=0) (by omega) (by omega);have v3:rd h3 tb (place to 0 1) 1 [.slice (some ⟨gb,0,none⟩) 8 8]:=rd_ok hA (wt 0 1 (by omega) (by omega));refine zq ?_;have hlow0:=hlow;have hlow:=y3.lowOK hlow0;refine hA.bodyR Try.func30 r30_ok (hA.alike _ _ _ rfl) hlow (zc ?_);refine⟨_,_,_,_,rfl,?_⟩;refine zc ?_;refine br False (by rw[e_neq hA];rfl) (fun q=>q.elim) (fun _=>?_)<;>refine zc ?_;refine gact_ok hA hlow (hG.ext x3) (hl.ext y3) (fun h4 e he k4 x4=>⟨_,_,_,_,rfl,?_⟩) (fun h4 mb m k4 hm b4 x4=>⟨_,_,_,_,rfl,?_⟩)
 ·refine zc ?_
  refine br (e≠0) (by rw[e_neq hA]) (fun _=>?_) (fun q=>absurd he q)<;>refine zc ?_;refine⟨_,_,_,_,rfl,?_⟩;refine zc ?_;exact hno h4 e he (fun s es' sk=>⟨e,he,by rw[<-ho s es' sk];exact k4⟩) (y3.trans x4)
 have y4:=y3.trans x4;refine zc ?_;refine br False (by rw[e_neq hA];rfl) (fun q=>q.elim) (fun _=>?_)<;>refine zc ?_;refine appR_ok hA TVV hd_len (by omega) hd_ok (l:=[]) (v:=⟨some ⟨mb,0,none⟩,n,n⟩) (Apd.nil _ _) (by omega) (fun a5 c5 h5 p5 k5=>?_);obtain⟨x5,f5⟩:=k5 h4 (.refl h4) (From.none _);have y5:=y4.trans x5;refine zc ?_;rw[e1];refine hA.roundR Try.func29 r29_ok (zc ?_);refine br False (by rw[e_lss hA,e_ofNat hA];rfl) (fun q=>q.elim) (fun _=>?_)<;>refine zc ?_;refine⟨_,_,_,_,rfl,?_⟩;refine zc ?_;exact hok h5 a5 c5 _ G m k4 ho ⟨p5.cells,hd_len,by omega⟩ (hm.ext x5) y5
end Go.Proofs.Ytlimjlpjldijdaa
namespace Go.Proofs.Ytlimjlpjldijdaa
open Go.Sim
set_option maxRecDepth 100000
theorem T33:SliceT Try.prog 59 86 3:=⟨by kernel_rfl,by kernel_rfl,⟨24,by kernel_rfl,by omega⟩,⟨.agg #[.int .i64 0,.int .i64 0,.int .i64 0],by kernel_rfl,rfl⟩⟩
def tri(P:List F2)(a b c:Int):List Ck:=if (⟨a,b⟩:F2)∈P/\(⟨b,c⟩:F2)∈P/\(⟨a,c⟩:F2)∈P then [⟨a,b,c⟩] else []
def tripC(P:List F2)(a b:Int):Nat->List Ck
 |0=>[]
 |m+1=>tri P a b (7-m)++tripC P a b m
def tripB(P:List F2)(a:Int):Nat->List Ck
 |0=>[]
 |m+1=>tripC P a (7-m) m++tripB P a m
def tripA(P:List F2):Nat->List Ck
 |0=>[]
 |m+1=>tripB P (7-m) m++tripA P m
variable{F:Prims}{call head arith cmp scmp bnot bsame conv neg imax imin ofNat slen place inR nz geZ rd wr push next mkOK nat zeros sadd eqAgg cut slc sslc strAt part app cpy putAt fresh lowered bump wrote addN lt ne fpAll fpApp brk yn rng mget mput mnew bytes clr mrng ment:_}(hA:AP F ⟨call,head,arith,cmp,scmp,bnot,bsame,conv,neg,imax,imin,ofNat,slen,place,inR,nz,geZ,rd,wr,push,next,mkOK,nat,zeros,sadd,eqAgg,cut,slc,sslc,strAt,part,app,cpy,putAt,fresh,lowered,bump,wrote,addN,lt,ne,fpAll,fpApp,brk,yn,rng,mget,mput,mnew,bytes,clr,mrng,ment⟩)
include hA
theorem tp_loop1{h0:AHeap}(hlow0:h0.low<=h0.next){a:Option Addr}{n c:Nat}{N:Int}(hN:N=n){l:List Vk}(hl:Vs h0 a n l)(hn:n<=1000)(hv:∀v∈l,okV v){b5 es:Nat}(hb5:h0.next<=b5){Q:Exit->SS->Prop}
  (hok:∀h' S,Own h' b5 es (S.map Value.bool)->seenB [] S (l.map Vk.pr)->b5<h'.next->Ext h0 h'->Q (.exit 0) ⟨[(5,.pointer (some ⟨b5,0,none⟩))],0,[],h'⟩) :
  ∀(m:Nat) (i:Int) (h:AHeap) (S:List Bool),(n-i).toNat<=m->0<=i->i<=n->Own h b5 es (S.map Value.bool)->b5<h.next->seenB [] S ((l.take i.toNat).map Vk.pr)->Ext h0 h->
   head 24 6 0 ⟨[(5,.pointer (some ⟨b5,0,none⟩)),(17,.slice a n c),(18,.int .i64 N),(19,.int .i64 i)],0,[],h⟩ Q:=by
 have hlen:=hl.len;refine upTo (fun m ih=>?_);intro i h S hm i0 i1 ho hb hs he;by_cases ci:i<n
 rotate_left
 ·refine hA.roundR Try.func24 r24_ok (zc ?_)
  refine br (i<N) (by rw[e_lss hA]) (fun c1=>by omega) (fun c1=>?_)<;>refine zc ?_;rw[List.take_of_length_le (by omega)]at hs;exact hok h S ho hs hb he
 obtain⟨m,rfl⟩:∃k,m=k+1:=⟨m-1,by omega⟩
 replace ih:=ih m rfl
 obtain⟨bb,o,x,y,re,im,d,w,rfl,hbb,hg,r1,_⟩:=vs_at (hl.ext he) (i:=i) i0 ci;have q1:=rd_ok hA r1;obtain⟨v1,v2,v3,v4,v5⟩:=hv _ (gt_mem l i0 (by omega));rw[hg]at v1 v2 v3;simp only at v1 v2 v3;have e2:arith .add .i64 i 1=i+1:=add64 hA (by omega) (by omega);obtain⟨kk,hkk⟩:∃z,z=(8*x+y).toNat:=⟨_,rfl⟩;have pl:place (place 0 x 8) y 1=kk:=by rw[e_place hA,e_place hA];omega
 obtain⟨h10,hh10⟩:∃z,z=bump h 7:=⟨_,rfl⟩;have e10:Ext h h10:=by rw[hh10];exact ext_bump hA _ _
 have n10:=e10.next;obtain⟨h11,w11,o11,k11⟩:=setB (ho.ext e10 hb) (i:=kk) (by have:=hs.1;omega) true;have n11:=k11.next;have ww:wr h10 b5 (place (place 0 x 8) y 1) [.bool true] h11:=by rw[pl];exact wr_at hA w11
 have htk:=gt_take l i0 (by omega);rw[hg]at htk;refine hA.roundR Try.func24 r24_ok (zc ?_);refine br (i<N) (by rw[e_lss hA]) (fun c1=>?_) (fun c1=>by omega)<;>refine zc ?_;refine zq ?_;refine⟨_,_,_,_,_,_,q1,?_⟩;refine zq ?_;rw[<-hh10];refine zq ?_;rw[e2];refine ih (i+1) h11 (S.set kk true) (by omega) (by omega) (by omega) o11 (by omega) ?_ (k11.ext (he.trans e10) hb5);rw[htk,List.map_append];refine⟨by rw[List.length_set];exact hs.1,fun p q p0 p1 q0 q1=>?_⟩;have hl64:=hs.1;have h1:=hs.2 p q p0 p1 q0 q1;rw[List.mem_append,<-h1,List.getD_eq_getElem?_getD,List.getD_eq_getElem?_getD,List.getElem?_set];by_cases cc:kk=(8*p+q).toNat
 ·rw[if_pos cc,if_pos (by omega)]
  have hp:p=x/\q=y:=by omega
  rw[hp.1,hp.2];exact⟨fun _=>.inr (List.mem_singleton.2 rfl),fun _=>rfl⟩
 ·rw[if_neg cc]
  refine⟨.inl,fun z=>z.elim id (fun z=>?_)⟩;have z':=List.mem_singleton.1 z;have z1:p=x:=congrArg F2.n z';have z2:q=y:=congrArg F2.d z';rw[z1,z2]at cc;exact absurd hkk cc
theorem tp_in{h0:AHeap}{b5 es:Nat}{S:List Bool}(ho:Own h0 b5 es (S.map Value.bool))(hb:b5<h0.next){P:List F2}(hs:seenB [] S P){a b:Int}(a0:0<=a)(a8:a<8)(b0:0<=b)(b8:b<8){i:Int}{Q:Exit->SS->Prop} :
  ∀(m:Nat) (c:Int) (k:Nat) (h:AHeap) (ad:Option Addr) (cc:Nat) (L:List Ck),m<=8->c=8-m->k+m<=1000->Apd h 3 ad k cc (L.flatMap Ck.cells)->From h0.next ad->Ext h0 h->
   (∀h' ad' k' cc',Apd h' 3 ad' k' cc' ((L++tripC P a b m).flatMap Ck.cells)->From h0.next ad'->k'<=k+m->Ext h0 h'->Q (.exit 6) ⟨[(5,.pointer (some ⟨b5,0,none⟩)),(8,.slice ad' k' cc'),(9,.int .i64 a),(10,.int .i64 b),(30,.int .i64 i)],0,[],h'⟩)->
   head 24 18 0 ⟨[(5,.pointer (some ⟨b5,0,none⟩)),(8,.slice ad k cc),(9,.int .i64 a),(10,.int .i64 b),(11,.int .i64 c),(30,.int .i64 i)],0,[],h⟩ Q:=by
 intro m
 induction m with
 |zero=>
  intro c k h ad cc L m8 hc hk hp hf he hQ;refine hA.roundR Try.func24 r24_ok (zc ?_);refine br (c<8) (by rw[e_lss hA]) (fun c1=>by omega) (fun c1=>?_)<;>refine zc ?_;exact hQ h ad k cc (by simpa[tripC]using hp) hf (by omega) he
 |succ m ih=>
 intro c k h ad cc L m8 hc hk hp hf he hQ;have c0:0<=c/\c<8:=by omega
 have e2:arith .add .i64 c 1=c+1:=add64 hA (by omega) (by omega);have hS:=hs.1;have rdB:∀x y:Int,0<=x->x<8->0<=y->y<8->rd h b5 (place (place 0 x 8) y 1) 1 [.bool (S.getD (8*x+y).toNat false)]:=fun x y x0 x8 y0 y8=>by
  rw[show place (place 0 x 8) y 1=(8*x+y).toNat by rw[e_place hA,e_place hA];omega];exact rd_at hA (getB (ho.ext he hb) (by omega))
 have d1:=rdB a b a0 a8 b0 b8;have d2:=rdB b c b0 b8 c0.1 c0.2;have d3:=rdB a c a0 a8 c0.1 c0.2;have k1:=hs.2 a b a0 a8 b0 b8;have k2:=hs.2 b c b0 b8 c0.1 c0.2;have k3:=hs.2 a c a0 a8 c0.1 c0.2;generalize S.getD (8*a+b).toNat false=s1 at *;generalize S.getD (8*b+c).toNat false=s2 at *;generalize S.getD (8*a+c).toNat false=s3 at *;have tc:tripC P a b (m+1)=tri P a b c++tripC P a b m:=by show tri P a b (7-m)++_=_;rw[show(7:Int)-m=c by omega]
 rw[tc]at hQ;have skip:¬(s1=true/\s2=true/\s3=true)->∀h2,Ext h h2->head 24 18 0 ⟨[(5,.pointer (some ⟨b5,0,none⟩)),(8,.slice ad k cc),(9,.int .i64 a),(10,.int .i64 b),(11,.int .i64 (c+1)),(30,.int .i64 i)],0,[],h2⟩ Q:=fun g h2 x2=>by
  have:tri P a b c=[]:=by unfold tri;rw[if_neg (by rw[<-k1,<-k2,<-k3];exact g)]
  rw[this]at hQ;exact ih (c+1) k h2 ad cc L (by omega) (by omega) (by omega) (hp.ext x2) hf (he.trans x2) (fun h' ad' k' cc' p f q x=>hQ h' ad' k' cc' p f (by omega) x)
 refine hA.roundR Try.func24 r24_ok (zc ?_);refine br (c<8) (by rw[e_lss hA]) (fun c1=>?_) (fun c1=>by omega)<;>refine zc ?_;refine zq ?_;refine br (s1=true) (by simp) (fun c2=>?_) (fun c2=>?_)<;>refine zc ?_
 rotate_left
 ·rw[e2]
  exact skip (fun q=>c2 q.1) h (.refl h)
 refine zq ?_;refine br (s2=true) (by simp) (fun c3=>?_) (fun c3=>?_)<;>refine zc ?_
 rotate_left
 ·rw[e2]
  exact skip (fun q=>c3 q.2.1) h (.refl h)
 refine zq ?_;refine br (s3=true) (by simp) (fun c4=>?_) (fun c4=>?_)<;>refine zc ?_
 rotate_left
 ·rw[e2]
  exact skip (fun q=>c4 q.2.2) h (.refl h)
 have tt:tri P a b c=[⟨a,b,c⟩]:=by unfold tri;rw[if_pos ⟨k1.1 c2,k2.1 c3,k3.1 c4⟩]
 rw[tt]at hQ;refine appR_ok hA T33 ck_len (by omega) ck_ok (v:=⟨a,b,c⟩) hp (by omega) (fun ad' cc' h2 p2 g2=>?_);obtain⟨x2,f2⟩:=g2 h0 he hf;refine zc ?_;rw[e2];exact ih (c+1) (k+1) h2 ad' cc' (L++[⟨a,b,c⟩]) (by omega) (by omega) (by omega) p2 f2 x2 (fun h' ad' k' cc' p f q x=>hQ h' ad' k' cc' (by rw[<-List.append_assoc];exact p) f (by omega) x)
theorem tp_mid{h0:AHeap}{b5 es:Nat}{S:List Bool}(ho:Own h0 b5 es (S.map Value.bool))(hb:b5<h0.next){P:List F2}(hs:seenB [] S P){a:Int}(a0:0<=a)(a8:a<8){i:Int}{Q:Exit->SS->Prop} :
  ∀(m:Nat) (b:Int) (k:Nat) (h:AHeap) (ad:Option Addr) (cc:Nat) (L:List Ck),m<=8->b=8-m->k+8*m<=1000->Apd h 3 ad k cc (L.flatMap Ck.cells)->From h0.next ad->Ext h0 h->
   (∀h' ad' k' cc',Apd h' 3 ad' k' cc' ((L++tripB P a m).flatMap Ck.cells)->From h0.next ad'->k'<=k+8*m->Ext h0 h'->Q (.exit 4) ⟨[(5,.pointer (some ⟨b5,0,none⟩)),(8,.slice ad' k' cc'),(30,.int .i64 i)],0,[],h'⟩)->
   head 24 15 0 ⟨[(5,.pointer (some ⟨b5,0,none⟩)),(8,.slice ad k cc),(9,.int .i64 a),(10,.int .i64 b),(30,.int .i64 i)],0,[],h⟩ Q:=by
 intro m
 induction m with
 |zero=>
  intro c k h ad cc L m8 hc hk hp hf he hQ;refine hA.roundR Try.func24 r24_ok (zc ?_);refine br (c<8) (by rw[e_lss hA]) (fun c1=>by omega) (fun c1=>?_)<;>refine zc ?_;exact hQ h ad k cc (by simpa[tripB]using hp) hf (by omega) he
 |succ m ih=>
 intro b k h ad cc L m8 hc hk hp hf he hQ;have e2:arith .add .i64 b 1=b+1:=add64 hA (by omega) (by omega);have tc:tripB P a (m+1)=tripC P a b m++tripB P a m:=by show tripC P a (7-m) m++_=_;rw[show(7:Int)-m=b by omega]
 rw[tc]at hQ;refine hA.roundR Try.func24 r24_ok (zc ?_);refine br (b<8) (by rw[e_lss hA]) (fun c1=>?_) (fun c1=>by omega)<;>refine zc ?_;rw[e2];refine tp_in hA ho hb hs a0 a8 (by omega) c1 m (b+1) k h ad cc L (by omega) (by omega) (by omega) hp hf he (fun h1 ad1 k1 cc1 p1 f1 q1 x1=>?_);refine zc ?_;rw[e2];exact ih (b+1) k1 h1 ad1 cc1 _ (by omega) (by omega) (by omega) p1 f1 x1 (fun h' ad' k' cc' p f q x=>hQ h' ad' k' cc' (by rw[<-List.append_assoc];exact p) f (by omega) x)
theorem tp_out{h0:AHeap}{b5 es:Nat}{S:List Bool}(ho:Own h0 b5 es (S.map Value.bool))(hb:b5<h0.next){P:List F2}(hs:seenB [] S P){Q:Exit->SS->Prop} :
  ∀(m:Nat) (a:Int) (k:Nat) (h:AHeap) (ad:Option Addr) (cc:Nat) (L:List Ck),m<=8->a=8-m->k+64*m<=1000->Apd h 3 ad k cc (L.flatMap Ck.cells)->From h0.next ad->Ext h0 h->
   (∀h' ad' k' cc',Apd h' 3 ad' k' cc' ((L++tripA P m).flatMap Ck.cells)->From h0.next ad'->k'<=k+64*m->Ext h0 h'->Q (.exit 2) ⟨[(8,.slice ad' k' cc')],0,[],h'⟩)->
   head 24 12 0 ⟨[(5,.pointer (some ⟨b5,0,none⟩)),(8,.slice ad k cc),(30,.int .i64 a)],0,[],h⟩ Q:=by
 intro m
 induction m with
 |zero=>
  intro c k h ad cc L m8 hc hk hp hf he hQ;refine hA.roundR Try.func24 r24_ok (zc ?_);refine br (c<8) (by rw[e_lss hA]) (fun c1=>by omega) (fun c1=>?_)<;>refine zc ?_;exact hQ h ad k cc (by simpa[tripA]using hp) hf (by omega) he
 |succ m ih=>
 intro a k h ad cc L m8 hc hk hp hf he hQ;have e2:arith .add .i64 a 1=a+1:=add64 hA (by omega) (by omega);have tc:tripA P (m+1)=tripB P a m++tripA P m:=by show tripB P (7-m) m++_=_;rw[show(7:Int)-m=a by omega]
 rw[tc]at hQ;refine hA.roundR Try.func24 r24_ok (zc ?_);refine br (a<8) (by rw[e_lss hA]) (fun c1=>?_) (fun c1=>by omega)<;>refine zc ?_;rw[e2];refine tp_mid hA ho hb hs (by omega) c1 m (a+1) k h ad cc L (by omega) (by omega) (by omega) hp hf he (fun h1 ad1 k1 cc1 p1 f1 q1 x1=>?_);refine zc ?_;rw[e2];exact ih (a+1) k1 h1 ad1 cc1 _ (by omega) (by omega) (by omega) p1 f1 x1 (fun h' ad' k' cc' p f q x=>hQ h' ad' k' cc' (by rw[<-List.append_assoc];exact p) f (by omega) x)
theorem trips_ok{h:AHeap}(hlow:h.low<=h.next){a:Option Addr}{n c:Nat}{l:List Vk}(hl:Vs h a n l)(ke:CkR l 0){Q:Value->AHeap->Prop}
  (hQ:∀h' ta k tc,Cs h' ta k (tripA (l.map Vk.pr) 8)->k<=1000->Ext h h'->Q (.tuple #[.slice ta k tc,.int .i64 0]) h'):call 24 [.slice a n c] h Q:=by
 have hlen:=hl.len;obtain⟨n64,hv,_⟩:=ke.ok0;have hn:n<=1000:=by omega
 refine hA.bodyR Try.func24 r24_ok (hA.alike _ _ _ rfl) hlow (zc ?_);refine clcheck_ok hA hlow hl hn (fun e h1 ke' x1=>⟨_,rfl,?_⟩);obtain rfl:=ke'.uniq ke;refine zc ?_;refine br False (by rw[e_neq hA];rfl) (fun q=>q.elim) (fun _=>?_)<;>refine zc ?_;simp only[e_next hA,e_push hA,e_ofNat hA];have ex:=Ext.push h1 64 ((List.replicate 64 false).map Value.bool);have ox:=Own.push h1 64 ((List.replicate 64 false).map Value.bool);have nx:(h1.push 64 ((List.replicate 64 false).map Value.bool)).next=h1.next+1:=rfl;refine tp_loop1 hA (h0:=h1) (x1.lowOK hlow) rfl (hl.ext x1) hn hv (b5:=h1.next) (es:=64) (Nat.le_refl _) (fun h2 S o2 s2 b2 x2=>?_) n 0 _ (List.replicate 64 false) (by omega) (by omega) (by omega) ox (by show h1.next<h1.next+1;omega) ⟨by simp,fun i j i0 i1 j0 j1=>?_⟩ ex
 rotate_left
 ·rw[List.getD_eq_getElem?_getD,List.getElem?_replicate]
  split<;>simp
 refine zc ?_;refine tp_out hA o2 b2 s2 8 0 0 h2 none 0 [] (by omega) (by omega) (by omega) (by exact Apd.nil _ _) (From.none _) (.refl h2) (fun h3 ta k tc p3 f3 k3 x3=>?_);refine zc ?_;exact hQ h3 ta k tc ⟨p3.cells,ck_len,by omega⟩ (by omega) ((x1.trans x2).trans x3)
