import Derived.Test.YtogliemiljhliaaRdXc
import Derived.Test.YtogliemiljhliaaRdPg
import Derived.Test.YtogliemiljhliaaRdBh
import Derived.Test.YtogliemiljhliaaRdSc
set_option linter.unusedSimpArgs false
set_option linter.unusedVariables false
namespace Go.Proofs.Ytogliemiljhliaa
open Go.Sim Ext
set_option maxRecDepth 100000
def sumQ(b:Nat->Nat->Int)(L:Int)(x:Nat->Rat)(B:List Nat):Nat->Nat->Rat
 |0,_=>0
 |i+1,k=>sumQ b L x B i k+x (B.getD i 0)*rq (b (B.getD i 0) k) L
structure BasQ(n:Nat)(L:Int)(B:List Nat)(b:Nat->Nat->Int)(x:Nat->Rat):Prop where
 lead:L≠0
 leadB:L.natAbs<=1000000000
 few:B.length<=100
 lt:∀c,c∈B->c<n
 own:∀c,c∈B->b c c=L
 late:∀c,c∈B->∀y,c<y->b c y=0
 small:∀c,c∈B->∀y,y<n->(b c y).natAbs<=1000000000
 xs:∀j,j<n->fits (x j)
 prods:∀c,c∈B->∀y,y<n->fits (x c*rq (b c y) L)
 sums:∀i,i<=B.length->∀y,y<n->fits (sumQ b L x B i y)
 sum:∀k,k<n->sumQ b L x B B.length k=x k
theorem asF_fits{q:Rat}(h:fits q):isF (asF q).n (asF q).d q:=⟨rfl,rfl,h⟩
def mixQ(s s':Nat->Rat)(k:Nat):Nat->Fc:=fun y=>if y<k then asF (s' y)else asF (s y)
variable{F:Prims}{call head a0 b0 c0 d0 e0 j0 k0 l0 m0 ofNat n0 place o0 nz p0 rd wr push next q0 s0 t0 u0 v0 w0 x0 z0 c1 d1 f1 g1 l1 m1 lowered bump n1 o1 lt ne p1 q1 s1 yn t1 u1 v1 w1 x1 z1:_}(hA:AP F ⟨call,head,a0,b0,c0,d0,e0,j0,k0,l0,m0,ofNat,n0,place,o0,nz,p0,rd,wr,push,next,q0,s0,t0,u0,v0,w0,x0,z0,c1,d1,f1,g1,l1,m1,lowered,bump,n1,o1,lt,ne,p1,q1,s1,yn,t1,u1,v1,w1,x1,z1⟩)
include hA
theorem spiq_loop{h0:AHeap}(hlow:h0.low<=h0.next){ab:Option Addr}{K cb:Nat}{hs:List Hd}{g:List (List Fc)}(hg:GrR fC 2 h0 ab K hs g){i:Nat}{I:Int}(eI:I=i)(hi:i<K){n c:Nat}(n100:n<=100)(hc:c<n){u:Nat->Int}{s s':Nat->Rat}{x:Nat->Rat}{L:Int}(hf:gt g (i:Int)=lst (fun y=>fr (u y) L) n){ax:Option Addr}{cx:Nat}(hx:Rows fC 2 h0 ax n (lst (fun j=>asF (x j)) n))
  (hL:L≠0) (hL2:L.natAbs<=1000000000) (hu:∀y,y<n->(u y).natAbs<=1000000000) (hx1:fits (x c)) (hp1:∀y,y<n->fits (x c*rq (u y) L)) (hs1:∀y,y<n->fits (s y)) (hs2:∀y,y<n->fits (s' y)) (hss:∀y,y<n->s' y=s y+x c*rq (u y) L) {sb:Nat} {C:Int} (eC:C=c) {Q:Exit->SS->Prop}
  (hQ:∀h',Vec fC 2 h0 h' sb n (fun y=>asF (s' y))->Q (.exit 6) ⟨[(0,.slice ab K cb),(1,.slice ax n cx),(5,.slice (some ⟨sb,0,none⟩) n n),(7,.int .i64 I)],13,[],h'⟩) :
  ∀(d k:Nat) (kk:Int) (h:AHeap),n-k=d->k<=n->kk=k->Vec fC 2 h0 h sb n (mixQ s s' k)->
   head 26 15 13 ⟨[(0,.slice ab K cb),(1,.slice ax n cx),(5,.slice (some ⟨sb,0,none⟩) n n),(7,.int .i64 I),(8,.int .i64 C),(9,.int .i64 kk)],13,[],h⟩ Q:=by
 intro d
 induction d with
 |zero=>
  intro k kk h hd hk ek t;refine hA.roundR Try.func26 r26_ok (zc ?_);refine br (kk<(n:Int)) (by rw[e_lss hA,e_ofNat hA]) (fun q=>by omega) (fun _=>?_)<;>refine zc ?_;exact hQ h (t.congr (fun j hj=>by unfold mixQ;rw[if_pos (by omega)]))
 |succ d ih=>
 intro k kk h hd hk ek t;obtain⟨h9,hh9⟩:∃z,z=bump h 18:=⟨_,rfl⟩;have x9:Ext h h9:=by rw[hh9];exact ext_bump hA _ _
 have n9:h9.next=h.next+18:=by rw[hh9,e_bump hA];rfl
 have e9:=t.ext.trans x9;have l9:=e9.lowOK hlow;obtain⟨xb,xo,ea,lx,r1⟩:=(hx.ext e9).at (i:=C) (by omega) (by omega);subst ea;have r1:=r1 0 2 (by omega) (by omega);obtain⟨xn,xd,hxx⟩:∃p q,asF (x c)=⟨p,q⟩:=⟨_,_,rfl⟩;rw[show gt (lst (fun j=>asF (x j)) n) C=⟨xn,xd⟩ by rw[eC,lst_gt _ (by omega)];exact hxx]at r1;have r1:rd h9 xb (place xo C 2) 2 [.int .i64 xn,.int .i64 xd]:=rd_ok hA r1;have hg9:=hg.ext e9;obtain⟨bb,bo,ea,lb⟩:=hg9.some (by omega);subst ea;have r0:=gr_head hA hg9 (y:=I) (by omega) (by omega);have rr:=hg9.row I (by omega) (by omega);obtain⟨ra,rn,rc,hh⟩:∃p q r,gt hs I=⟨p,q,r⟩:=⟨_,_,_,rfl⟩;rw[hh]at r0 rr;rw[eI,hf]at rr;have rr:Rows fC 2 h9 ra rn (lst (fun y=>fr (u y) L) n):=rr;obtain rfl:rn=n:=by rw[<-rr.len,lst_len]
 obtain⟨pb,po,ea,lp,r3⟩:=rr.at (i:=kk) (by omega) (by omega);subst ea;obtain⟨un,ud,huu⟩:∃p q,fr (u k) L=⟨p,q⟩:=⟨_,_,rfl⟩;have r3:=r3 0 2 (by omega) (by omega);rw[show gt (lst (fun y=>fr (u y) L) rn) kk=⟨un,ud⟩ by rw[ek,lst_gt _ (by omega)];exact huu]at r3;have r3:rd h9 pb (place po kk 2) 2 [.int .i64 un,.int .i64 ud]:=rd_ok hA r3;have ix:isF xn xd (x c):=by have:=asF_fits hx1;rw[hxx]at this;exact this
 have iu:isF un ud (rq (u k) L):=by have:=fr_is (a:=u k) (b:=L) (by have:=hu k (by omega);omega) (by omega) hL;rw[huu]at this;exact this
 obtain⟨sn,sd,hsn⟩:∃p q,asF (s k)=⟨p,q⟩:=⟨_,_,rfl⟩;have is:isF sn sd (s k):=by have:=asF_fits (hs1 k (by omega));rw[hsn]at this;exact this
 have eq:s k+x c*rq (u k) L=s' k:=(hss k (by omega)).symm;have fp:fits (x c*rq (u k) L):=hp1 k (by omega);have fs:fits (s k+x c*rq (u k) L):=by rw[eq];exact hs2 k (by omega)
 refine hA.roundR Try.func26 r26_ok (zc ?_);refine br (kk<(rn:Int)) (by rw[e_lss hA,e_ofNat hA]) (fun _=>?_) (fun q=>by omega)<;>refine zc ?_;refine zq ?_;rw[<-hh9];refine zq ?_;refine rmul_ok hA (low_fresh hA h9) ix.i64n ix.i64d iu.i64n iu.i64d (fun a1 b1 r k1 hz ez=>⟨_,_,_,rfl,?_⟩);obtain⟨j1,rfl⟩:=opIs_of ix iu fp k1;obtain⟨hX,hhX⟩:∃z,z=lowered h9 hz:=⟨_,rfl⟩;have eX:Ext h9 hX:=by rw[hhX];exact ext_low hA l9 (.refl h9) ez
 refine zc ?_;rw[<-hhX];refine zq ?_;obtain⟨h8,hh8⟩:∃z,z=bump hX 12:=⟨_,rfl⟩;have x8:Ext hX h8:=by rw[hh8];exact ext_bump hA _ _
 have n8:h8.next=hX.next+12:=by rw[hh8,e_bump hA];rfl
 have t8:=((t.more x9).more eX).more x8;have l8:=t8.ext.lowOK hlow;have r5:rd h8 sb (place 0 kk 2) 2 [.int .i64 sn,.int .i64 sd]:=rd_ok hA (by
  obtain⟨b',o',ea',_,r5⟩:=t8.rows.at (i:=kk) (by omega) (by omega);cases ea';have r5:=r5 0 2 (by omega) (by omega);rw[show gt (lst (mixQ s s' k) rn) kk=⟨sn,sd⟩ by rw[ek,lst_gt _ (by omega),<-hsn];unfold mixQ;rw[if_neg (by omega)]]at r5;exact r5)
 rw[<-hh8];refine zq ?_;refine radd_ok hA (low_fresh hA h8) is.i64n is.i64d j1.i64n j1.i64d (fun a2 b2 r' k2 hw ew=>⟨_,_,_,rfl,?_⟩);obtain⟨j2,rfl⟩:=opIs_of is j1 fs k2;rw[eq]at j2;obtain⟨hY,hhY⟩:∃z,z=lowered h8 hw:=⟨_,rfl⟩;have eY:Ext h8 hY:=by rw[hhY];exact ext_low hA l8 (.refl h8) ew
 refine zc ?_;rw[<-hhY];refine zq ?_;refine br False (by rw[e_neq hA];rfl) (fun q=>q.elim) (fun _=>?_)<;>refine zc ?_;refine zq ?_;refine br False (by rw[e_neq hA];rfl) (fun q=>q.elim) (fun _=>?_)<;>refine zc ?_;have tY:=t8.more eY;obtain⟨hZ,wZ,tZ,_⟩:=tY.set (i:=k) (by omega) (⟨a2,b2⟩:Fc);have wZ:wr hY sb (place 0 kk 2) [.int .i64 a2,.int .i64 b2] hZ:=wr_ok hA (by rw[ek];exact wZ);refine zq ?_;rw[add64 hA (by omega) (by omega)];refine ih (k+1) (kk+1) hZ (by omega) (by omega) (by omega) (tZ.congr (fun j hj=>?_));unfold mixQ;by_cases q:j=k
 ·subst q
  rw[if_pos rfl,if_pos (by omega)];exact asF_is j2
 ·rw[if_neg q]
  by_cases w:j<k
  ·rw[if_pos w,if_pos (by omega)]
  ·rw[if_neg w,if_neg (by omega)]
theorem spoq_loop{h0:AHeap}(hlow:h0.low<=h0.next){ab:Option Addr}{K cb:Nat}{hs:List Hd}{n:Nat}{L:Int}{B:List Nat}{b:Nat->Nat->Int}{x:Nat->Rat}(G:BasQ n L B b x)(n100:n<=100)(hg:GrR fC 2 h0 ab K hs (B.map (fun c=>lst (fun y=>fr (b c y) L) n))){ax:Option Addr}{cx:Nat}(hx:Rows fC 2 h0 ax n (lst (fun j=>asF (x j)) n)){sb:Nat}{Q:Exit->SS->Prop}
  (hQ:∀h',Vec fC 2 h0 h' sb n (fun y=>asF (sumQ b L x B K y))->Q (.exit 2) ⟨[(1,.slice ax n cx),(5,.slice (some ⟨sb,0,none⟩) n n)],0,[],h'⟩) :
  ∀(d i:Nat) (I:Int) (h:AHeap),K-i=d->i<=K->I=i->Vec fC 2 h0 h sb n (fun y=>asF (sumQ b L x B i y))->
   head 26 7 0 ⟨[(0,.slice ab K cb),(1,.slice ax n cx),(5,.slice (some ⟨sb,0,none⟩) n n),(7,.int .i64 I)],0,[],h⟩ Q:=by
 have lK:B.length=K:=by rw[<-hg.len,List.length_map]
 have K100:=G.few;intro d
 induction d with
 |zero=>
  intro i I h hd hi eI t;obtain rfl:i=K:=by omega
  refine hA.roundR Try.func26 r26_ok (zc ?_);refine br (I<(i:Int)) (by rw[e_lss hA,e_ofNat hA]) (fun q=>by omega) (fun _=>?_)<;>refine zc ?_;exact hQ h t
 |succ d ih=>
 intro i I h hd hi eI t;obtain⟨c,hc⟩:∃z,z=B.getD i 0:=⟨_,rfl⟩;have cm:c∈B:=by rw[hc];exact mem_bound.2 ⟨i,by omega,rfl⟩
 have cn:=G.lt c cm;have hf:gt (B.map (fun c=>lst (fun y=>fr (b c y) L) n)) (i:Int)=lst (fun y=>fr (b c y) L) n:=by
  unfold gt;rw[List.getD_eq_getElem?_getD,List.getElem?_map,show((i:Int)).toNat=i from rfl,List.getElem?_eq_getElem (show i<B.length by omega),hc,List.getD_eq_getElem?_getD,List.getElem?_eq_getElem (show i<B.length by omega)];rfl
 have e:=t.ext;refine hA.roundR Try.func26 r26_ok (zc ?_);refine br (I<(K:Int)) (by rw[e_lss hA,e_ofNat hA]) (fun _=>?_) (fun q=>by omega)<;>refine zc ?_;rw[e_ofNat hA,sub64 hA (by omega) (by omega)];refine spl_loop hA (hg.ext e) eI (by omega) n100 cn hf (by rw[G.own c cm,fr_self G.lead];decide) (fun y y0 y1=>by rw[G.late c cm y y0];exact(fr_num G.lead).2 rfl) (fun C eC=>?_) (n-1-c) (n-1) _ rfl (by omega) (by omega) (by omega);refine zc ?_;refine br (C<0) (by rw[e_lss hA]) (fun q=>by omega) (fun _=>?_)<;>refine zc ?_;obtain⟨h9,hh9⟩:∃z,z=bump h 13:=⟨_,rfl⟩;have x9:Ext h h9:=by rw[hh9];exact ext_bump hA _ _
 have n9:h9.next=h.next+13:=by rw[hh9,e_bump hA];rfl
 have e9:=e.trans x9;have l9:=e9.lowOK hlow;have hg9:=hg.ext e9;obtain⟨bb,bo,ea,lb⟩:=hg9.some (by omega);subst ea;have r0:=gr_head hA hg9 (y:=I) (by omega) (by omega);have rr:=hg9.row I (by omega) (by omega);obtain⟨ra,rn,rc,hh⟩:∃p q r,gt hs I=⟨p,q,r⟩:=⟨_,_,_,rfl⟩;rw[hh]at r0 rr;rw[eI,hf]at rr;have rr:Rows fC 2 h9 ra rn (lst (fun y=>fr (b c y) L) n):=rr;obtain rfl:rn=n:=by rw[<-rr.len,lst_len]
 obtain⟨pb,po,ea,lp,r3⟩:=rr.at (i:=C) (by omega) (by omega);subst ea;have r3:=r3 0 2 (by omega) (by omega);rw[show gt (lst (fun y=>fr (b c y) L) rn) C=⟨1,1⟩ by rw[eC,lst_gt _ (by omega),G.own c cm];exact fr_self G.lead]at r3;have r3:rd h9 pb (place po C 2) 2 [.int .i64 1,.int .i64 1]:=rd_ok hA r3;rw[<-hh9];refine zq ?_;refine of31_ok hA (low_fresh hA h9) ⟨_,_,rfl,?_⟩;refine zc ?_;rw[low_same hA l9];refine zq ?_;obtain⟨r,hr1,hr2⟩:=eqF 1 1 1 1;obtain rfl:r=true:=hr2.2 ⟨rfl,rfl⟩;rw[e_eqAgg hA];refine⟨guardF,true,hr1,?_⟩;refine zq ?_;refine⟨fp_old hA (wrote_no hA (.refl _)) (by rw[e_addN hA,e_next hA];omega),fp_old hA (wrote_no hA (.refl _)) (by rw[e_addN hA,e_next hA];omega),?_⟩;refine zq ?_;refine br False (by rw[e_bnot hA];rfl) (fun q=>q.elim) (fun _=>?_)<;>refine zc ?_;refine zq ?_;refine spiq_loop hA hlow hg eI (by omega) n100 cn hf hx G.lead G.leadB (G.small c cm) (G.xs c cn) (G.prods c cm) (G.sums i (by omega)) (G.sums (i+1) (by omega)) (fun y hy=>by show sumQ b L x B i y+x (B.getD i 0)*rq (b (B.getD i 0) y) L=_;rw[<-hc]) eC (fun h7 t7=>?_) rn 0 0 h9 (by omega) (by omega) rfl ((t.more x9).congr (fun y hy=>by unfold mixQ;rw[if_neg (Nat.not_lt_zero y)]));refine zc ?_;rw[add64 hA (by omega) (by omega)];exact ih (i+1) (I+1) h7 (by omega) (by omega) (by omega) t7
theorem spannedq_ok{h:AHeap}(hlow:h.low<=h.next){ab:Option Addr}{K cb:Nat}{hs:List Hd}{n:Nat}{L:Int}{B:List Nat}{b:Nat->Nat->Int}{x:Nat->Rat}(G:BasQ n L B b x)(n100:n<=100)(hg:GrR fC 2 h ab K hs (B.map (fun c=>lst (fun y=>fr (b c y) L) n))){ax:Option Addr}{cx:Nat}(hx:Rows fC 2 h ax n (lst (fun j=>asF (x j)) n)){Q:Value->AHeap->Prop}
  (hQ:∀h',Ext h h'->Q (.bool true) h'):call 26 [.slice ab K cb,.slice ax n cx] h Q:=by
 have lK:B.length=K:=by rw[<-hg.len,List.length_map]
 refine hA.bodyR Try.func26 r26_ok (hA.alike _ _ _ rfl) hlow (zc ?_);rw[e_ofNat hA];refine⟨mk_ok hA (by omega) (Int.le_refl _) (by omega),?_⟩;refine zc ?_;rw[e_zeros hA,e_next hA,e_push hA,e_nat hA,show(Int.ofNat n).toNat=n from rfl];rw[show copies [Value.int .i64 0,.int .i64 0] n=(lst (fun _=>(⟨0,0⟩:Fc)) n).flatMap fC from copies_lst (enc:=fC) ⟨0,0⟩ n];refine spz_loop hA (h0:=h) hlow n100 (fun h5 v5=>?_) n 0 0 _ (by omega) (by omega) rfl ⟨.push h 2 _,Own.push h 2 _,Nat.le_refl _,Nat.lt_succ_self _,fC_len,by omega⟩;obtain⟨sb,hsb⟩:∃z,z=h.next:=⟨_,rfl⟩;rw[<-hsb]at v5 ⊢;refine zc ?_;refine spoq_loop hA hlow G n100 hg hx (fun h6 v6=>?_) K 0 0 h5 (by omega) (by omega) rfl (v5.congr (fun y hy=>by show(⟨0,1⟩:Fc)=asF 0;rfl));refine zc ?_;have v6:=v6.congr (g:=fun j=>asF (x j)) (fun y hy=>by rw[<-lK,G.sum y hy]);refine fracs_ok hA (v6.ext.lowOK hlow) v6.rows (hx.ext v6.ext) (by omega) (fun h7 u7=>⟨_,rfl,?_⟩);refine zc ?_;exact hQ h7 (v6.ext.trans u7)
end Go.Proofs.Ytogliemiljhliaa
namespace Go.Proofs.Ytogliemiljhliaa
open Go.Sim Ext
set_option maxRecDepth 100000
theorem Good.out{m n:Nat}{A:Nat->Ext.Vec}{K:Nat}{S:St}{W:Nat->Ext.Vec}{s:Int}(g:Good m n A K S W s){v:Nat->Int}{D:Int}(h:∀r,r<m->sumN (fun j=>A j r*v j) n=D*A n r):∀i,i<m->sumN (fun j=>S.R i j*v j) n=D*S.R i n:=fun i hi=>by
 have hs:s≠0:=by rcases g.sgn with h|h<;>rw[h]<;>decide
 refine cancel hs ?_;have e1:sumN (fun k=>v k*Ext.vol m (put W i (A k))) n=D*Ext.vol m (put W i (A n)):=by
  rw[<-vol_sum hi v A n,<-vol_mul hi];exact vol_congr (fun j hj r hr=>by
   unfold put;split
   ·show sumN (fun k=>v k*A k r) n=D*A n r
    rw[<-h r hr];exact sumN_congr n (fun k hk=>Int.mul_comm _ _)
   ·rfl)
 rw[g.val hi (Nat.le_refl n)]at e1;rw[<-sumN_mul,sumN_congr (g:=fun k=>v k*Ext.vol m (put W i (A k))) n (fun k hk=>by rw[g.val hi (by omega)];grind),e1];grind
def xV(S:St)(n x:Nat):Int:=sumN (fun k=>if x=S.bound.getD k 0 then S.R k n else 0) S.bound.length
theorem fill_x{m n:Nat}{S:St}(e:Ech m S n){x:Nat}:∀K,K<=S.bound.length->fillR S.R S.bound S.lead n 1 K x=fr (sumN (fun k=>if x=S.bound.getD k 0 then S.R k n else 0) K) S.lead
 |0,_=>by show(⟨0,1⟩:Fc)=fr 0 S.lead;rw[fr_zero]
 |K+1,h=>by
  show(if x=S.bound.getD K 0 then fr (1*S.R K n) S.lead else fillR S.R S.bound S.lead n 1 K x)=fr (sumN (fun k=>if x=S.bound.getD k 0 then S.R k n else 0) K+(if x=S.bound.getD K 0 then S.R K n else 0)) S.lead;by_cases q:x=S.bound.getD K 0
  ·rw[if_pos q,if_pos q,sumN_zero _ (fun k hk=>if_neg (fun w=>by have:=e.inj (by omega) (by omega) (w.symm.trans q);omega))]
   congr 1;omega
  ·rw[if_neg q,if_neg q,fill_x e K (by omega),Int.add_zero]
theorem xV_free{S:St}{n x:Nat}(hx:x∉S.bound):xV S n x=0:=sumN_zero _ (fun k hk=>if_neg (fun q=>hx (mem_bound.2 ⟨k,hk,q.symm⟩)))
theorem xV_bound{m n:Nat}{S:St}(e:Ech m S n){k:Nat}(hk:k<S.bound.length):xV S n (S.bound.getD k 0)=S.R k n:=by
 unfold xV;rw[sumN_one (i:=k) _ hk (fun j hj hne=>if_neg (fun q=>hne (e.inj hj hk q.symm))),if_pos rfl]
theorem xV_small{m n:Nat}{S:St}(e:Ech m S n)(fi:Fine m n S)(x:Nat):(xV S n x).natAbs<=1000000000:=by
 by_cases q:x∈S.bound
 ·obtain⟨k,hk,rfl⟩:=mem_bound.1 q
  rw[xV_bound e hk];exact fi.small k n (by have:=e.few;omega) (Nat.le_refl n)
 ·rw[xV_free q];decide
theorem off_span{m n:Nat}{S:St}(e:Ech m S n){v:Nat->Int}{D:Int}(D0:D≠0)(h:∀i,i<m->sumN (fun j=>S.R i j*v j) n=D*S.R i n):(∀i,S.bound.length<=i->i<m->S.R i n=0)/\∀k,k<n->lsum (fun c=>v c*bV S c k) (freeL S n)=S.lead*v k-D*xV S n k:=by
 have low:∀i,S.bound.length<=i->i<m->S.R i n=0:=fun i h1 h2=>by
  have:=h i h2;rw[sumN_zero n (fun j hj=>by rw[e.low j hj i h1 h2,Int.zero_mul])]at this;exact(Int.mul_eq_zero.1 this.symm).resolve_left D0
 refine⟨low,fun k hk=>?_⟩;have hx:∀i,i<m->sumN (fun j=>S.R i j*xV S n j) n=S.lead*S.R i n:=fun i hi=>by
  unfold xV;rw[sumN_congr (g:=fun j=>sumN (fun k=>S.R i j*(if j=S.bound.getD k 0 then S.R k n else 0)) S.bound.length) n (fun j hj=>by rw[sumN_mul]),sumN_comm (fun k j=>S.R i j*(if j=S.bound.getD k 0 then S.R k n else 0)) n S.bound.length,
   sumN_congr (g:=fun k=>if k=i then S.lead*S.R i n else 0) S.bound.length (fun k hk=>by
    rw[sumN_pick (S.R i) (e.old k hk),e.unit k hk i hi];by_cases q:i=k
    ·rw[if_pos q,if_pos q.symm,q]
    ·rw[if_neg q,if_neg (fun w=>q w.symm),Int.zero_mul])]
  by_cases q:i<S.bound.length
  ·rw[sumN_one (i:=i) _ q (fun k hk hne=>if_neg hne),if_pos rfl]
  ·rw[sumN_zero _ (fun k hk=>if_neg (by omega)),low i (by omega) hi,Int.mul_zero]
 have nul:Nul n m S.R (fun j=>S.lead*v j-D*xV S n j):=fun i hi=>by
  rw[sumN_congr (g:=fun j=>S.lead*(S.R i j*v j) + -D*(S.R i j*xV S n j)) n (fun j hj=>by grind),sumN_add (fun j=>S.lead*(S.R i j*v j)) (fun j=>-D*(S.R i j*xV S n j)),sumN_mul,sumN_mul,h i hi,hx i hi];grind
 have sp:=span_free e nul hk;refine cancel e.lead (Eq.trans ?_ sp);rw[lsum_free,lsum_free,<-sumN_mul];refine sumN_congr n (fun c hc=>?_);by_cases q:c∈S.bound
 ·rw[if_pos q,if_pos q,Int.mul_zero]
 ·rw[if_neg q,if_neg q,xV_free q];grind
theorem col_total{l right:List Int}(hr:right.length=(pairsL l.length).length)(ln:Line l):sumN (fun j=>(vn (pairsL l.length).length (colV l right j):Int)) (wid l)<=30:=by
 have wdef:wid l=l.length+(clsL l).length:=rfl;rw[sumN_congr (g:=fun j=>sumN (fun r=>((colV l right j r).natAbs:Int)) (pairsL l.length).length) (wid l) (fun j hj=>vn_int (pairsL l.length).length (colV l right j) _),sumN_comm (fun r j=>((colV l right j r).natAbs:Int)) (wid l) (pairsL l.length).length];have hm:=pairs_few ln.n5;refine Int.le_trans (sumN_le (g:=fun _=>3*1) _ (fun r hr'=>?_)) ?_
 ·obtain⟨p,hp⟩:∃p,p=gt (pairsL l.length) (r:Int):=⟨_,rfl⟩
  have pm:p∈pairsL l.length:=by rw[hp];exact gt_mem _ (by omega) (by omega)
  obtain⟨h0,h1,h2⟩:=mem_pairs.1 pm;obtain⟨i0,i1,i2⟩:=ixI_mem (diff_mem ln pm);rw[sumN_congr (g:=fun j=>((1:Int)*(if j=p.i.toNat then 1 else 0)+1*(if j=p.j.toNat then 1 else 0))+1*(if j=(l.length+ixI (clsL l) (diffOf l p)).toNat then 1 else 0)) (wid l) (fun j hj=>by
   unfold colV;rw[R0_row hr ln hr' hj,<-hp,rowF_gt ln pm (by omega) (by omega)];generalize ixI (clsL l) (diffOf l p)=k at *;by_cases a:(j:Int)=l.length+k
   ·rw[if_pos a,if_neg (by omega),if_neg (by omega),if_pos (by omega)];rfl
   ·rw[if_neg a]
    by_cases b:(j:Int)=p.j
    ·rw[if_pos b,if_neg (by omega),if_pos (by omega),if_neg (by omega)];rfl
    ·rw[if_neg b]
     by_cases c:(j:Int)=p.i
     ·rw[if_pos c,if_pos (by omega),if_neg (by omega),if_neg (by omega)];rfl
     ·rw[if_neg c,if_neg (by omega),if_neg (by omega),if_neg (by omega)];rfl),
   sumN_add (fun j=>(1:Int)*(if j=p.i.toNat then 1 else 0)+1*(if j=p.j.toNat then 1 else 0)) (fun j=>(1:Int)*(if j=(l.length+ixI (clsL l) (diffOf l p)).toNat then 1 else 0)),
   sumN_add (fun j=>(1:Int)*(if j=p.i.toNat then 1 else 0)) (fun j=>(1:Int)*(if j=p.j.toNat then 1 else 0)),sumN_pick (fun _=>1) (by omega),sumN_pick (fun _=>1) (by omega),sumN_pick (fun _=>1) (by omega)]
  decide
 ·rw[sumN_mul]
  have:∀n,sumN (fun _=>(1:Int)) n=n:=fun n=>by
   induction n with
   |zero=>rfl
   |succ n ih=>show sumN _ n+1=_;rw[ih];omega
  rw[this];omega
theorem line_bnd{l right:List Int}(hr:right.length=(pairsL l.length).length)(ln:Line l):(SE l right).lead.natAbs<=59049/\(∀c x,c<wid l->c∉(SE l right).bound->(bV (SE l right) c x).natAbs<=59049)/\∀(v:Nat->Int) (D:Int),(∀p,p∈pairsL l.length->∀r,r<(pairsL l.length).length->gt (pairsL l.length) (r:Int)=p->sumN (fun j=>gt (rowF l p) (j:Int)*v j) (wid l)=D*gt right (r:Int))->∀i,i<(pairsL l.length).length->sumN (fun j=>(SE l right).R i j*v j) (wid l)=D*(SE l right).R i (wid l):=by
 have hA:∀j,j<wid l->vn (pairsL l.length).length (colV l right j)<=4:=fun j hj=>col_few hr ln hj
 have g0:Good (pairsL l.length).length (wid l) (colV l right) 4 (S0 l right) E 1:=Good.start (by omega);have f0:From2 (pairsL l.length).length (colV l right) (S0 l right) E:=⟨fun k hk=>absurd hk (Nat.not_lt_zero k),fun k _ _=>vn_unit _ k⟩;obtain⟨W,s,g,f⟩:=g0.run2 f0 hA (wid l) (Nat.le_refl _);have ech:Ech (pairsL l.length).length (SE l right) (wid l):=Ech.run rfl (show(1:Int)≠0 by decide) (wid l);have tot:=col_total hr ln;change Good _ _ _ _ (SE l right) W s at g;change From2 _ _ (SE l right) W at f;generalize SE l right=S at *;have ss:s=1\/s=-1:=g.sgn;have hl:S.lead.natAbs<=59049:=by
  have:=vol_diff (W:=W) (T:=fun k=>S.bound.getD k 0) ech.few ech.old (fun j k hj hk h=>ech.inj hj hk h) f.col f.one tot;rw[g.vol]at this;rcases ss with e|e<;>rw[e]at this<;>omega
 refine⟨hl,fun c x hc hf=>?_,fun v D hv i hi=>?_⟩
 ·by_cases q:x∈S.bound
  ·obtain⟨k,hk,rfl⟩:=mem_bound.1 q
   rw[bV_bound ech hf hk];have:=vol_diff (m:=(pairsL l.length).length) (W:=put W k (colV l right c)) (T:=fun i=>if i=k then c else S.bound.getD i 0) ech.few (fun i hi=>by
    by_cases w:i=k
    ·simp only[if_pos w];exact hc
    ·simp only[if_neg w];exact ech.old i hi) (fun i j hi hj h=>by
    by_cases w:i=k
    ·by_cases z:j=k
     ·omega
     ·simp only[if_pos w,if_neg z]at h
      exact absurd (mem_bound.2 ⟨j,hj,h.symm⟩) hf
    ·by_cases z:j=k
     ·simp only[if_neg w,if_pos z]at h
      exact absurd (mem_bound.2 ⟨i,hi,h⟩) hf
     ·simp only[if_neg w,if_neg z]at h
      exact ech.inj hi hj h) (fun i hi=>by
    unfold put;by_cases w:i=k
    ·simp only[if_pos w]
    ·simp only[if_neg w];exact f.col i hi) (fun i h1 h2=>by
    unfold put;rw[if_neg (by omega)];exact f.one i h1 h2) tot
   rw[g.val (by have:=ech.few;omega) (by omega)]at this;rcases ss with e|e<;>rw[e]at this<;>omega
  ·by_cases w:x=c
   ·rw[w,bV_self ech hf];exact hl
   ·rw[bV_free q w];decide
 ·refine g.out (fun r hr'=>?_) i hi
  have:=hv (gt (pairsL l.length) (r:Int)) (gt_mem _ (by omega) (by omega)) r hr' rfl;rw[show colV l right (wid l) r=gt right (r:Int)from R0_right hr hr',<-this];exact sumN_congr _ (fun j hj=>by show R0 l right r j*v j=_;rw[R0_row hr ln hr' hj])
