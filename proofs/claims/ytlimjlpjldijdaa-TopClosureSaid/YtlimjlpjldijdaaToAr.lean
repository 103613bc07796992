import Derived.Test.YtlimjlpjldijdaaToTr
import Derived.Test.YtlimjlpjldijdaaCyRe
import Derived.Test.YtlimjlpjldijdaaCyPd
import Derived.Test.YtlimjlpjldijdaaSymSlc
import Derived.Test.YtlimjlpjldijdaaCxM
import Derived.Test.YtlimjlpjldijdaaCyLT
set_option linter.unusedSimpArgs false
set_option linter.unusedVariables false
namespace Go.Proofs.Ytlimjlpjldijdaa
open Go.Sim
set_option maxRecDepth 100000
theorem guard3:Try.prog.eqGuardType Try.prog.depth 86=false:=by kernel_rfl
theorem eq3(a b c:Int):eqA Try.prog 30 86 (.agg #[.int .i64 a,.int .i64 b,.int .i64 c]) (.agg #[.int .i64 a,.int .i64 b,.int .i64 c])=some true:=by
 have h3:Try.prog.underlying 3=some (.int .i64):=by kernel_rfl
 have i3:isAggB Try.prog 3=some false:=by kernel_rfl
 have hs:sizeT Try.prog 3=some 1:=by kernel_rfl
 have hu:Try.prog.underlying 86=some (.array 3 3):=by kernel_rfl
 have e3:∀x:Int,eqA Try.prog 29 3 (.int .i64 x) (.int .i64 x)=some true:=by
  intro x;unfold eqA;rw[h3];simp
 unfold eqA;rw[hu];simp only[hs,show List.range 3=[0,1,2]from rfl,List.foldr,partA,i3,Nat.zero_mul,List.getElem?_cons_zero,List.getElem?_cons_succ,e3]
variable{F:Prims}{call head arith cmp scmp bnot bsame conv neg imax imin ofNat slen place inR nz geZ rd wr push next mkOK nat zeros sadd eqAgg cut slc sslc strAt part app cpy putAt fresh lowered bump wrote addN lt ne fpAll fpApp brk yn rng mget mput mnew bytes clr mrng ment:_}(hA:AP F ⟨call,head,arith,cmp,scmp,bnot,bsame,conv,neg,imax,imin,ofNat,slen,place,inR,nz,geZ,rd,wr,push,next,mkOK,nat,zeros,sadd,eqAgg,cut,slc,sslc,strAt,part,app,cpy,putAt,fresh,lowered,bump,wrote,addN,lt,ne,fpAll,fpApp,brk,yn,rng,mget,mput,mnew,bytes,clr,mrng,ment⟩)
include hA
theorem same_loop{h0:AHeap}(hlow:h0.low<=h0.next){a a':Option Addr}{n c c':Nat}{l:List Ck}(hl:Cs h0 a n l)(hl':Cs h0 a' n l)(hn:n<=1000){Q:Exit->SS->Prop}
  (hok:∀h' kn,Ext h0 h'->Q (.exit 0) ⟨[],kn,[],h'⟩) :
  ∀(m:Nat) (i:Int) (h:AHeap),(n-i).toNat<=m->0<=i->i<=n->Ext h0 h->
   head 25 4 0 ⟨[(0,.slice a n c),(1,.slice a' n c'),(5,.int .i64 i)],0,[],h⟩ Q:=by
 refine upTo (fun m ih=>?_);intro i h hm i0 i1 he;by_cases ci:i<n
 rotate_left
 ·refine hA.roundR Try.func25 r25_ok (zc ?_)
  refine br (i<n) (by rw[e_lss hA,e_ofNat hA]) (fun c1=>absurd c1 ci) (fun c1=>?_)<;>refine zc ?_;exact hok h _ he
 obtain⟨m,rfl⟩:∃k,m=k+1:=⟨m-1,by omega⟩
 replace ih:=ih m rfl
 obtain⟨h9,hh9⟩:∃z,z=bump h 9:=⟨_,rfl⟩;have e9:Ext h0 h9:=by rw[hh9];exact he.trans (ext_bump hA _ _)
 obtain⟨b,o,x,y,z,rfl,_,hg,r1⟩:=cs_at (hl.ext e9) (i:=i) i0 ci;obtain⟨b',o',x',y',z',rfl,_,hg',q1⟩:=cs_at (hl'.ext e9) (i:=i) i0 ci;rw[hg]at hg';cases hg';have r2:=rd_ok hA r1;have q2:=rd_ok hA q1;refine hA.roundR Try.func25 r25_ok (zc ?_);refine br (i<n) (by rw[e_lss hA,e_ofNat hA]) (fun c1=>?_) (fun c1=>absurd ci c1)<;>refine zc ?_;rw[<-hh9];refine zq ?_;rw[e_eqAgg hA];refine⟨guard3,true,eq3 x y z,?_⟩;refine zc ?_;refine br False (by rw[e_bnot hA];rfl) (fun q=>q.elim) (fun _=>?_)<;>refine zc ?_;rw[add64 hA (by omega) (by omega)];exact ih (i+1) h9 (by omega) (by omega) (by omega) e9
theorem same_ok{h:AHeap}(hlow:h.low<=h.next){a a':Option Addr}{n n' c c':Nat}{l:List Ck}(hl:Cs h a n l)(hl':Cs h a' n' l)(hn:n<=1000){Q:Value->AHeap->Prop}
  (hQ:∀h',Ext h h'->Q (.bool true) h'):call 25 [.slice a n c,.slice a' n' c'] h Q:=by
 have hlen:=hl.len;have hlen':=hl'.len;obtain rfl:n=n':=by omega
 refine hA.bodyR Try.func25 r25_ok (hA.alike _ _ _ rfl) hlow (zc ?_);refine br ((n:Int)≠n) (by rw[e_neq hA,e_ofNat hA]) (fun c1=>absurd rfl c1) (fun c1=>?_)<;>refine zc ?_;refine same_loop hA hlow hl hl' hn (fun h' kn x'=>?_) n 0 h (by omega) (by omega) (by omega) (.refl h);refine zc ?_;exact hQ h' x'
end Go.Proofs.Ytlimjlpjldijdaa
namespace Go.Proofs.Ytlimjlpjldijdaa
open Go.Sim
set_option maxRecDepth 100000
variable{F:Prims}{call head arith cmp scmp bnot bsame conv neg imax imin ofNat slen place inR nz geZ rd wr push next mkOK nat zeros sadd eqAgg cut slc sslc strAt part app cpy putAt fresh lowered bump wrote addN lt ne fpAll fpApp brk yn rng mget mput mnew bytes clr mrng ment:_}(hA:AP F ⟨call,head,arith,cmp,scmp,bnot,bsame,conv,neg,imax,imin,ofNat,slen,place,inR,nz,geZ,rd,wr,push,next,mkOK,nat,zeros,sadd,eqAgg,cut,slc,sslc,strAt,part,app,cpy,putAt,fresh,lowered,bump,wrote,addN,lt,ne,fpAll,fpApp,brk,yn,rng,mget,mput,mnew,bytes,clr,mrng,ment⟩)
include hA
theorem kept_loop{h0:AHeap}(hlow0:h0.low<=h0.next){a a':Option Addr}{n n' c c':Nat}{l m:List Vk}(hl:Vs h0 a n l)(hm:Vs h0 a' n' m)(hn:n<=1000)(hn':n'<=1000){R:Prop}(hR:∀{C:List Int} {p q:Ck},PhO l C p 0->PhO m C q 0->p=q)
  {sa:Option Addr} {ns sc:Nat} {ga:Option Addr} {k gc:Nat} {hs:List Hd} {g:List (List Int)} (hg:GrR iC 1 h0 ga k hs g) (hk:k<=1000) (gl:∀r∈g,r.length<=1000) {Q:Exit->SS->Prop}
  (hQ:∀h',Ext h0 h'->Q (.exit 0) ⟨[(0,.slice a n c),(1,.slice a' n' c'),(2,.slice sa ns sc)],0,[],h'⟩) :
  ∀(j:Nat) (i:Int) (h:AHeap),(k-i).toNat<=j->0<=i->i<=k->Ext h0 h->
   head 8 10 0 ⟨[(0,.slice a n c),(1,.slice a' n' c'),(2,.slice sa ns sc),(7,.slice ga k gc),(15,.int .i64 i)],0,[],h⟩ Q:=by
 refine upTo (fun j ih=>?_);intro i h hm' i0 i1 he;by_cases ci:i<k
 rotate_left
 ·refine hA.roundR Try.func8 r8_ok (zc ?_)
  refine br (i<k) (by rw[e_lss hA,e_ofNat hA]) (fun c1=>absurd c1 ci) (fun c1=>?_)<;>refine zc ?_;exact hQ h he
 obtain⟨j,rfl⟩:∃k,j=k+1:=⟨j-1,by omega⟩
 replace ih:=ih j rfl
 have e2:arith .add .i64 i 1=i+1:=add64 hA (by omega) (by omega);have G1:=hg.ext he;obtain⟨gb,go,rfl,_⟩:=G1.some (by omega);have d1:=gr_head hA G1 i0 ci;have R1:=G1.row i i0 ci;have g8:(gt hs i).n<=1000:=by rw[<-R1.len];exact gl _ (gt_mem g i0 (by have:=hg.len;omega))
 have D2:∀h',Ext h0 h'->rd h' gb (place go i 1) 1 [.slice (gt hs i).a (gt hs i).n (gt hs i).c]:=fun h' x=>gr_head hA (hg.ext x) i0 ci
 obtain⟨⟨va,vn,vc⟩,hv⟩:∃z,z=gt hs i:=⟨_,rfl⟩;rw[<-hv]at d1 R1 g8 D2;simp only at d1 R1 g8 D2;refine hA.roundR Try.func8 r8_ok (zc ?_);refine br (i<k) (by rw[e_lss hA,e_ofNat hA]) (fun c1=>?_) (fun c1=>absurd ci c1)<;>refine zc ?_;refine zq ?_;refine Phase_ok hA (he.lowOK hlow0) (hl.ext he) hn R1 g8 (fun h1 p e po x1=>⟨_,_,_,_,rfl,?_⟩);have y1:=he.trans x1;have d2:=D2 _ y1;refine zq ?_;refine Phase_ok hA (y1.lowOK hlow0) (hm.ext y1) hn' (R1.ext x1) g8 (fun h2 q f qo x2=>⟨_,_,_,_,rfl,?_⟩);have y2:=y1.trans x2;refine zc ?_;have nx:=ih (i+1) h2 (by omega) (by omega) (by omega) y2;refine br (e=0) (by rw[e_eql hA]) (fun c2=>?_) (fun c2=>?_)<;>refine zc ?_
 rotate_left
 ·rw[e2];exact nx
 refine br (f=0) (by rw[e_eql hA]) (fun c3=>?_) (fun c3=>?_)<;>refine zc ?_
 rotate_left
 ·rw[e2];exact nx
 subst c2 c3;obtain rfl:=hR po qo;obtain⟨rr,hr1,hr2⟩:=eqC p.a p.b p.d p.a p.b p.d;obtain rfl:rr=true:=hr2.2 ⟨rfl,rfl,rfl⟩;rw[e_eqAgg hA];refine⟨guardC,true,hr1,?_⟩;refine zc ?_;refine br False (by rw[e_bnot hA];rfl) (fun q=>q.elim) (fun _=>?_)<;>refine zc ?_;rw[e2];exact nx
theorem kept_ok(hW:LW F){h:AHeap}(hlow:h.low<=h.next){a a':Option Addr}{n n' c c':Nat}{l m:List Vk}(hl:Vs h a n l)(hm:Vs h a' n' m)(ke:CkR l 0){G:Int->Gz}(act:ActL G l m)(hG:∀x,0<=x->x<8->(G x).nz){sa:Option Addr}{ns sc:Nat}{C:List Int}(hS:Rows iC 1 h sa ns C)(hns:ns<=1000){Q:Value->AHeap->Prop}(hQ:∀h',Ext h h'->Q (.bool true) h') :
  call 8 [.slice a n c,.slice a' n' c',.slice sa ns sc] h Q:=by
 have hlen:=hl.len;have hlen':=hm.len;have km:=act.ck ke;have hn:n<=1000:=by have:=ke.ok0.1;omega
 have hn':n'<=1000:=by have:=km.ok0.1;omega
 have gT:∀h,AHeap.low h<=h.next->True:=fun _ _=>trivial
 refine hA.bodyR Try.func8 r8_ok (hA.alike _ _ _ rfl) hlow (zc ?_);refine rclcheck_ok hA hlow hm hn' (fun e h1 ke' x1=>⟨_,rfl,?_⟩);obtain rfl:=ke'.uniq km;refine zc ?_;refine br False (by rw[e_neq hA];rfl) (fun q=>q.elim) (fun _=>?_)<;>refine zc ?_;refine bas_a hA hW (x1.lowOK hlow) (hl.ext x1) hn (fun g f h2 ga k gc hs bo rg sg lg x2=>⟨_,_,_,_,rfl,?_⟩);have y2:=x1.trans x2;refine zc ?_;refine bas_a hA hW (y2.lowOK hlow) (hm.ext y2) hn' (fun g' f' h3 ga' k' gc' hs' bo' rg' sg' lg' x3=>⟨_,_,_,_,rfl,?_⟩);have y3:=y2.trans x3;refine zc ?_;cases bo with
 |bad h0 kf=>exact absurd (kf.uniq ke) h0
 | @ok t pk _ hp=>
 cases bo' with
 |bad h0 kf=>exact absurd (kf.uniq km) h0
 | @ok t' pk' _ hp'=>
 obtain⟨rfl,rfl⟩:=(tree_pr act.pr hp).uniq hp';rw[bas_pr act.pr]at rg';refine trips_ok hA (y3.lowOK hlow) (hl.ext y3) ke (fun h4 ta tk tc ht tk1 x4=>⟨_,_,_,_,rfl,?_⟩);have y4:=y3.trans x4;refine zc ?_;refine trips_ok hA (y4.lowOK hlow) (hm.ext y4) km (fun h5 ta' tk' tc' ht' tk1' x5=>⟨_,_,_,_,rfl,?_⟩);have y5:=y4.trans x5;rw[act.pr]at ht';refine zc ?_;refine br False (by rw[e_neq hA];rfl) (fun q=>q.elim) (fun _=>?_)<;>refine zc ?_;refine br False (by rw[e_neq hA];rfl) (fun q=>q.elim) (fun _=>?_)<;>refine zc ?_;refine br False (by rw[e_neq hA];rfl) (fun q=>q.elim) (fun _=>?_)<;>refine zc ?_;refine br False (by rw[e_neq hA];rfl) (fun q=>q.elim) (fun _=>?_)<;>refine zc ?_;refine slists_ok hA (y5.lowOK hlow) (rg.ext ((x3.trans x4).trans x5)) (rg'.ext (x4.trans x5)) (by omega) lg (fun h6 x6=>⟨_,rfl,?_⟩);have y6:=y5.trans x6;refine zc ?_;refine br False (by rw[e_bnot hA];rfl) (fun q=>q.elim) (fun _=>?_)<;>refine zc ?_;refine same_ok hA (y6.lowOK hlow) (ht.ext (x5.trans x6)) (ht'.ext x6) (by omega) (fun h7 x7=>⟨_,rfl,?_⟩);have y7:=y6.trans x7;refine zc ?_;refine br False (by rw[e_bnot hA];rfl) (fun q=>q.elim) (fun _=>?_)<;>refine zc ?_;refine kept_loop hA (h0:=h7) (y7.lowOK hlow) (hl.ext y7) (hm.ext y7) hn hn' (R:=True) (fun p q=>act.phase hG ke km p q) (rg.ext ((((x3.trans x4).trans x5).trans x6).trans x7)) sg lg (fun h8 x8=>?_) k 0 h7 (by omega) (by omega) (by omega) (.refl h7);have y8:=y7.trans x8;refine zc ?_;refine Coefs_ok hA hW (y8.lowOK hlow) (hl.ext y8) hn (hS.ext y8) hns (fun h9 ca k9 cc x e co rc kc x9=>⟨_,_,_,_,rfl,?_⟩);have y9:=y8.trans x9;refine zc ?_;refine Coefs_ok hA hW (y9.lowOK hlow) (hm.ext y9) hn' (hS.ext y9) hns (fun h10 ca' k10 cc' x' e' co' rc' kc' x10=>⟨_,_,_,_,rfl,?_⟩);have y10:=y9.trans x10;refine zc ?_;obtain⟨rfl,rfl⟩:=(co_pr act.pr ke km co).uniq co';refine br False (by rw[e_neq hA];simp) (fun q=>q.elim) (fun _=>?_)<;>refine zc ?_;refine sints_ok hA (y10.lowOK hlow) (rc.ext x10) rc' (by omega) (fun h11 x11=>⟨_,rfl,?_⟩);have y11:=y10.trans x11;refine zc ?_;refine br False (by rw[e_bnot hA];rfl) (fun q=>q.elim) (fun _=>?_)<;>refine zc ?_;refine Reckon_ok hA hW (y11.lowOK hlow) (hl.ext y11) hn (hS.ext y11) hns (fun h12 p f po x12=>⟨_,_,_,_,rfl,?_⟩);have y12:=y11.trans x12;refine zc ?_;refine Reckon_ok hA hW (y12.lowOK hlow) (hm.ext y12) hn' (hS.ext y12) hns (fun h13 q f' qo x13=>⟨_,_,_,_,rfl,?_⟩);have y13:=y12.trans x13;refine zc ?_;refine Phase_ok hA (y13.lowOK hlow) (hm.ext y13) hn' (hS.ext y13) hns (fun h14 r f2 ro x14=>⟨_,_,_,_,rfl,?_⟩);have y14:=y13.trans x14;refine zc ?_;refine br (f≠0) (by rw[e_neq hA]) (fun c1=>?_) (fun c1=>?_)<;>refine zc ?_
 ·refine br (f'≠0) (by rw[e_neq hA]) (fun d1=>?_) (fun d1=>?_)<;>refine zc ?_
  ·exact hQ h14 y14
  refine br (f2≠0) (by rw[e_neq hA]) (fun d2=>?_) (fun d2=>?_)<;>refine zc ?_
  ·exact hQ h14 y14
  obtain rfl:=product (by rw[show f2=0 by omega]at ro;exact ro) (by rw[show f'=0 by omega]at qo;exact qo);obtain⟨rr,hr1,hr2⟩:=eqC r.a r.b r.d r.a r.b r.d;obtain rfl:rr=true:=hr2.2 ⟨rfl,rfl,rfl⟩;rw[e_eqAgg hA];refine⟨guardC,true,hr1,?_⟩;refine zc ?_;exact hQ h14 y14
 refine br (f'≠0) (by rw[e_neq hA]) (fun c2=>?_) (fun c2=>?_)<;>refine zc ?_
 ·refine br (f'≠0) (by rw[e_neq hA]) (fun d1=>?_) (fun d1=>?_)<;>refine zc ?_
  ·exact hQ h14 y14
  refine br (f2≠0) (by rw[e_neq hA]) (fun d2=>?_) (fun d2=>?_)<;>refine zc ?_
  ·exact hQ h14 y14
  obtain rfl:=product (by rw[show f2=0 by omega]at ro;exact ro) (by rw[show f'=0 by omega]at qo;exact qo);obtain⟨rr,hr1,hr2⟩:=eqC r.a r.b r.d r.a r.b r.d;obtain rfl:rr=true:=hr2.2 ⟨rfl,rfl,rfl⟩;rw[e_eqAgg hA];refine⟨guardC,true,hr1,?_⟩;refine zc ?_;exact hQ h14 y14
 obtain rfl:=act.reckon hG ke km (by rw[show f=0 by omega]at po;exact po) (by rw[show f'=0 by omega]at qo;exact qo);obtain⟨rr,hr1,hr2⟩:=eqC p.a p.b p.d p.a p.b p.d;obtain rfl:rr=true:=hr2.2 ⟨rfl,rfl,rfl⟩;rw[e_eqAgg hA];refine⟨guardC,true,hr1,?_⟩;refine zc ?_;refine br (f'≠0) (by rw[e_neq hA]) (fun d1=>?_) (fun d1=>?_)<;>refine zc ?_
 ·exact hQ h14 y14
 refine br (f2≠0) (by rw[e_neq hA]) (fun d2=>?_) (fun d2=>?_)<;>refine zc ?_
 ·exact hQ h14 y14
 obtain rfl:=product (by rw[show f2=0 by omega]at ro;exact ro) (by rw[show f'=0 by omega]at qo;exact qo);obtain⟨rr,hr1,hr2⟩:=eqC r.a r.b r.d r.a r.b r.d;obtain rfl:rr=true:=hr2.2 ⟨rfl,rfl,rfl⟩;rw[e_eqAgg hA];refine⟨guardC,true,hr1,?_⟩;refine zc ?_;exact hQ h14 y14
end Go.Proofs.Ytlimjlpjldijdaa
namespace Go.Proofs.Ytlimjlpjldijdaa
open Go.Sim
set_option maxRecDepth 100000
variable{F:Prims}{call head arith cmp scmp bnot bsame conv neg imax imin ofNat slen place inR nz geZ rd wr push next mkOK nat zeros sadd eqAgg cut slc sslc strAt part app cpy putAt fresh lowered bump wrote addN lt ne fpAll fpApp brk yn rng mget mput mnew bytes clr mrng ment:_}(hA:AP F ⟨call,head,arith,cmp,scmp,bnot,bsame,conv,neg,imax,imin,ofNat,slen,place,inR,nz,geZ,rd,wr,push,next,mkOK,nat,zeros,sadd,eqAgg,cut,slc,sslc,strAt,part,app,cpy,putAt,fresh,lowered,bump,wrote,addN,lt,ne,fpAll,fpApp,brk,yn,rng,mget,mput,mnew,bytes,clr,mrng,ment⟩)
include hA
theorem slc_lo'{t:TypeId}{e es:Nat}(hT:SliceT Try.prog t e es){a:Option Addr}{n c:Nat}(hc:c<slack)(hnc:n<=c){k:IntKind}{i:Int}(i0:0<=i)(i1:i<n){C:Option Addr->Nat->Nat->Prop}
  (h:∀a' n' c',a'=a.map (aadd · (i.toNat*es))->n'=n-i.toNat->c'=c-i.toNat->C a' n' c'):slc t (.slice a n c) (some (.int k i)) none none C:=by
 have e_slc:slc t (.slice a n c) (some (.int k i)) none none C = ∃a' n' c',sliceA Try.prog t (.slice a n c) (some (.int k i)) none none=some (.slice a' n' c')/\C a' n' c':=by have:=hA.eq;injections;subst_vars;rfl
 rw[e_slc];refine⟨_,_,_,?_,h _ _ _ rfl rfl rfl⟩;have hcl:capLow c=c:=Nat.mod_eq_of_lt hc;unfold sliceA;simp only[hT.und,hT.size];unfold sliceS;simp only[boundMx,boundHi,boundLo,bound];rw[if_pos ⟨by omega,by omega⟩];simp only[];rw[hcl,ble_true hnc,blt_true hc,nbeq (show c≠i.toNat by omega)];simp
theorem appNewD_ok{X:AHeap}{i:Nat}{x:Int}{n2 c2:Nat}{a2:Option Addr}{r:List Int}(ho:Own X i 1 [.int .i64 x])(hi:i<X.next)(hs:Cells X a2 n2 1 (r.flatMap iC))(h0:0<n2)(hn:n2<=1000){C:Option Addr->Nat->Nat->AHeap->Prop}
  (hC:∀b' n' c' h',n'=1+n2->Rows iC 1 (lowered X h') (some ⟨b',0,none⟩) n' (x :: r)->(∀h0,Ext h0 X->h0.low<=h0.next->Ext h0 (lowered X h'))->wrote X h'=false->C (some ⟨b',0,none⟩) n' c' h') :
  app [25,25] [.slice (some ⟨i,0,none⟩) 1 1,.slice a2 n2 c2] (fresh X) C:=by
 simp only[e_lowered hA]at hC;rw[e_fresh hA,e_app hA];have rl:r.length=n2:=by have:=hs.length;rw[flatE_len iC_len]at this;omega
 obtain⟨c9,a9⟩:=append_full (P:=Try.prog) (t2:=25) TI1 TI1.und (n:=1) (h:=X.freshed) ho hi (by rfl) (by omega) (hs.ext (Ext.freshed _)) (c2:=c2) (by rfl) (all_flat iC_ok _) (by omega) (by omega);refine⟨_,_,_,_,a9,hC _ _ _ _ rfl ?_ (fun h0 x0 l0=>?_) ?_⟩
 ·have o:Own ((X.freshed.push 1 ([.int .i64 x]++r.flatMap iC)).lowered X.low) X.freshed.next 1 ((x :: r).flatMap iC):=Own.push X.freshed 1 ((x :: r).flatMap iC)
  have:=Own.rows o iC_len (by omega) (by show X.next<X.next+1;omega);rw[show(x :: r).length=1+n2 by simp;omega]at this;exact this
 ·exact Ext.lower' ((x0.trans (Ext.freshed _)).trans (.push _ _ _)) x0 l0
 ·refine wrote_no hA ?_
  rw[e_fresh hA];exact .push _ _ _
theorem around_ok{h:AHeap}(hlow:h.low<=h.next){a:Option Addr}{n c:Nat}{l:List Vk}(hl:Vs h a n l)(ke:CkR l 0){sa:Option Addr}{ns sc:Nat}{C:List Int}(hS:Rows iC 1 h sa ns C)(hns:ns<=1000)(hsc:ns<=sc)(hsm:sc<=maxLen){Q:Value->AHeap->Prop}(hQ:∀h',Ext h h'->Q (.bool true) h') :
  call 10 [.slice a n c,.slice sa ns sc] h Q:=by
 have hlen:=hl.len;have slen:=hS.len;have hn:n<=1000:=by have:=ke.ok0.1;omega
 refine hA.bodyR Try.func10 r10_ok (hA.alike _ _ _ rfl) hlow (zc ?_);refine rcircle_ok hA hlow hS hns (fun r h1 hr x1=>⟨_,rfl,?_⟩);refine zc ?_;refine br (r=false) (by rw[e_bnot hA];cases r<;>rfl) (fun c1=>?_) (fun c1=>?_)<;>refine zc ?_
 ·exact hQ h1 x1
 refine br ((ns:Int)<4) (by rw[e_lss hA,e_ofNat hA]) (fun c2=>?_) (fun c2=>?_)<;>refine zc ?_
 ·exact hQ h1 x1
 refine Phase_ok hA (x1.lowOK hlow) (hl.ext x1) hn (hS.ext x1) hns (fun h2 p e po x2=>⟨_,_,_,_,rfl,?_⟩);have y2:=x1.trans x2;refine zc ?_;have hcl:capLow sc=sc:=Nat.mod_eq_of_lt (by unfold slack;unfold maxLen at hsm;omega);refine⟨by rw[e_cut hA,hcl];omega,?_⟩;refine zc ?_;have n3:nat 3=3:=by rw[e_nat hA];rfl
 rw[n3];have r3:Rows iC 1 h2 sa 3 (C.take 3):=by
  have:=(hS.ext y2).cells.head (m:=3) (by omega);rw[show 3*1=3 from rfl]at this;refine⟨?_,iC_len,by omega⟩;have ft:=flat_takeN iC_len C 3;rw[show 3*1=3 from rfl]at ft;rw[<-ft];exact this
 refine Phase_ok hA (y2.lowOK hlow) (hl.ext y2) hn r3 (by omega) (fun h3 q f qo x3=>⟨_,_,_,_,rfl,?_⟩);have y3:=y2.trans x3;refine zc ?_;obtain⟨h9,hh9⟩:∃z,z=bump h3 15:=⟨_,rfl⟩;have e9:Ext h3 h9:=by rw[hh9];exact ext_bump hA _ _
 have y9:=y3.trans e9;obtain⟨b,o,rfl,lb,w9⟩:=(hS.ext y9).at (i:=0) (by omega) (by omega);obtain⟨c0,hc0⟩:∃z,z=gt C 0:=⟨_,rfl⟩;have d9:rd h9 b (place o 0 1) 1 [.int .i64 c0]:=by rw[hc0];exact rd_ok hA (w9 0 1 (by omega) (by omega))
 rw[<-hh9];refine zq ?_;refine slc_lo' hA TI1 (by unfold slack;unfold maxLen at hsm;omega) hsc (by omega) (by omega) (fun a2 n2 c2' ha2 hn2 _=>?_);refine zc ?_;have e4:addN (next h3) 4=h3.next+4:=by rw[e_addN hA,e_next hA]
 have n9:h9.next=h3.next+15:=by rw[hh9,e_bump hA];rfl
 rw[e4];obtain⟨iP,hiP⟩:∃z,z=h3.next+4:=⟨_,rfl⟩;rw[<-hiP];obtain⟨xP,oP,nP,gP⟩:=put_ext hA e9 (i:=iP) (es:=1) (by omega) [Value.int .i64 c0];generalize putAt h9 iP 1 [Value.int .i64 c0]=hP at *;have yP:=y3.trans xP;have hcP:=(hS.ext yP).cells.part (i:=2) (m:=n2) (by omega);have ft:=flat_dropN iC_len C 2;rw[ft,List.take_of_length_le (by rw[flatE_len iC_len,List.length_drop];omega)]at hcP;rw[show Option.map (fun x=>aadd x (2*1)) (some (⟨b,o,none⟩:Addr))=a2 from ha2.symm]at hcP;refine appNewD_ok hA oP (by omega) hcP (by omega) (by omega) (fun b' n' c' hz hn' rz kz wz=>?_);obtain⟨hX,hhX⟩:∃z,z=lowered hP hz:=⟨_,rfl⟩;have xX:Ext h3 hX:=by rw[hhX];exact kz h3 xP (y3.lowOK hlow)
 rw[<-hhX]at rz;have yX:=y3.trans xX;refine zc ?_;rw[<-hhX];refine Phase_ok hA (low_fresh hA hX) (hl.ext (yX.trans (ext_fresh hA hX))) hn (rz.ext (ext_fresh hA hX)) (by omega) (fun h4 w g wo x4=>⟨_,_,_,_,rfl,?_⟩);obtain⟨hY,hhY⟩:∃z,z=lowered hX h4:=⟨_,rfl⟩;have xY:Ext h hY:=by rw[hhY];exact ext_low hA hlow yX x4
 refine zc ?_;refine⟨wz,wrote_no hA x4,?_⟩;refine brk_ok hA ?_;refine zc ?_;rw[<-hhY];refine br (e≠0) (by rw[e_neq hA]) (fun c3=>?_) (fun c3=>?_)<;>refine zc ?_
 ·exact hQ hY xY
 refine br (f≠0) (by rw[e_neq hA]) (fun c4=>?_) (fun c4=>?_)<;>refine zc ?_
 ·exact hQ hY xY
 refine br (g≠0) (by rw[e_neq hA]) (fun c5=>?_) (fun c5=>?_)<;>refine zc ?_
 ·exact hQ hY xY
 obtain rfl:e=0:=by omega
 obtain rfl:f=0:=by omega
 obtain rfl:g=0:=by omega
 refine cmul_is hA (xY.lowOK hlow) qo.ray wo.ray (fun h5 ht x5=>⟨_,_,_,_,rfl,?_⟩) (fun k h5 hk hkz ht hry x5=>⟨_,_,_,_,rfl,?_⟩)
 ·refine zc ?_
  refine br True (by rw[e_neq hA];rfl) (fun _=>?_) (fun q=>absurd trivial q)<;>refine zc ?_;exact hQ h5 (xY.trans x5)
 have y5:=xY.trans x5;refine zc ?_;refine br False (by rw[e_neq hA];rfl) (fun q=>q.elim) (fun _=>?_)<;>refine zc ?_;refine cray_is hA (y5.lowOK hlow) hk hkz (fun y h6 hy x6=>⟨_,_,_,_,rfl,?_⟩);have y6:=y5.trans x6;rw[<-hy]at ht hry;have yp:y=p:=by
  obtain⟨a1,a2,a3,r,rfl⟩:∃a1 a2 a3 r,C=a1 :: a2 :: a3 :: r:=by
   match C,slen with
   | [],sl=>simp at sl;omega
   | [_],sl=>simp at sl;omega
   | [_,_],sl=>simp at sl;omega
   |a1 :: a2 :: a3 :: r,_=>exact⟨a1,a2,a3,r,rfl⟩
  have:c0=a1:=hc0;rw[this]at wo;exact around po qo wo hry (turn_par qo.ray.nz wo.ray.nz ht)
 subst yp;refine zc ?_;refine br True (by rw[e_eql hA];rfl) (fun _=>?_) (fun q=>absurd trivial q)<;>refine zc ?_;obtain⟨rr,hr1,hr2⟩:=eqC y.a y.b y.d y.a y.b y.d;obtain rfl:rr=true:=hr2.2 ⟨rfl,rfl,rfl⟩;rw[e_eqAgg hA];refine⟨guardC,true,hr1,?_⟩;refine zc ?_;refine rccheck_ok hA (y6.lowOK hlow) (fun e h7 ke' x7=>⟨_,rfl,?_⟩);refine zc ?_;have e0:e=0:=by
  rcases ke' with ⟨z,_⟩|⟨_,z⟩
  ·exact z
  ·exact absurd hry.ok z
 rw[e_eql hA,show decide (e=0)=true by simp[e0]];exact hQ h7 (y6.trans x7)
