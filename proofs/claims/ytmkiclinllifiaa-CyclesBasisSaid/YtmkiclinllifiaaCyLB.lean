import Derived.Test.YtmkiclinllifiaaCyCb
set_option linter.unusedSimpArgs false
set_option linter.unusedVariables false
namespace Go.Proofs.Ytmkiclinllifiaa
open Go.Sim
set_option maxRecDepth 100000
theorem gt_injG{α:Type}[Inhabited α]{c:List α}(h:c.Nodup){i j:Int}(i0:0<=i)(i1:i<c.length)(j0:0<=j)(j1:j<c.length)(e:gt c i=gt c j):i=j:=by
 obtain⟨i',rfl⟩:∃i':Nat,i=i':=⟨i.toNat,by omega⟩;obtain⟨j',rfl⟩:∃j':Nat,j=j':=⟨j.toNat,by omega⟩;have hi:i'<c.length:=by omega
 have hj:j'<c.length:=by omega
 have gi:gt c (i':Int)=c[i']:=by unfold gt;simp[List.getElem?_eq_getElem hi]
 have gj:gt c (j':Int)=c[j']:=by unfold gt;simp[List.getElem?_eq_getElem hj]
 rw[gi,gj]at e;rcases Nat.lt_trichotomy i' j' with q|q|q
 ·exact absurd e (List.pairwise_iff_getElem.1 h i' j' hi hj q)
 ·rw[q]
 ·exact absurd e.symm (List.pairwise_iff_getElem.1 h j' i' hj hi q)
variable{F:Prims}{call head arith d0 e0 bnot g0 k0 l0 m0 o0 ofNat q0 place t0 nz u0 rd wr v0 next w0 x0 y0 z0 d1 g1 l1 m1 n1 o1 s1 t1 v1 w1 y1 bump z1 addN lt ne d2 f2 g2 yn i2 j2 k2 l2 m2 n2 o2 t2:_}(hA:AP F ⟨call,head,arith,d0,e0,bnot,g0,k0,l0,m0,o0,ofNat,q0,place,t0,nz,u0,rd,wr,v0,next,w0,x0,y0,z0,d1,g1,l1,m1,n1,o1,s1,t1,v1,w1,y1,bump,z1,addN,lt,ne,d2,f2,g2,yn,i2,j2,k2,l2,m2,n2,o2,t2⟩)
include hA
theorem bs_loop0{h0:AHeap}(hlow0:h0.low<=h0.next){a:Option Addr}{n c:Nat}{l:List Vk}(hl:Vs h0 a n l)(hn:n<=1000){Rf:Int->Bool}(hR:∀x,Rf x=true↔stS l x){a4 a7 a9 a11:Option Addr}{n4 c4 n7 c7 n9 c9 n11 c11:Nat}{x5:Int}{Q:Exit->SS->Prop}
  (hQ:∀h' s,s=cntR Rf 8->Ext h0 h'->Q (.exit 0) ⟨[(0,.slice a n c),(3,.bool true),(4,.slice a4 n4 c4),(5,.int .i64 x5),(6,.int .i64 0),(7,.slice a7 n7 c7),(8,.int .i64 0),(9,.slice a9 n9 c9),(10,.int .i64 0),(11,.slice a11 n11 c11),(12,.int .i64 s)],0,[],h'⟩) :
  ∀(m k:Nat) (i s:Int) (h:AHeap),i=k->8-k<=m->k<=8->s=cntR Rf k->Ext h0 h->
   head 5 10 0 ⟨[(0,.slice a n c),(3,.bool true),(4,.slice a4 n4 c4),(5,.int .i64 x5),(6,.int .i64 0),(7,.slice a7 n7 c7),(8,.int .i64 0),(9,.slice a9 n9 c9),(10,.int .i64 0),(11,.slice a11 n11 c11),(12,.int .i64 s),(13,.int .i64 i)],0,[],h⟩ Q:=by
 refine upTo (fun m ih=>?_);intro k i s h hi hm k1 hs he;by_cases ci:k<8
 rotate_left
 ·obtain rfl:k=8:=by omega
  refine hA.roundR Try.func5 r5_ok (zc ?_);refine br (i<8) (by rw[e_lss hA]) (fun c1=>by omega) (fun c1=>?_)<;>refine zc ?_;exact hQ h s hs he
 obtain⟨m,rfl⟩:∃k,m=k+1:=⟨m-1,by omega⟩
 replace ih:=ih m rfl
 have e2:arith .add .i64 i 1=i+1:=add64 hA (by omega) (by omega);have bd:=cntR_bd Rf k;have nx:cntR Rf (k+1)=s+(if Rf i=true then 1 else 0):=by rw[hs,hi];rfl
 refine hA.roundR Try.func5 r5_ok (zc ?_);refine br (i<8) (by rw[e_lss hA]) (fun c1=>?_) (fun c1=>by omega)<;>refine zc ?_;refine in_st hA (he.lowOK hlow0) (hl.ext he) hn (fun r h1 hr x1=>⟨_,rfl,?_⟩);refine zc ?_;refine br (r=true) (by simp) (fun c2=>?_) (fun c2=>?_)<;>refine zc ?_
 ·rw[if_pos ((hR i).2 (hr.1 c2))]at nx
  rw[show arith .add .i64 s 1=s+1 from add64 hA (by omega) (by omega),e2];exact ih (k+1) (i+1) (s+1) h1 (by omega) (by omega) (by omega) nx.symm (he.trans x1)
 ·rw[if_neg (fun q=>c2 (hr.2 ((hR i).1 q)))]at nx
  rw[e2];exact ih (k+1) (i+1) s h1 (by omega) (by omega) (by omega) (by omega) (he.trans x1)
theorem bs_cnt21{h0:AHeap}(hlow0:h0.low<=h0.next){ta:Option Addr}{n tc:Nat}{T:List F2}(hT:Rows F2.cells 2 h0 ta n T)(hn:n<=1000){pa:Option Addr}{np pc:Nat}{P:List F2}(hP:Rows F2.cells 2 h0 pa np P){j:Int}(j0:0<=j)(j1:j<np){s0:Int}(b0:0<=s0/\s0<=1000){a0 a9 a7:Option Addr}{n0 c0 n9 c9 n7 c7:Nat}{Q:Exit->SS->Prop}
  (hQ:∀h' s,s=s0+cntP (gt P j) T->Ext h0 h'->Q (.exit 4) ⟨[(0,.slice a0 n0 c0),(3,.bool true),(4,.slice ta n tc),(7,.slice a7 n7 c7),(9,.slice a9 n9 c9),(11,.slice pa np pc),(14,.int .i64 j),(15,.int .i64 s)],0,[],h'⟩) :
  ∀(m:Nat) (i s:Int) (h:AHeap),(n-i).toNat<=m->0<=i->i<=n->s=s0+cntP (gt P j) (T.take i.toNat)->Ext h0 h->
   head 5 21 0 ⟨[(0,.slice a0 n0 c0),(3,.bool true),(4,.slice ta n tc),(7,.slice a7 n7 c7),(9,.slice a9 n9 c9),(11,.slice pa np pc),(14,.int .i64 j),(15,.int .i64 s),(16,.int .i64 i)],0,[],h⟩ Q:=by
 have hlen:=hT.len;refine upTo (fun m ih=>?_);intro i s h hm i0 i1 hs he;by_cases ci:i<n
 rotate_left
 ·refine hA.roundR Try.func5 r5_ok (zc ?_)
  refine br (i<n) (by rw[e_lss hA,e_ofNat hA]) (fun c1=>absurd c1 ci) (fun c1=>?_)<;>refine zc ?_;rw[List.take_of_length_le (by omega)]at hs;exact hQ h s hs he
 obtain⟨m,rfl⟩:∃k,m=k+1:=⟨m-1,by omega⟩
 replace ih:=ih m rfl
 obtain⟨h9,hh9⟩:∃z,z=bump h 9:=⟨_,rfl⟩;have e9:Ext h0 h9:=by rw[hh9];exact he.trans (ext_bump hA _ _)
 obtain⟨b,o,a1,a2,rfl,_,hg,r1,_⟩:=fr_at (hT.ext e9) (i:=i) i0 ci;obtain⟨b',o',p1,p2,rfl,_,hp,q1,_⟩:=fr_at (hP.ext e9) (i:=j) j0 j1;have r2:=rd_ok hA r1;have q2:=rd_ok hA q1;obtain⟨r,hr1,hr2⟩:=eqP a1 a2 p1 p2;have e2:arith .add .i64 i 1=i+1:=add64 hA (by omega) (by omega);have bd:=cntP_bd (gt P j) (T.take i.toNat);have tl:=List.length_take_le i.toNat T;have nx:s0+cntP (gt P j) (T.take (i+1).toNat)=s+(if r=true then 1 else 0):=by
  rw[gt_take T i0 (by omega),cntP_append,hg,hs];show s0+(_+(0+(if (⟨a1,a2⟩:F2)=gt P j then 1 else 0)))=_;rw[hp];have:((⟨a1,a2⟩:F2)=⟨p1,p2⟩)↔r=true:=by rw[hr2,F2.mk.injEq]
  by_cases c:r=true
  ·rw[if_pos (this.2 c),if_pos c];omega
  ·rw[if_neg (fun q=>c (this.1 q)),if_neg c];omega
 refine hA.roundR Try.func5 r5_ok (zc ?_);refine br (i<n) (by rw[e_lss hA,e_ofNat hA]) (fun c1=>?_) (fun c1=>absurd ci c1)<;>refine zc ?_;rw[<-hh9];refine zq ?_;rw[e_eqAgg hA];refine⟨guardP,r,hr1,?_⟩;refine zc ?_;refine br (r=true) (by simp) (fun c2=>?_) (fun c2=>?_)<;>refine zc ?_
 ·rw[if_pos c2]at nx
  rw[show arith .add .i64 s 1=s+1 from add64 hA (by omega) (by omega),e2];exact ih (i+1) (s+1) h9 (by omega) (by omega) (by omega) nx.symm e9
 ·rw[if_neg c2]at nx
  rw[e2];exact ih (i+1) s h9 (by omega) (by omega) (by omega) (by omega) e9
theorem bs_cnt26{h0:AHeap}(hlow0:h0.low<=h0.next){ta:Option Addr}{n tc:Nat}{T:List F2}(hT:Rows F2.cells 2 h0 ta n T)(hn:n<=1000){pa:Option Addr}{np pc:Nat}{P:List F2}(hP:Rows F2.cells 2 h0 pa np P){j:Int}(j0:0<=j)(j1:j<np){s0:Int}(b0:0<=s0/\s0<=1000){a0 a9 a4:Option Addr}{n0 c0 n9 c9 n4 c4:Nat}{Q:Exit->SS->Prop}
  (hQ:∀h' s,s=s0+cntP (gt P j) T->Ext h0 h'->Q (.exit 6) ⟨[(0,.slice a0 n0 c0),(3,.bool true),(4,.slice a4 n4 c4),(7,.slice ta n tc),(9,.slice a9 n9 c9),(11,.slice pa np pc),(14,.int .i64 j),(15,.int .i64 s)],0,[],h'⟩) :
  ∀(m:Nat) (i s:Int) (h:AHeap),(n-i).toNat<=m->0<=i->i<=n->s=s0+cntP (gt P j) (T.take i.toNat)->Ext h0 h->
   head 5 26 0 ⟨[(0,.slice a0 n0 c0),(3,.bool true),(4,.slice a4 n4 c4),(7,.slice ta n tc),(9,.slice a9 n9 c9),(11,.slice pa np pc),(14,.int .i64 j),(15,.int .i64 s),(17,.int .i64 i)],0,[],h⟩ Q:=by
 have hlen:=hT.len;refine upTo (fun m ih=>?_);intro i s h hm i0 i1 hs he;by_cases ci:i<n
 rotate_left
 ·refine hA.roundR Try.func5 r5_ok (zc ?_)
  refine br (i<n) (by rw[e_lss hA,e_ofNat hA]) (fun c1=>absurd c1 ci) (fun c1=>?_)<;>refine zc ?_;rw[List.take_of_length_le (by omega)]at hs;exact hQ h s hs he
 obtain⟨m,rfl⟩:∃k,m=k+1:=⟨m-1,by omega⟩
 replace ih:=ih m rfl
 obtain⟨h9,hh9⟩:∃z,z=bump h 9:=⟨_,rfl⟩;have e9:Ext h0 h9:=by rw[hh9];exact he.trans (ext_bump hA _ _)
 obtain⟨b,o,a1,a2,rfl,_,hg,r1,_⟩:=fr_at (hT.ext e9) (i:=i) i0 ci;obtain⟨b',o',p1,p2,rfl,_,hp,q1,_⟩:=fr_at (hP.ext e9) (i:=j) j0 j1;have r2:=rd_ok hA r1;have q2:=rd_ok hA q1;obtain⟨r,hr1,hr2⟩:=eqP a1 a2 p1 p2;have e2:arith .add .i64 i 1=i+1:=add64 hA (by omega) (by omega);have bd:=cntP_bd (gt P j) (T.take i.toNat);have tl:=List.length_take_le i.toNat T;have nx:s0+cntP (gt P j) (T.take (i+1).toNat)=s+(if r=true then 1 else 0):=by
  rw[gt_take T i0 (by omega),cntP_append,hg,hs];show s0+(_+(0+(if (⟨a1,a2⟩:F2)=gt P j then 1 else 0)))=_;rw[hp];have:((⟨a1,a2⟩:F2)=⟨p1,p2⟩)↔r=true:=by rw[hr2,F2.mk.injEq]
  by_cases c:r=true
  ·rw[if_pos (this.2 c),if_pos c];omega
  ·rw[if_neg (fun q=>c (this.1 q)),if_neg c];omega
 refine hA.roundR Try.func5 r5_ok (zc ?_);refine br (i<n) (by rw[e_lss hA,e_ofNat hA]) (fun c1=>?_) (fun c1=>absurd ci c1)<;>refine zc ?_;rw[<-hh9];refine zq ?_;rw[e_eqAgg hA];refine⟨guardP,r,hr1,?_⟩;refine zc ?_;refine br (r=true) (by simp) (fun c2=>?_) (fun c2=>?_)<;>refine zc ?_
 ·rw[if_pos c2]at nx
  rw[show arith .add .i64 s 1=s+1 from add64 hA (by omega) (by omega),e2];exact ih (i+1) (s+1) h9 (by omega) (by omega) (by omega) nx.symm e9
 ·rw[if_neg c2]at nx
  rw[e2];exact ih (i+1) s h9 (by omega) (by omega) (by omega) (by omega) e9
theorem bs_loop2{h0:AHeap}(hlow0:h0.low<=h0.next){ta:Option Addr}{nt tc:Nat}{T:List F2}(hT:Rows F2.cells 2 h0 ta nt T)(hnt:nt<=500){da:Option Addr}{nd dc:Nat}{D:List F2}(hD:Rows F2.cells 2 h0 da nd D)(hnd:nd<=500){pa:Option Addr}{np pc:Nat}{P:List F2}(hP:Rows F2.cells 2 h0 pa np P)(hnp:np<=1000)(once:∀p∈P,cntP p T+cntP p D=1){a0 a9:Option Addr}{n0 c0 n9 c9:Nat}{Q:Exit->SS->Prop}
  (hQ:∀h',Ext h0 h'->Q (.exit 2) ⟨[(0,.slice a0 n0 c0),(3,.bool true),(7,.slice da nd dc),(9,.slice a9 n9 c9)],0,[],h'⟩) :
  ∀(m:Nat) (j:Int) (h:AHeap),(np-j).toNat<=m->0<=j->j<=np->Ext h0 h->
   head 5 17 0 ⟨[(0,.slice a0 n0 c0),(3,.bool true),(4,.slice ta nt tc),(7,.slice da nd dc),(9,.slice a9 n9 c9),(11,.slice pa np pc),(14,.int .i64 j)],0,[],h⟩ Q:=by
 have hlen:=hP.len;refine upTo (fun m ih=>?_);intro j h hm i0 i1 he;by_cases ci:j<np
 rotate_left
 ·refine hA.roundR Try.func5 r5_ok (zc ?_)
  refine br (j<np) (by rw[e_lss hA,e_ofNat hA]) (fun c1=>absurd c1 ci) (fun c1=>?_)<;>refine zc ?_;exact hQ h he
 obtain⟨m,rfl⟩:∃k,m=k+1:=⟨m-1,by omega⟩
 replace ih:=ih m rfl
 have e2:arith .add .i64 j 1=j+1:=add64 hA (by omega) (by omega);have hmem:=gt_mem P i0 (by omega);have h1:=once _ hmem;have b1:=cntP_bd (gt P j) T;have b2:=cntP_bd (gt P j) D;have lt:=hT.len;have ld:=hD.len;refine hA.roundR Try.func5 r5_ok (zc ?_);refine br (j<np) (by rw[e_lss hA,e_ofNat hA]) (fun c1=>?_) (fun c1=>absurd ci c1)<;>refine zc ?_;refine bs_cnt21 hA (he.lowOK hlow0) (hT.ext he) (by omega) (hP.ext he) i0 ci (s0:=0) (by omega) (fun h1 s hs x1=>?_) nt 0 0 h (by omega) (by omega) (by omega) (by simp[cntP]) (.refl h);have e1:=he.trans x1;refine zc ?_;refine bs_cnt26 hA (e1.lowOK hlow0) (hD.ext e1) (by omega) (hP.ext e1) i0 ci (s0:=s) (by omega) (fun h2 s2 hs2 x2=>?_) nd 0 s h1 (by omega) (by omega) (by omega) (by simp[cntP]) (.refl h1);refine zc ?_;refine br (s2≠1) (by rw[e_neq hA]) (fun q=>absurd (by omega) q) (fun _=>?_)<;>refine zc ?_;rw[e2];exact ih (j+1) h2 (by omega) (by omega) (by omega) (e1.trans x2)
theorem bs_loop10{h0:AHeap}{ca:Option Addr}{k cc:Nat}{X:List Int}(hX:Rows iC 1 h0 ca k X)(hk:k<=1000){I:Int}(one:∀i:Int,0<=i->i<k->gt X i=if i=I then 1 else 0){a0 a7 a9:Option Addr}{n0 c0 n7 c7 n9 c9:Nat}{Q:Exit->SS->Prop}
  (hQ:∀h',Ext h0 h'->Q (.exit 10) ⟨[(0,.slice a0 n0 c0),(3,.bool true),(7,.slice a7 n7 c7),(9,.slice a9 n9 c9),(18,.int .i64 I)],45,[],h'⟩) :
  ∀(m:Nat) (i:Int) (h:AHeap),(k-i).toNat<=m->0<=i->i<=k->Ext h0 h->
   head 5 39 45 ⟨[(0,.slice a0 n0 c0),(3,.bool true),(7,.slice a7 n7 c7),(9,.slice a9 n9 c9),(18,.int .i64 I),(19,.slice ca k cc),(21,.int .i64 i)],45,[],h⟩ Q:=by
 have hlen:=hX.len;refine upTo (fun m ih=>?_);intro i h hm i0 i1 he;by_cases ci:i<k
 rotate_left
 ·refine hA.roundR Try.func5 r5_ok (zc ?_)
  refine br (i<k) (by rw[e_lss hA,e_ofNat hA]) (fun c1=>absurd c1 ci) (fun c1=>?_)<;>refine zc ?_;exact hQ h he
 obtain⟨m,rfl⟩:∃k,m=k+1:=⟨m-1,by omega⟩
 replace ih:=ih m rfl
 have e2:arith .add .i64 i 1=i+1:=add64 hA (by omega) (by omega);obtain⟨bb,o,rfl,_,r1⟩:=(hX.ext he).at (i:=i) i0 (by omega);obtain⟨u,hu⟩:∃u,u=gt X i:=⟨_,rfl⟩;have p1:rd h bb (place o i 1) 1 [.int .i64 u]:=by rw[hu];exact rd_ok hA (r1 0 1 (by omega) (by omega))
 have h1:=one i i0 ci;rw[<-hu]at h1;refine hA.roundR Try.func5 r5_ok (zc ?_);refine br (i<k) (by rw[e_lss hA,e_ofNat hA]) (fun c1=>?_) (fun c1=>absurd ci c1)<;>refine zc ?_;by_cases c:i=I
 ·rw[if_pos c]at h1
  refine br (i=I) (by rw[e_eql hA]) (fun _=>?_) (fun q=>absurd c q)<;>refine zc ?_;refine zq ?_;refine br (u≠1) (by rw[e_neq hA]) (fun q=>absurd h1 q) (fun _=>?_)<;>refine zc ?_;refine br (i≠I) (by rw[e_neq hA]) (fun q=>absurd c q) (fun _=>?_)<;>refine zc ?_;rw[e2];exact ih (i+1) h (by omega) (by omega) (by omega) he
 ·rw[if_neg c]at h1
  refine br (i=I) (by rw[e_eql hA]) (fun q=>absurd q c) (fun _=>?_)<;>refine zc ?_;refine br (i≠I) (by rw[e_neq hA]) (fun _=>?_) (fun q=>absurd c q)<;>refine zc ?_;refine zq ?_;refine br (u≠0) (by rw[e_neq hA]) (fun q=>absurd h1 q) (fun _=>?_)<;>refine zc ?_;rw[e2];exact ih (i+1) h (by omega) (by omega) (by omega) he
theorem bs_loop8(hW:LW F){h0:AHeap}(hlow0:h0.low<=h0.next){a:Option Addr}{n c:Nat}{l:List Vk}(hl:Vs h0 a n l)(hn:n<=1000)(ke:CkR l 0){t:List F2}{pk:Int}(hp:TreeP l t pk){ga:Option Addr}{k gc:Nat}{hs:List Hd}(hG:GrR iC 1 h0 ga k hs ((chds t (basP l)).map (circF t))){da:Option Addr}{dc:Nat}(hD:Rows F2.cells 2 h0 da k (chds t (basP l))){Q:Exit->SS->Prop}
  (hQ:∀h',Ext h0 h'->Q (.exit 8) ⟨[(3,.bool true)],0,[],h'⟩) :
  ∀(m:Nat) (i:Int) (h:AHeap),(k-i).toNat<=m->0<=i->i<=k->Ext h0 h->
   head 5 33 0 ⟨[(0,.slice a n c),(3,.bool true),(7,.slice da k dc),(9,.slice ga k gc),(18,.int .i64 i)],0,[],h⟩ Q:=by
 have hlen:=hD.len;have k28:=chds_len t l;refine upTo (fun m ih=>?_);intro i h hm i0 i1 he;by_cases ci:i<k
 rotate_left
 ·refine hA.roundR Try.func5 r5_ok (zc ?_)
  refine br (i<k) (by rw[e_lss hA,e_ofNat hA]) (fun c1=>absurd c1 ci) (fun c1=>?_)<;>refine zc ?_;exact hQ h he
 obtain⟨m,rfl⟩:∃k,m=k+1:=⟨m-1,by omega⟩
 replace ih:=ih m rfl
 have e2:arith .add .i64 i 1=i+1:=add64 hA (by omega) (by omega);obtain⟨q,hq⟩:∃q,q=gt (chds t (basP l)) i:=⟨_,rfl⟩;have hmem:=gt_mem (chds t (basP l)) i0 (by omega);rw[<-hq]at hmem;obtain⟨w,hw,ew,hcq⟩:=circ_walk ke hp hmem;have hco:=circ_co ke hp hmem;obtain⟨hd0,hd1⟩:=circ_head ke hp hmem;have G1:=hG.ext he;obtain⟨gb,go,rfl,_⟩:=G1.some (by omega);have q2:=gr_head hA G1 i0 ci;have R2:=G1.row i i0 ci;obtain⟨⟨va,vn,vc⟩,hv⟩:∃z,z=gt hs i:=⟨_,rfl⟩;rw[<-hv]at q2 R2;rw[gt_map (circF t) (chds t (basP l)) i0 (by omega),<-hq]at R2;simp only at q2 R2;have vl:=R2.len;have v3:=hcq.1;have v8:vn<=1000:=by have:=hcq.2.1;omega
 refine hA.roundR Try.func5 r5_ok (zc ?_);refine br (i<k) (by rw[e_lss hA,e_ofNat hA]) (fun c1=>?_) (fun c1=>absurd ci c1)<;>refine zc ?_;refine zq ?_;refine Coefs_ok hA hW (he.lowOK hlow0) (hl.ext he) hn R2 v8 (fun h1 ca k' cc x e co rc kc x1=>⟨_,_,_,_,rfl,?_⟩);obtain⟨rfl,rfl⟩:=co.uniq hco;have e1:=he.trans x1;have kk:=rc.len;rw[List.length_map]at kk;obtain rfl:k'=k:=by omega
 obtain⟨h9,hh9⟩:∃z,z=bump h1 45:=⟨_,rfl⟩;have eh9:Ext h1 h9:=by rw[hh9];exact ext_bump hA _ _
 have e9:Ext h0 h9:=e1.trans eh9;have G9:=hG.ext e9;have q9:=gr_head hA G9 i0 ci;have R9:=G9.row i i0 ci;rw[<-hv]at q9 R9;rw[gt_map (circF t) (chds t (basP l)) i0 (by omega),<-hq]at R9;simp only at q9 R9;obtain⟨vb,vo,rfl,_,r0⟩:=R9.at (i:=0) (by omega) (by omega);obtain⟨_,_,ec,_,r1⟩:=R9.at (i:=1) (by omega) (by omega);cases ec;obtain⟨db,d_o,x,y,rfl,_,hgt,_,f0,f1⟩:=fr_at (hD.ext e9) (i:=i) i0 ci;rw[hgt]at hq;subst hq;have p0:rd h9 vb (place vo 0 1) 1 [.int .i64 x]:=by have:=rd_ok hA (r0 0 1 (by omega) (by omega));rw[hd0]at this;exact this
 have p1:rd h9 vb (place vo 1 1) 1 [.int .i64 y]:=by have:=rd_ok hA (r1 0 1 (by omega) (by omega));rw[hd1]at this;exact this
 have u1:rd h9 db (addN (place d_o i 2) 0) 1 [.int .i64 x]:=rd_fld hA f0;have u2:rd h9 db (addN (place d_o i 2) 1) 1 [.int .i64 y]:=rd_fld hA f1;refine zc ?_;rw[<-hh9];refine zc ?_;refine br False (by rw[e_neq hA];rfl) (fun q=>q.elim) (fun _=>?_)<;>refine zc ?_;refine br ((k':Int)≠k') (by rw[e_neq hA,e_ofNat hA]) (fun q=>absurd rfl q) (fun _=>?_)<;>refine zc ?_;refine zq ?_;refine br ((vn:Int)<3) (by rw[e_lss hA,e_ofNat hA]) (fun q=>by omega) (fun _=>?_)<;>refine zc ?_;refine zq ?_;refine br (x≠x) (by rw[e_neq hA]) (fun q=>absurd rfl q) (fun _=>?_)<;>refine zc ?_;refine zq ?_;refine br (y≠y) (by rw[e_neq hA]) (fun q=>absurd rfl q) (fun _=>?_)<;>refine zc ?_;have one:∀j:Int,0<=j->j<k'->gt ((chds t (basP l)).map fun q=>steps (circF t ⟨x,y⟩) q.n q.d) j=if j=i then 1 else 0:=fun j j0 j1=>by
  rw[gt_map (fun q:F2=>steps (circF t ⟨x,y⟩) q.n q.d) (chds t (basP l)) j0 (by omega)];have hm:=gt_mem (chds t (basP l)) j0 (by omega);rw[circ_one ke hp hmem hm,<-hgt];by_cases c:j=i
  ·rw[if_pos c,c,if_pos rfl]
  ·rw[if_neg c,if_neg (fun e=>c (gt_injG (chds_nodup l t) i0 (by omega) j0 (by omega) e).symm)]
 refine bs_loop10 hA (rc.ext eh9) (by omega) one (fun h10 x10=>?_) k' 0 h9 (by omega) (by omega) (by omega) (.refl h9);refine zc ?_;rw[e2];exact ih (i+1) h10 (by omega) (by omega) (by omega) (e9.trans x10)
theorem bas_ok(hW:LW F)(hF:∀args h,F 21 args h=none){h:AHeap}(hlow:h.low<=h.next){a:Option Addr}{n c:Nat}{l:List Vk}(hl:Vs h a n l){Q:Value->AHeap->Prop}(hQ:∀h',Ext h h'->Q (.bool true) h') :
  call 5 [.slice a n c] h Q:=by
 refine hA.bodyR Try.func5 r5_ok (hA.alike _ _ _ rfl) hlow (zc ?_);refine alive_ok hA hW hF hlow (fun h1 x1=>⟨_,rfl,?_⟩);refine zc ?_;refine rcheck_any hA (x1.lowOK hlow) (hl.ext x1) (fun e h2 he x2=>⟨_,rfl,?_⟩) (fun h2 ke n64 x2=>⟨_,rfl,?_⟩)
 ·refine zc ?_
  refine br (e≠0) (by rw[e_neq hA]) (fun _=>?_) (fun q=>absurd he q)<;>refine zc ?_;exact hQ h2 (x1.trans x2)
 have x12:=x1.trans x2;refine zc ?_;refine br False (by rw[e_neq hA];rfl) (fun q=>q.elim) (fun _=>?_)<;>refine zc ?_;rw[show bnot true=false by rw[e_bnot hA];rfl];refine zc ?_;have hn:n<=1000:=by omega
 refine tree_a hA hW (x12.lowOK hlow) (hl.ext x12) hn (fun t pk e h3 ta nt tc o3 r3 s3 x3=>⟨_,_,_,_,_,rfl,?_⟩);have x13:=x12.trans x3;refine zc ?_;refine chds_a hA hW (x13.lowOK hlow) (hl.ext x13) hn (fun C f h4 da nd dc o4 r4 s4 x4=>⟨_,_,_,_,rfl,?_⟩);have x14:=x13.trans x4;refine zc ?_;refine bas_a hA hW (x14.lowOK hlow) (hl.ext x14) hn (fun g d h5 ga k gc hs o5 rg sg lg x5=>⟨_,_,_,_,rfl,?_⟩);have x15:=x14.trans x5;refine zc ?_;cases o3 with
 |bad h0 kf=>exact absurd (kf.uniq ke) h0
 | @ok t pk _ hp=>
 cases o4 with
 |bad h0 kf=>exact absurd (kf.uniq ke) h0
 | @ok t' pk' _ hp'=>
 obtain⟨rfl,rfl⟩:=hp.uniq hp';cases o5 with
 |bad h0 kf=>exact absurd (kf.uniq ke) h0
 | @ok t' pk' _ hp'=>
 obtain⟨rfl,rfl⟩:=hp.uniq hp';refine pairs_ok hA (x15.lowOK hlow) (hl.ext x15) hn ke.ok0.2.2 (fun h6 pa np pc hP hf x6=>⟨_,_,_,rfl,?_⟩);have x16:=x15.trans x6;obtain⟨Rf,hR,hcnt,hpk⟩:=tree_count ke hp;have hall:=all_count hp;have l3:=r3.len;have l4:=r4.len;have l5:=rg.len;rw[List.length_map]at l5;have l6:=hP.len;have b28:=basP_len l;have k28:=chds_len t l;obtain rfl:nd=k:=by omega
 have bd:=cntR_bd Rf 8;refine zc ?_;refine bs_loop0 hA (x16.lowOK hlow) (hl.ext x16) hn hR (fun h7 s hs x7=>?_) 8 0 0 0 h6 rfl (by omega) (by omega) rfl (.refl h6);have x17:=x16.trans x7;refine zc ?_;refine br False (by rw[e_neq hA];rfl) (fun q=>q.elim) (fun _=>?_)<;>refine zc ?_;refine br False (by rw[e_neq hA];rfl) (fun q=>q.elim) (fun _=>?_)<;>refine zc ?_;refine br False (by rw[e_neq hA];rfl) (fun q=>q.elim) (fun _=>?_)<;>refine zc ?_;obtain⟨w,hw⟩:∃w:Int,w=np-s:=⟨_,rfl⟩;obtain⟨z,hz⟩:∃z:Int,z=w+pk:=⟨_,rfl⟩;rw[show arith .sub .i64 (ofNat np) s=w by rw[e_ofNat hA,sub64 hA (by omega) (by omega),hw],show arith .add .i64 w pk=z by rw[add64 hA (by omega) (by omega),hz],e_ofNat hA nd];refine br ((nd:Int)≠z) (by rw[e_neq hA]) (fun q=>absurd (by omega) q) (fun _=>?_)<;>refine zc ?_;rw[show arith .add .i64 (ofNat nt) (ofNat nd)=np by rw[e_ofNat hA,e_ofNat hA,add64 hA (by omega) (by omega)];omega,e_ofNat hA np];refine br ((np:Int)≠np) (by rw[e_neq hA]) (fun q=>absurd rfl q) (fun _=>?_)<;>refine zc ?_;refine br ((nd:Int)≠nd) (by rw[e_neq hA,e_ofNat hA]) (fun q=>absurd rfl q) (fun _=>?_)<;>refine zc ?_;refine bs_loop2 hA (x17.lowOK hlow) (r3.ext (((x4.trans x5).trans x6).trans x7)) (by omega) (r4.ext ((x5.trans x6).trans x7)) (by omega) (hP.ext x7) (by omega) (fun p hp'=>cnt_once hp hp') (fun h8 x8=>?_) np 0 h7 (by omega) (by omega) (by omega) (.refl h7);have x18:=x17.trans x8;refine zc ?_;refine bs_loop8 hA hW (x18.lowOK hlow) (hl.ext x18) hn ke hp (rg.ext ((x6.trans x7).trans x8)) (r4.ext (((x5.trans x6).trans x7).trans x8)) (fun h9 x9=>?_) nd 0 h8 (by omega) (by omega) (by omega) (.refl h8);refine zc ?_;exact hQ h9 (x18.trans x9)
