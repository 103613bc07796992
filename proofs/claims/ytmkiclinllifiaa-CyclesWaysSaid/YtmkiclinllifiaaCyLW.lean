import Derived.Test.YtmkiclinllifiaaCyCw
import Derived.Test.YtmkiclinllifiaaCyN
set_option linter.unusedSimpArgs false
set_option linter.unusedVariables false
namespace Go.Proofs.Ytmkiclinllifiaa
open Go.Sim
set_option maxRecDepth 100000
structure LabM(h:AHeap)(b:Nat)(A:Int->Int):Prop where
 own:∃B:List Int,Own h b 1 (B.map (.int .i64))/\B.length=8/\∀x:Int,0<=x->x<8->gt B x=A x
 lt:b<h.next
theorem LabM.get{h:AHeap}{b:Nat}{A:Int->Int}(L:LabM h b A){x:Int}(x0:0<=x)(x8:x<8):h.readG ⟨b,0+x.toNat*1,none⟩ 1=some [.int .i64 (A x)]:=by
 obtain⟨B,o,l,e⟩:=L.own;have:=o.getInt (i:=x.toNat) (by omega);rw[Nat.zero_add,Nat.mul_one,this];have:=e x x0 x8;unfold gt at this;rw[<-this];rfl
theorem LabM.set{h:AHeap}{b:Nat}{A:Int->Int}(L:LabM h b A){x:Int}(x0:0<=x)(x8:x<8)(u:Int):∃h',h.write b (0+x.toNat*1) [.int .i64 u]=some h'/\LabM h' b (fun y=>if y=x then u else A y)/\Wrote h h' b:=by
 obtain⟨B,o,l,e⟩:=L.own;obtain⟨h',w,o',k⟩:=o.setInt (i:=x.toNat) (by omega) u;refine⟨h',by rw[Nat.zero_add,Nat.mul_one];exact w,⟨⟨B.set x.toNat u,o',by rw[List.length_set];exact l,fun y y0 y8=>?_⟩,by rw[k.next];exact L.lt⟩,k⟩;unfold gt;rw[List.getD_eq_getElem?_getD,List.getElem?_set];by_cases c:y=x
 ·rw[c,if_pos rfl,if_pos (by omega),if_pos rfl];rfl
 ·rw[if_neg (by omega),if_neg c,<-List.getD_eq_getElem?_getD]
  exact e y y0 y8
theorem LabM.ext{h h':AHeap}{b:Nat}{A:Int->Int}(L:LabM h b A)(x:Ext h h'):LabM h' b A:=by
 obtain⟨B,o,l,e⟩:=L.own;exact⟨⟨B,o.ext x L.lt,l,e⟩,by have:=x.next;have:=L.lt;omega⟩
theorem LabM.same{h:AHeap}{b:Nat}{A A':Int->Int}(L:LabM h b A)(e:∀x,0<=x->x<8->A x=A' x):LabM h b A':=by
 obtain⟨B,o,l,g⟩:=L.own;exact⟨⟨B,o,l,fun x x0 x8=>(g x x0 x8).trans (e x x0 x8)⟩,L.lt⟩
variable{F:Prims}{call head arith cmp b0 bnot bsame d0 f0 imax imin ofNat j0 place l0 nz m0 rd wr push next o0 p0 q0 r0 s0 t0 v0 w0 b1 d1 f1 l1 m1 n1 o1 bump t1 addN lt ne v1 y1 b2 yn d2 f2 g2 i2 j2 l2 m2 n2:_}(hA:AP F ⟨call,head,arith,cmp,b0,bnot,bsame,d0,f0,imax,imin,ofNat,j0,place,l0,nz,m0,rd,wr,push,next,o0,p0,q0,r0,s0,t0,v0,w0,b1,d1,f1,l1,m1,n1,o1,bump,t1,addN,lt,ne,v1,y1,b2,yn,d2,f2,g2,i2,j2,l2,m2,n2⟩)
include hA
theorem ws_fill{h0:AHeap}{b:Nat}(hb:h0.next<=b){a0 a8 a10 a12:Option Addr}{n0 c0 n8 c8 n10 c10 n12 c12:Nat}{x y e:Int}{Q:Exit->SS->Prop}
  (hQ:∀h',LabM h' b (fun x=>x)->Ext h0 h'->Q (.exit 0) ⟨[(0,.slice a0 n0 c0),(1,.int .i64 x),(2,.int .i64 y),(7,.bool true),(8,.slice a8 n8 c8),(9,.int .i64 e),(10,.slice a10 n10 c10),(12,.slice a12 n12 c12),(15,.slice (some ⟨b,0,none⟩) 8 8)],0,[],h'⟩) :
  ∀(m:Nat) (i:Int) (h:AHeap) (A:Int->Int),(8-i).toNat<=m->0<=i->i<=8->LabM h b A->(∀x,0<=x->x<i->A x=x)->Ext h0 h->
   head 7 13 0 ⟨[(0,.slice a0 n0 c0),(1,.int .i64 x),(2,.int .i64 y),(7,.bool true),(8,.slice a8 n8 c8),(9,.int .i64 e),(10,.slice a10 n10 c10),(12,.slice a12 n12 c12),(15,.slice (some ⟨b,0,none⟩) 8 8),(16,.int .i64 i)],0,[],h⟩ Q:=by
 refine upTo (fun m ih=>?_);intro i h A hm i0 i1 hL hv he;by_cases ci:i<8
 rotate_left
 ·refine hA.roundR Try.func7 r7_ok (zc ?_)
  refine br (i<8) (by rw[e_lss hA,e_ofNat hA];rfl) (fun c1=>absurd c1 ci) (fun c1=>?_)<;>refine zc ?_;exact hQ h (hL.same (fun x x0 x8=>hv x x0 (by omega))) he
 obtain⟨m,rfl⟩:∃k,m=k+1:=⟨m-1,by omega⟩
 replace ih:=ih m rfl
 have e2:arith .add .i64 i 1=i+1:=add64 hA (by omega) (by omega);obtain⟨h1,w1,L1,k1⟩:=hL.set i0 ci i;refine hA.roundR Try.func7 r7_ok (zc ?_);refine br (i<8) (by rw[e_lss hA,e_ofNat hA];rfl) (fun c1=>?_) (fun c1=>absurd ci c1)<;>refine zc ?_;refine zq ?_;refine⟨h1,wr_ok hA w1,?_⟩;refine zc ?_;rw[e2];refine ih (i+1) h1 _ (by omega) (by omega) (by omega) L1 (fun x x0 x1=>?_) (k1.ext he hb);by_cases c:x=i
 ·rw[if_pos c,c]
 ·rw[if_neg c];exact hv x x0 (by omega)
theorem ws_in{h0:AHeap}(hlow0:h0.low<=h0.next){b:Nat}(hb:h0.next<=b){a:Option Addr}{n c:Nat}{l:List Vk}(hl:Vs h0 a n l)(hn:n<=1000)(hv:∀v∈l,okV v){a8 a10 a12:Option Addr}{n8 c8 n10 c10 n12 c12:Nat}{x y e r:Int}{A0:Int->Int}{Q:Exit->SS->Prop}
  (hQ:∀h',LabM h' b (rlxL l A0)->Ext h0 h'->Q (.exit 4) ⟨[(0,.slice a n c),(1,.int .i64 x),(2,.int .i64 y),(7,.bool true),(8,.slice a8 n8 c8),(9,.int .i64 e),(10,.slice a10 n10 c10),(12,.slice a12 n12 c12),(15,.slice (some ⟨b,0,none⟩) 8 8),(17,.int .i64 r)],0,[],h'⟩) :
  ∀(m:Nat) (i:Int) (h:AHeap),(n-i).toNat<=m->0<=i->i<=n->LabM h b (rlxL (l.take i.toNat) A0)->Ext h0 h->
   head 7 20 0 ⟨[(0,.slice a n c),(1,.int .i64 x),(2,.int .i64 y),(7,.bool true),(8,.slice a8 n8 c8),(9,.int .i64 e),(10,.slice a10 n10 c10),(12,.slice a12 n12 c12),(15,.slice (some ⟨b,0,none⟩) 8 8),(17,.int .i64 r),(18,.int .i64 i)],0,[],h⟩ Q:=by
 have hlen:=hl.len;refine upTo (fun m ih=>?_);intro i h hm i0 i1 hL he;by_cases ci:i<n
 rotate_left
 ·refine hA.roundR Try.func7 r7_ok (zc ?_)
  refine br (i<n) (by rw[e_lss hA,e_ofNat hA]) (fun c1=>absurd c1 ci) (fun c1=>?_)<;>refine zc ?_;rw[List.take_of_length_le (by omega)]at hL;exact hQ h hL he
 obtain⟨m,rfl⟩:∃k,m=k+1:=⟨m-1,by omega⟩
 replace ih:=ih m rfl
 have e2:arith .add .i64 i 1=i+1:=add64 hA (by omega) (by omega);obtain⟨A,hAe⟩:∃A,A=rlxL (l.take i.toNat) A0:=⟨_,rfl⟩;rw[<-hAe]at hL;obtain⟨h9,hh9⟩:∃z,z=bump h 25:=⟨_,rfl⟩;have eh9:Ext h h9:=by rw[hh9];exact ext_bump hA _ _
 have e9:=he.trans eh9;obtain⟨bb,o,u,w,re,im,d,nn,rfl,hbb,hg,_,rf⟩:=vs_at (hl.ext e9) (i:=i) i0 ci;obtain⟨_,_,_,_,_,_,_,_,ec,hb0,_⟩:=vs_at hl (i:=i) i0 ci;cases ec;have okv:=hv _ (gt_mem l i0 (by omega));rw[hg]at rf okv;obtain⟨u0,uw,w8,_⟩:=okv;simp only at u0 uw w8;have p1:rd h9 bb (addN (place o i 6) 0) 1 [.int .i64 u]:=rd_fld hA (rf 0 1 (by omega) (by omega));have p2:rd h9 bb (addN (place o i 6) 1) 1 [.int .i64 w]:=rd_fld hA (rf 1 1 (by omega) (by omega));have L9:=hL.ext eh9;obtain⟨Au,hAu⟩:∃z,z=A u:=⟨_,rfl⟩;obtain⟨Aw,hAw⟩:∃z,z=A w:=⟨_,rfl⟩;have q1:rd h9 b (place 0 u 1) 1 [.int .i64 Au]:=by rw[hAu];exact rd_ok hA (L9.get u0 (by omega))
 have q2:rd h9 b (place 0 w 1) 1 [.int .i64 Aw]:=by rw[hAw];exact rd_ok hA (L9.get (by omega) w8)
 obtain⟨mn,hmn⟩:∃z,z=min Au Aw:=⟨_,rfl⟩;obtain⟨h1,w1,L1,k1⟩:=L9.set (x:=w) (by omega) w8 mn;have hw1:=wr_ok hA w1;refine hA.roundR Try.func7 r7_ok (zc ?_);refine br (i<n) (by rw[e_lss hA,e_ofNat hA]) (fun c1=>?_) (fun c1=>absurd ci c1)<;>refine zc ?_;rw[<-hh9];refine zq ?_;rw[show imin Au Aw=mn by rw[e_imin hA,hmn];split<;>omega];refine zq ?_;obtain⟨h10,hh10⟩:∃z,z=bump h1 16:=⟨_,rfl⟩;have eh10:Ext h1 h10:=by rw[hh10];exact ext_bump hA _ _
 have e1:Ext h0 h1:=k1.ext e9 hb;have e10:=e1.trans eh10;rw[<-hh10];obtain⟨_,_,_,_,_,_,_,_,ec,_,hg',_,rf'⟩:=vs_at (hl.ext e10) (i:=i) i0 ci;cases ec;rw[hg]at rf';have p1':rd h10 bb (addN (place o i 6) 0) 1 [.int .i64 u]:=rd_fld hA (rf' 0 1 (by omega) (by omega));have p2':rd h10 bb (addN (place o i 6) 1) 1 [.int .i64 w]:=rd_fld hA (rf' 1 1 (by omega) (by omega));have L10:=L1.ext eh10;have q2':rd h10 b (place 0 w 1) 1 [.int .i64 mn]:=by have:=rd_ok hA (L10.get (x:=w) (by omega) w8);rw[if_pos rfl]at this;exact this
 obtain⟨h2,w2,L2,k2⟩:=L10.set (x:=u) u0 (by omega) mn;have hw2:=wr_ok hA w2;refine zq ?_;rw[e2];refine ih (i+1) h2 (by omega) (by omega) (by omega) ?_ (k2.ext e10 hb);rw[gt_take l i0 (by omega),rlxL_append,<-hAe,hg];refine L2.same (fun z z0 z8=>?_);show _=rlx _ A z;unfold rlx;simp only;rw[<-hAu,<-hAw,<-hmn];by_cases c2:z=u
 ·rw[if_pos c2,if_pos (.inl c2)]
 ·rw[if_neg c2]
  by_cases c3:z=w
  ·rw[if_pos c3,if_pos (.inr c3)]
  ·rw[if_neg c3,if_neg (fun q=>q.elim c2 c3)]
theorem ws_out{h0:AHeap}(hlow0:h0.low<=h0.next){b:Nat}(hb:h0.next<=b){a:Option Addr}{n c:Nat}{l:List Vk}(hl:Vs h0 a n l)(hn:n<=1000)(hv:∀v∈l,okV v){a8 a10 a12:Option Addr}{n8 c8 n10 c10 n12 c12:Nat}{x y e:Int}{Q:Exit->SS->Prop}
  (hQ:∀h',LabM h' b (rlxN l 8)->Ext h0 h'->Q (.exit 2) ⟨[(1,.int .i64 x),(2,.int .i64 y),(7,.bool true),(8,.slice a8 n8 c8),(9,.int .i64 e),(10,.slice a10 n10 c10),(12,.slice a12 n12 c12),(15,.slice (some ⟨b,0,none⟩) 8 8)],0,[],h'⟩) :
  ∀(m k:Nat) (r:Int) (h:AHeap),r=k->8-k<=m->k<=8->LabM h b (rlxN l k)->Ext h0 h->
   head 7 17 0 ⟨[(0,.slice a n c),(1,.int .i64 x),(2,.int .i64 y),(7,.bool true),(8,.slice a8 n8 c8),(9,.int .i64 e),(10,.slice a10 n10 c10),(12,.slice a12 n12 c12),(15,.slice (some ⟨b,0,none⟩) 8 8),(17,.int .i64 r)],0,[],h⟩ Q:=by
 refine upTo (fun m ih=>?_);intro k r h hr hm k1 hL he;by_cases ci:k<8
 rotate_left
 ·obtain rfl:k=8:=by omega
  refine hA.roundR Try.func7 r7_ok (zc ?_);refine br (r<8) (by rw[e_lss hA,e_ofNat hA];rfl) (fun c1=>by omega) (fun c1=>?_)<;>refine zc ?_;exact hQ h hL he
 obtain⟨m,rfl⟩:∃k,m=k+1:=⟨m-1,by omega⟩
 replace ih:=ih m rfl
 have e2:arith .add .i64 r 1=r+1:=add64 hA (by omega) (by omega);refine hA.roundR Try.func7 r7_ok (zc ?_);refine br (r<8) (by rw[e_lss hA,e_ofNat hA];rfl) (fun c1=>?_) (fun c1=>by omega)<;>refine zc ?_;refine ws_in hA hlow0 hb hl hn hv (A0:=rlxN l k) (fun h1 L1 x1=>?_) n 0 h (by omega) (by omega) (by omega) hL he;refine zc ?_;rw[e2];exact ih (k+1) (r+1) h1 (by omega) (by omega) (by omega) L1 x1
theorem ws_find{h0:AHeap}(hlow0:h0.low<=h0.next){wa va:Option Addr}{nw wc nv vc:Nat}{W:List Int}(hW:Rows iC 1 h0 wa nw W)(hnw:nw<=1000){ta:Option Addr}{n tc:Nat}{T:List F2}(hT:Rows F2.cells 2 h0 ta n T)(hn:n<=1000){k:Int}(k0:1<=k)(k1:k<nw){u v:Int}(hu:u=gt W (k-1))(hv:v=gt W k)(hm:(⟨min u v,max u v⟩:F2)∈T){Q:Exit->SS->Prop}
  (hQ:∀h',Ext h0 h'->Q (.exit 8) ⟨[(7,.bool true),(8,.slice wa nw wc),(10,.slice va nv vc),(12,.slice ta n tc),(19,.int .i64 k),(20,.bool true)],45,[],h'⟩) :
  ∀(m:Nat) (i:Int) (h:AHeap) (f:Bool),(n-i).toNat<=m->0<=i->i<=n->(f=true↔(⟨min u v,max u v⟩:F2)∈T.take i.toNat)->Ext h0 h->
   head 7 38 45 ⟨[(7,.bool true),(8,.slice wa nw wc),(10,.slice va nv vc),(12,.slice ta n tc),(19,.int .i64 k),(20,.bool f),(21,.int .i64 i)],45,[],h⟩ Q:=by
 have hlen:=hT.len;have hwl:=hW.len;refine upTo (fun m ih=>?_);intro i h f hm' i0 i1 hf he;by_cases ci:i<n
 rotate_left
 ·rw[List.take_of_length_le (by omega)]at hf
  obtain rfl:f=true:=hf.2 hm;refine hA.roundR Try.func7 r7_ok (zc ?_);refine br (i<n) (by rw[e_lss hA,e_ofNat hA]) (fun c1=>absurd c1 ci) (fun c1=>?_)<;>refine zc ?_;exact hQ h he
 obtain⟨m,rfl⟩:∃k,m=k+1:=⟨m-1,by omega⟩
 replace ih:=ih m rfl
 have e2:arith .add .i64 i 1=i+1:=add64 hA (by omega) (by omega);have e3:arith .sub .i64 k 1=k-1:=sub64 hA (by omega) (by omega);obtain⟨j,hj⟩:∃j:Int,j=k-1:=⟨_,rfl⟩;rw[<-hj]at e3 hu;obtain⟨h9,hh9⟩:∃z,z=bump h 30:=⟨_,rfl⟩;have eh9:Ext h h9:=by rw[hh9];exact ext_bump hA _ _
 have e9:=he.trans eh9;obtain⟨wb,wo,rfl,_,r1⟩:=(hW.ext e9).at (i:=j) (by omega) (by omega);obtain⟨_,_,ec,_,r2⟩:=(hW.ext e9).at (i:=k) (by omega) (by omega);cases ec;have q1:rd h9 wb (place wo j 1) 1 [.int .i64 u]:=by rw[hu];exact rd_ok hA (r1 0 1 (by omega) (by omega))
 have q2:rd h9 wb (place wo k 1) 1 [.int .i64 v]:=by rw[hv];exact rd_ok hA (r2 0 1 (by omega) (by omega))
 obtain⟨b,o,a1,a2,rfl,_,hg,r3,_⟩:=fr_at (hT.ext e9) (i:=i) i0 ci;have q3:=rd_ok hA r3;obtain⟨x,hx⟩:∃x,x=min u v:=⟨_,rfl⟩;obtain⟨y,hy⟩:∃y,y=max u v:=⟨_,rfl⟩;rw[<-hx,<-hy]at hf hm ih;obtain⟨r,hr1,hr2⟩:=eqP a1 a2 x y;have nx:(⟨x,y⟩:F2)∈T.take (i+1).toNat↔f=true\/r=true:=by
  rw[gt_take T i0 (by omega),List.mem_append,<-hf,List.mem_singleton,hg,F2.mk.injEq,hr2];constructor
  ·rintro(q|⟨q,q'⟩)
   ·exact .inl q
   ·exact .inr ⟨q.symm,q'.symm⟩
  ·rintro(q|⟨q,q'⟩)
   ·exact .inl q
   ·exact .inr ⟨q.symm,q'.symm⟩
 refine hA.roundR Try.func7 r7_ok (zc ?_);refine br (i<n) (by rw[e_lss hA,e_ofNat hA]) (fun c1=>?_) (fun c1=>absurd ci c1)<;>refine zc ?_;rw[<-hh9];refine zc ?_;refine br (f=true) (by simp) (fun c2=>?_) (fun c2=>?_)<;>refine zc ?_
 ·rw[e2]
  exact ih (i+1) h9 true (by omega) (by omega) (by omega) (by rw[nx];simp[c2]) e9
 (refine zq ?_;repeat ((first|rw[e3]);refine zq ?_))
 rw[show imin u v=x by rw[e_imin hA,hx];split<;>omega,show imax u v=y by rw[e_imax hA,hy];split<;>omega];rw[e_eqAgg hA];refine⟨guardP,r,hr1,?_⟩;refine zc ?_;rw[e2];exact ih (i+1) h9 r (by omega) (by omega) (by omega) (by rw[nx];simp[c2]) e9
omit hA in
theorem way_both{l:List Vk}(ke:CkR l 0){x y:Int}{p q:List Int}{e e':Int}(h:WayO l x y p e)(k:WayO l y x q e'):e=e'/\q=p.reverse:=by
 cases h with
 |bad h0 h=>exact absurd (h.uniq ke) h0
 |arg _ h1=>cases k with
  |bad h0 h=>exact absurd (h.uniq ke) h0
  |arg _ _=>exact⟨rfl,rfl⟩
  |no _ k1 k2=>exact absurd ⟨k2,k1⟩ h1
  |ok _ k1 k2=>exact absurd ⟨k2,k1⟩ h1
 |no _ h1 h2 hp hw=>cases k with
  |bad h0 h=>exact absurd (h.uniq ke) h0
  |arg _ k1=>exact absurd ⟨h2,h1⟩ k1
  |no _ _ _ _ _=>exact⟨rfl,rfl⟩
  |ok _ _ _ kp kw=>
   obtain⟨rfl,rfl⟩:=hp.uniq kp;rw[path_back (parts_grows hp) x y,hw]at kw;cases kw
 |ok _ h1 h2 hp hw=>cases k with
  |bad h0 h=>exact absurd (h.uniq ke) h0
  |arg _ k1=>exact absurd ⟨h2,h1⟩ k1
  |no _ _ _ kp kw=>
   obtain⟨rfl,rfl⟩:=hp.uniq kp;rw[path_back (parts_grows hp) x y,hw]at kw;cases kw
  |ok _ _ _ kp kw=>
   obtain⟨rfl,rfl⟩:=hp.uniq kp;rw[path_back (parts_grows hp) x y,hw]at kw;exact⟨rfl,(Option.some.inj kw).symm⟩
omit hA in
theorem gt_rev{p:List Int}{k:Int}(k0:0<=k)(k1:k<p.length):gt p.reverse (p.length-1-k)=gt p k:=by
 unfold gt;rw[List.getD_eq_getElem?_getD,List.getD_eq_getElem?_getD,List.getElem?_reverse (by omega)]
 congr 2
 omega
omit hA in
theorem way_step{l:List Vk}(ke:CkR l 0){t:List F2}{pk:Int}(hp:TreeP l t pk){x y:Int}{p:List Int}(hw:pathR (trT t) x y=some p){k:Int}(k0:1<=k)(k1:k<p.length):(⟨min (gt p (k-1)) (gt p k),max (gt p (k-1)) (gt p k)⟩:F2)∈t:=by
 have hm:=gt_mem (walkP p) (i:=k-1) (by omega) (by cases p with|nil=>simp at k1;omega|cons a p=>rw[walkP_len];simp only[List.length_cons]at k1;omega);rw[gt_walkP p (k-1) (by omega) (by omega),show k-1+1=k by omega]at hm;have ha:=walkP_adj (parts_grows hp) p x y hw _ hm;simp only at ha;rcases ha with q|q
 ·have:=bas_lt ke (tree_in hp _ (mem_trT.1 q))
  simp only at this;rw[show min (gt p (k-1)) (gt p k)=gt p (k-1) by omega,show max (gt p (k-1)) (gt p k)=gt p k by omega];exact mem_trT.1 q
 ·have:=bas_lt ke (tree_in hp _ (mem_trT.1 q))
  simp only at this;rw[show min (gt p (k-1)) (gt p k)=gt p k by omega,show max (gt p (k-1)) (gt p k)=gt p (k-1) by omega];exact mem_trT.1 q
theorem ws_cmp{h0:AHeap}(hlow0:h0.low<=h0.next){l:List Vk}(ke:CkR l 0){t:List F2}{pk:Int}(hp:TreeP l t pk){x y:Int}{p:List Int}(hw:pathR (trT t) x y=some p){wa va:Option Addr}{nw wc nv vc:Nat}(hW:Rows iC 1 h0 wa nw p)(hV:Rows iC 1 h0 va nv p.reverse)(hnw:nw<=1000){ta:Option Addr}{n tc:Nat}(hT:Rows F2.cells 2 h0 ta n t)(hn:n<=1000){Q:Exit->SS->Prop}
  (hQ:∀h',Ext h0 h'->Q (.exit 6) ⟨[(7,.bool true)],32,[],h'⟩) :
  ∀(m:Nat) (k:Int) (h:AHeap),(nw-k).toNat<=m->0<=k->k<=nw->Ext h0 h->
   head 7 31 32 ⟨[(7,.bool true),(8,.slice wa nw wc),(10,.slice va nv vc),(12,.slice ta n tc),(19,.int .i64 k)],32,[],h⟩ Q:=by
 have hwl:=hW.len;have hvl:=hV.len;rw[List.length_reverse]at hvl;refine upTo (fun m ih=>?_);intro k h hm i0 i1 he;by_cases ci:k<nw
 rotate_left
 ·refine hA.roundR Try.func7 r7_ok (zc ?_)
  refine br (k<nw) (by rw[e_lss hA,e_ofNat hA]) (fun c1=>absurd c1 ci) (fun c1=>?_)<;>refine zc ?_;exact hQ h he
 obtain⟨m,rfl⟩:∃k,m=k+1:=⟨m-1,by omega⟩
 replace ih:=ih m rfl
 have e2:arith .add .i64 k 1=k+1:=add64 hA (by omega) (by omega);obtain⟨j1,hj1⟩:∃j:Int,j=nw-1:=⟨_,rfl⟩;obtain⟨j,hj⟩:∃j:Int,j=j1-k:=⟨_,rfl⟩;have e3:arith .sub .i64 (ofNat nw) 1=j1:=by rw[e_ofNat hA,sub64 hA (by omega) (by omega),hj1]
 have e4:arith .sub .i64 j1 k=j:=by rw[sub64 hA (by omega) (by omega),hj]
 obtain⟨h9,hh9⟩:∃z,z=bump h 13:=⟨_,rfl⟩;have eh9:Ext h h9:=by rw[hh9];exact ext_bump hA _ _
 have e9:=he.trans eh9;obtain⟨wb,wo,rfl,_,r1⟩:=(hW.ext e9).at (i:=k) (by omega) (by omega);obtain⟨vb,vo,rfl,_,r2⟩:=(hV.ext e9).at (i:=j) (by omega) (by omega);obtain⟨u,hu⟩:∃u,u=gt p k:=⟨_,rfl⟩;have q1:rd h9 wb (place wo k 1) 1 [.int .i64 u]:=by rw[hu];exact rd_ok hA (r1 0 1 (by omega) (by omega))
 have q2:rd h9 vb (place vo j 1) 1 [.int .i64 u]:=by
  have:=rd_ok hA (r2 0 1 (by omega) (by omega));rw[show j=(p.length:Int)-1-k by omega]at this ⊢;rw[gt_rev i0 (by omega),<-hu]at this;exact this
 refine hA.roundR Try.func7 r7_ok (zc ?_);refine br (k<nw) (by rw[e_lss hA,e_ofNat hA]) (fun c1=>?_) (fun c1=>absurd ci c1)<;>refine zc ?_;rw[<-hh9]
 (refine zq ?_;repeat ((first|rw[e3]|rw[e4]);refine zq ?_))
 refine br (u≠u) (by rw[e_neq hA]) (fun q=>absurd rfl q) (fun _=>?_)<;>refine zc ?_;refine br (k=0) (by rw[e_eql hA]) (fun c2=>?_) (fun c2=>?_)<;>refine zc ?_
 ·refine zc ?_
  rw[e2];exact ih (k+1) h9 (by omega) (by omega) (by omega) e9
 refine ws_find hA (e9.lowOK hlow0) (hW.ext e9) hnw (hT.ext e9) hn (k:=k) (by omega) ci rfl rfl (way_step ke hp hw (by omega) (by omega)) (fun h10 x10=>?_) n 0 h9 false (by omega) (by omega) (by omega) (by simp) (.refl h9);refine zc ?_;rw[show bnot true=false by rw[e_bnot hA];rfl];refine zc ?_;rw[e2];exact ih (k+1) h10 (by omega) (by omega) (by omega) (e9.trans x10)
theorem ways_ok(hW:LW F)(hF:∀args h,F 21 args h=none){h:AHeap}(hlow:h.low<=h.next){a:Option Addr}{n c:Nat}{l:List Vk}(hl:Vs h a n l){x y:Int}{Q:Value->AHeap->Prop}(hQ:∀h',Ext h h'->Q (.bool true) h') :
  call 7 [.slice a n c,.int .i64 x,.int .i64 y] h Q:=by
 refine hA.bodyR Try.func7 r7_ok (hA.alike _ _ _ rfl) hlow (zc ?_);refine alive_ok hA hW hF hlow (fun h1 x1=>⟨_,rfl,?_⟩);refine zc ?_;refine rcheck_any hA (x1.lowOK hlow) (hl.ext x1) (fun e h2 he x2=>⟨_,rfl,?_⟩) (fun h2 ke n64 x2=>⟨_,rfl,?_⟩)
 ·refine zc ?_
  refine br (e≠0) (by rw[e_neq hA]) (fun _=>?_) (fun q=>absurd he q)<;>refine zc ?_;exact hQ h2 (x1.trans x2)
 have x12:=x1.trans x2;refine zc ?_;refine br False (by rw[e_neq hA];rfl) (fun q=>q.elim) (fun _=>?_)<;>refine zc ?_;rw[show bnot true=false by rw[e_bnot hA];rfl];refine zc ?_;have hn:n<=1000:=by omega
 refine way_a hA hW (x12.lowOK hlow) (hl.ext x12) hn (fun p e h3 wa nw wc o3 r3 s3 x3=>⟨_,_,_,_,rfl,?_⟩);have x13:=x12.trans x3;refine zc ?_;refine way_a hA hW (x13.lowOK hlow) (hl.ext x13) hn (fun q e' h4 va nv vc o4 r4 s4 x4=>⟨_,_,_,_,rfl,?_⟩);have x14:=x13.trans x4;refine zc ?_;obtain⟨rfl,rfl⟩:=way_both ke o3 o4;refine tree_a hA hW (x14.lowOK hlow) (hl.ext x14) hn (fun t pk f h5 ta nt tc o5 r5 s5 x5=>⟨_,_,_,_,_,rfl,?_⟩);have x15:=x14.trans x5;refine zc ?_;have lw:=r3.len;have lv:=r4.len;rw[List.length_reverse]at lv;obtain rfl:nv=nw:=by omega
 cases o5 with
 |bad h0 kf=>exact absurd (kf.uniq ke) h0
 | @ok t pk _ hp=>
 refine br (e≠e) (by rw[e_neq hA]) (fun q=>absurd rfl q) (fun _=>?_)<;>refine zc ?_;refine br False (by rw[e_neq hA];rfl) (fun q=>q.elim) (fun _=>?_)<;>refine zc ?_;refine br ((nv:Int)≠nv) (by rw[e_neq hA,e_ofNat hA]) (fun q=>absurd rfl q) (fun _=>?_)<;>refine zc ?_;refine br (e=2) (by rw[e_eql hA]) (fun c2=>?_) (fun c2=>?_)<;>refine zc ?_
 ·subst c2
  have hno:¬(stS l x/\stS l y):=by
   cases o3 with
   |bad h0 kf=>exact absurd (kf.uniq ke) h0
   |arg _ q=>exact q
  refine in_st hA (x15.lowOK hlow) (hl.ext x15) hn (fun r h6 hr x6=>⟨_,rfl,?_⟩);have x16:=x15.trans x6;refine zc ?_;refine br (r=true) (by simp) (fun c3=>?_) (fun c3=>?_)<;>refine zc ?_
  ·refine in_st hA (x16.lowOK hlow) (hl.ext x16) hn (fun r2 h7 hr2 x7=>⟨_,rfl,?_⟩)
   have x17:=x16.trans x7;obtain rfl:r2=false:=by
    cases r2 with
    |false=>rfl
    |true=>exact absurd ⟨hr.1 c3,hr2.1 rfl⟩ hno
   refine zc ?_;rw[show bnot false=true by rw[e_bnot hA];rfl];exact hQ h7 x17
  ·rw[show bnot false=true by rw[e_bnot hA];rfl]
   exact hQ h6 x16
 have st:stS l x/\stS l y:=by
  cases o3 with
  |bad h0 kf=>exact absurd (kf.uniq ke) h0
  |arg _ q=>exact absurd rfl c2
  |no _ q1 q2=>exact⟨q1,q2⟩
  |ok _ q1 q2=>exact⟨q1,q2⟩
 have conn:e=0↔rlxN l 8 x=rlxN l 8 y:=by
  rw[rlx8 ke hp];cases o3 with
  |bad h0 kf=>exact absurd (kf.uniq ke) h0
  |arg _ q=>exact absurd rfl c2
  |no _ _ _ hp' hw=>
   obtain⟨rfl,rfl⟩:=hp.uniq hp';constructor
   ·intro q;omega
   ·rintro⟨p,q⟩;rw[hw]at q;cases q
  |ok _ _ _ hp' hw=>
   obtain⟨rfl,rfl⟩:=hp.uniq hp';exact⟨fun _=>⟨_,hw⟩,fun _=>rfl⟩
 have hs:=okV.st ke.ok0.2.1;obtain⟨sx0,sx8⟩:=stS_pos hs st.1;obtain⟨sy0,sy8⟩:=stS_pos hs st.2;refine zc ?_;refine⟨mk_ok hA (by omega) (by omega) (by omega),?_⟩;refine zc ?_;rw[e_zeros hA,e_nat hA];simp only[e_next hA,e_push hA];have eP:=Ext.push h5 1 (copies [Value.int .i64 0] (Int.toNat 8));have oP:=Own.push h5 1 (copies [Value.int .i64 0] (Int.toNat 8));have nP:(h5.push 1 (copies [Value.int .i64 0] (Int.toNat 8))).next=h5.next+1:=rfl;have LP:LabM (h5.push 1 (copies [Value.int .i64 0] (Int.toNat 8))) h5.next (fun _=>0):=by
  refine⟨⟨List.replicate 8 0,oP,rfl,fun z z0 z8=>?_⟩,by omega⟩;unfold gt;rw[List.getD_eq_getElem?_getD,List.getElem?_replicate,if_pos (by omega)];rfl
 generalize h5.push 1 (copies [Value.int .i64 0] (Int.toNat 8))=h6 at *;obtain⟨b,hb⟩:∃b,b=h5.next:=⟨_,rfl⟩;rw[<-hb]at LP ⊢;refine ws_fill hA (h0:=h5) (b:=b) (by omega) (fun h7 L7 x7=>?_) 8 0 h6 _ (by omega) (by omega) (by omega) LP (fun z z0 z1=>by omega) eP;refine zc ?_;refine ws_out hA (h0:=h5) (x15.lowOK hlow) (b:=b) (by omega) (hl.ext x15) hn ke.ok0.2.1 (fun h8 L8 x8=>?_) 8 0 0 h7 rfl (by omega) (by omega) L7 x7;have x18:=x15.trans x8;obtain⟨h9,hh9⟩:∃z,z=bump h8 32:=⟨_,rfl⟩;have eh9:Ext h8 h9:=by rw[hh9];exact ext_bump hA _ _
 have x19:=x18.trans eh9;have L9:=L8.ext eh9;obtain⟨Ax,hAx⟩:∃z,z=rlxN l 8 x:=⟨_,rfl⟩;obtain⟨Ay,hAy⟩:∃z,z=rlxN l 8 y:=⟨_,rfl⟩;have q1:rd h9 b (place 0 x 1) 1 [.int .i64 Ax]:=by rw[hAx];exact rd_ok hA (L9.get sx0 sx8)
 have q2:rd h9 b (place 0 y 1) 1 [.int .i64 Ay]:=by rw[hAy];exact rd_ok hA (L9.get sy0 sy8)
 rw[<-hAx,<-hAy]at conn;refine zc ?_;rw[<-hh9];refine zc ?_;refine br (x<0) (by rw[e_lss hA]) (fun q=>by omega) (fun _=>?_)<;>refine zc ?_;refine br (y<0) (by rw[e_lss hA]) (fun q=>by omega) (fun _=>?_)<;>refine zc ?_;refine br (8<=x) (by rw[e_geq hA,e_ofNat hA];rfl) (fun q=>by omega) (fun _=>?_)<;>refine zc ?_;refine br (8<=y) (by rw[e_geq hA,e_ofNat hA];rfl) (fun q=>by omega) (fun _=>?_)<;>refine zc ?_;refine zq ?_;rw[show bnot (bsame (cmp .eql e 0) (cmp .eql Ax Ay))=false by
  rw[e_bnot hA,e_bsame hA,e_eql hA,e_eql hA];by_cases c:e=0
  ·simp[c,conn.1 c]
  ·have hne:¬Ax=Ay:=fun q=>c (conn.2 q)
   simp[c,hne]]
 refine zc ?_;refine br (e≠0) (by rw[e_neq hA]) (fun c3=>?_) (fun c3=>?_)<;>refine zc ?_
 ·have e6:e=6:=by
   cases o3 with
   |bad h0 kf=>exact absurd (kf.uniq ke) h0
   |arg _ q=>exact absurd rfl c2
   |no _ _ _ _ _=>rfl
   |ok _ _ _ _ _=>exact absurd rfl c3
  subst e6;rw[show cmp .eql 6 6=true by rw[e_eql hA];rfl];exact hQ h9 x19
 have e0:e=0:=by omega
 subst e0;cases o3 with
 |bad h0 _=>exact absurd rfl h0
 | @ok t' pk' p' _ _ _ hp' hw=>
 obtain⟨rfl,rfl⟩:=hp.uniq hp';have hg:=parts_grows hp;obtain⟨⟨w1,ew1⟩,w2,ew2⟩:=path_ends hg hw;have pl:=path_len hg hw;have t7:=tree_len7 ke hp;have htl:(trT t).length=t.length:=by unfold trT;simp
 have ppos:0<p.length:=by rw[ew1];simp
 have g0:gt p 0=x:=by rw[ew1];rfl
 obtain⟨j,hj⟩:∃j:Int,j=nv-1:=⟨_,rfl⟩;have g1:gt p j=y:=by
  rw[hj,show(nv:Int)-1=((w2.length:Nat):Int) by rw[<-lw,ew2];simp];unfold gt;rw[ew2,List.getD_eq_getElem?_getD,List.getElem?_append_right (by omega)];simp
 have hap:apart p:=⟨fun s hs'=>by
  rcases path_mem hg hw s hs' with ⟨_,q⟩|q
  ·rw[q];exact⟨sx0,sx8⟩
  ·exact tree_st ke hp s q,path_nodup hg hw⟩
 have y9:=(((x4.trans x5).trans x8).trans eh9);obtain⟨wb,wo,rfl,_,s1⟩:=(r3.ext y9).at (i:=0) (by omega) (by omega);obtain⟨_,_,ec,_,s2⟩:=(r3.ext y9).at (i:=j) (by omega) (by omega);cases ec;have u1:rd h9 wb (place wo 0 1) 1 [.int .i64 x]:=by rw[<-g0];exact rd_ok hA (s1 0 1 (by omega) (by omega))
 have u2:rd h9 wb (place wo j 1) 1 [.int .i64 y]:=by rw[<-g1];exact rd_ok hA (s2 0 1 (by omega) (by omega))
 have ej:arith .sub .i64 (ofNat nv) 1=j:=by rw[e_ofNat hA,sub64 hA (by omega) (by omega),hj]
 refine br ((nv:Int)=0) (by rw[e_eql hA,e_ofNat hA]) (fun q=>by omega) (fun _=>?_)<;>refine zc ?_;refine zq ?_;refine br (x≠x) (by rw[e_neq hA]) (fun q=>absurd rfl q) (fun _=>?_)<;>refine zc ?_
 (refine zq ?_;repeat ((first|rw[ej]);refine zq ?_))
 refine br (y≠y) (by rw[e_neq hA]) (fun q=>absurd rfl q) (fun _=>?_)<;>refine zc ?_;refine br ((8:Int)<nv) (by rw[e_gtr hA,e_ofNat hA]) (fun q=>by omega) (fun _=>?_)<;>refine zc ?_;refine rapart_ok hA (x19.lowOK hlow) (r3.ext y9) (by omega) (fun r h10 hr x10=>⟨_,rfl,?_⟩);obtain rfl:r=true:=hr.2 hap;have x110:=x19.trans x10;refine zc ?_;rw[show bnot true=false by rw[e_bnot hA];rfl];refine zc ?_;refine ws_cmp hA (x110.lowOK hlow) ke hp hw (r3.ext (y9.trans x10)) (r4.ext (((x5.trans x8).trans eh9).trans x10)) (by omega) (r5.ext ((x8.trans eh9).trans x10)) (by have:=r5.len;omega) (fun h11 x11=>?_) nv 0 h10 (by omega) (by omega) (by omega) (.refl h10);refine zc ?_;exact hQ h11 (x110.trans x11)
