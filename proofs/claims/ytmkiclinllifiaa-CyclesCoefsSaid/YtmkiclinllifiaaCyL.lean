import Derived.Test.YtmkiclinllifiaaCyRy
set_option linter.unusedSimpArgs false
set_option linter.unusedVariables false
namespace Go.Proofs.Ytmkiclinllifiaa
open Go.Sim
set_option maxRecDepth 100000
def inL(l:List Vk)(p:F2):Bool:=decide (p∈l.map Vk.pr)
def oneL(l:List Vk)(p:F2):List F2:=if p∈l.map Vk.pr then [p] else []
def rowJ(i j:Nat):List F2:=((List.range j).filter (fun k=>decide (i<k))).map fun k:Nat=>⟨(i:Int),(k:Int)⟩
theorem rowJ_8(i:Nat):rowJ i 8=rowP i:=rfl
theorem rowJ_start(i:Nat):rowJ i (i+1)=[]:=by
 unfold rowJ;rw[List.filter_eq_nil_iff.2,List.map_nil];intro k hk;have:=List.mem_range.1 hk;simp;omega
theorem rowJ_step{i j:Nat}(h:i<j):rowJ i (j+1)=rowJ i j++[⟨(i:Int),(j:Int)⟩]:=by
 unfold rowJ;rw[List.range_succ,List.filter_append,List.map_append]
 congr 1
 rw[List.filter_cons_of_pos (by simpa using h)];rfl
theorem rowJ_len(i j:Nat):(rowJ i j).length<=j:=by
 unfold rowJ;rw[List.length_map];have:=List.length_filter_le (fun k=>decide (i<k)) (List.range j);rw[List.length_range]at this;exact this
def upPr(i:Nat):List F2:=(List.range i).flatMap rowP
theorem upPr_step(i:Nat):upPr (i+1)=upPr i++rowP i:=by
 unfold upPr;rw[List.range_succ,List.flatMap_append];simp
theorem upPr_len:∀i,(upPr i).length<=8*i
 |0=>by simp[upPr]
 |i+1=>by
  rw[upPr_step,List.length_append];have:=upPr_len i;have:=rowJ_len i 8;rw[rowJ_8]at this;omega
theorem oneL_filter(l:List Vk)(p:F2):[p].filter (inL l)=oneL l p:=by
 unfold oneL inL;by_cases c:p∈l.map Vk.pr
 ·rw[if_pos c,List.filter_cons_of_pos (by simpa using c)];rfl
 ·rw[if_neg c,List.filter_cons_of_neg (by simpa using c)];rfl
theorem oneL_len(l:List Vk)(p:F2):(oneL l p).length<=1:=by
 unfold oneL;split<;>simp
variable{F:Prims}{call head arith cmp scmp bnot bsame conv neg imax imin ofNat slen place inR nz geZ rd wr push next mkOK nat zeros sadd eqAgg cut slc sslc strAt part app cpy putAt fresh lowered bump wrote addN lt ne fpAll fpApp brk yn rng mget mput mnew bytes clr mrng ment:_}(hA:AP F ⟨call,head,arith,cmp,scmp,bnot,bsame,conv,neg,imax,imin,ofNat,slen,place,inR,nz,geZ,rd,wr,push,next,mkOK,nat,zeros,sadd,eqAgg,cut,slc,sslc,strAt,part,app,cpy,putAt,fresh,lowered,bump,wrote,addN,lt,ne,fpAll,fpApp,brk,yn,rng,mget,mput,mnew,bytes,clr,mrng,ment⟩)
include hA
theorem has_loop{h0:AHeap}(hlow:h0.low<=h0.next){a:Option Addr}{n c:Nat}{t:List F2}(hl:Rows F2.cells 2 h0 a n t)(hn:n<=1000){x y:Int}{Q:Exit->SS->Prop}
  (hyes:∀h',(⟨x,y⟩:F2)∈t->Ext h0 h'->∀e kn K,Q .ret ⟨(4,.bool true) :: e,kn,K,h'⟩)
  (hno:∀h',(⟨x,y⟩:F2)∉t->Ext h0 h'->∀e kn K,Q (.exit 0) ⟨e,kn,K,h'⟩) :
  ∀(m:Nat) (i:Int) (h:AHeap),(n-i).toNat<=m->0<=i->i<=n->(⟨x,y⟩:F2)∉t.take i.toNat->Ext h0 h->
   head 47 2 1 ⟨[(0,.slice a n c),(3,.pointer (some ⟨0,0,some 0⟩)),(5,.int .i64 i)],1,[(0,[.int .i64 x,.int .i64 y])],h⟩ Q:=by
 have hlen:=hl.len;refine upTo (fun m ih=>?_);intro i h hm i0 i1 hv he;by_cases ci:i<n
 rotate_left
 ·refine hA.roundR Try.func47 r47_ok (zc ?_)
  refine br (i<n) (by rw[e_lss hA,e_ofNat hA]) (fun c1=>absurd c1 ci) (fun c1=>?_)<;>refine zc ?_;rw[List.take_of_length_le (by omega)]at hv;exact hno h hv he _ _ _
 obtain⟨m,rfl⟩:∃k,m=k+1:=⟨m-1,by omega⟩
 replace ih:=ih m rfl
 obtain⟨h9,hh9⟩:∃z,z=bump h 6:=⟨_,rfl⟩;have e9:Ext h0 h9:=by rw[hh9];exact he.trans (ext_bump hA _ _)
 obtain⟨b,o,a1,a2,rfl,_,hg,r1,_⟩:=fr_at (hl.ext e9) (i:=i) i0 ci;have r2:=rd_ok hA r1;obtain⟨r,hr1,hr2⟩:=eqP a1 a2 x y;have hmem:(⟨a1,a2⟩:F2)∈t:=by rw[<-hg];exact gt_mem t i0 (by omega)
 refine hA.roundR Try.func47 r47_ok (zc ?_);refine br (i<n) (by rw[e_lss hA,e_ofNat hA]) (fun c1=>?_) (fun c1=>absurd ci c1)<;>refine zc ?_;rw[<-hh9];refine zq ?_;rw[e_eqAgg hA];refine⟨guardP,r,hr1,?_⟩;cases r with
 |true=>
  refine zc ?_;obtain⟨z1,z2⟩:=hr2.1 rfl;rw[z1,z2]at hmem;exact hyes h9 hmem e9 _ _ _
 |false=>
  refine zc ?_;rw[add64 hA (by omega) (by omega)];refine ih (i+1) h9 (by omega) (by omega) (by omega) (fun q=>?_) e9;rw[gt_take t i0 (by omega),hg]at q;rcases List.mem_append.1 q with z|z
  ·exact hv z
  ·have:=List.mem_singleton.1 z
   have:=hr2.2 ⟨(congrArg F2.n this).symm,(congrArg F2.d this).symm⟩;cases this
theorem has_ok{h:AHeap}(hlow:h.low<=h.next){a:Option Addr}{n c:Nat}{t:List F2}(hl:Rows F2.cells 2 h a n t)(hn:n<=1000){x y:Int}{Q:Value->AHeap->Prop}
  (hQ:∀(r:Bool) h',(r=true↔(⟨x,y⟩:F2)∈t)->Ext h h'->Q (.bool r) h'):call 47 [.slice a n c,.agg #[.int .i64 x,.int .i64 y]] h Q:=by
 refine hA.bodyR Try.func47 r47_ok (hA.alike _ _ _ rfl) hlow (zc ?_);refine has_loop hA hlow hl hn (fun h' hy x' e kn K=>?_) (fun h' hy x' e kn K=>?_) n 0 h (by omega) (by omega) (by omega) (by simp) (.refl h)
 ·refine zc ?_
  exact hQ true h' ⟨fun _=>hy,fun _=>rfl⟩ x'
 ·refine zc ?_
  exact hQ false h' ⟨(fun q=>by cases q),fun q=>absurd q hy⟩ x'
theorem prs_in{h0:AHeap}(hlow:h0.low<=h0.next){a:Option Addr}{n c:Nat}{l:List Vk}(hl:Vs h0 a n l)(hn:n<=1000)(hd:(l.map Vk.pr).Nodup){i j:Int}{L:List F2}(hL:L.length<=1000){Q:Exit->SS->Prop}
  (hQ:∀h' a' N c',Apd h' 2 a' N c' ((L++oneL l ⟨i,j⟩).flatMap F2.cells)->From h0.next a'->Ext h0 h'->(L++oneL l ⟨i,j⟩).length=N->Q (.exit 4) ⟨[(0,.slice a n c),(3,.slice a' N c'),(4,.int .i64 i),(5,.int .i64 j)],0,[],h'⟩) :
  ∀(m:Nat) (k:Int) (h:AHeap) (a':Option Addr) (N c':Nat),(n-k).toNat<=m->0<=k->k<=n->Apd h 2 a' N c' ((L++oneL (l.take k.toNat) ⟨i,j⟩).flatMap F2.cells)->From h0.next a'->Ext h0 h->(L++oneL (l.take k.toNat) ⟨i,j⟩).length=N->
   head 24 9 0 ⟨[(0,.slice a n c),(3,.slice a' N c'),(4,.int .i64 i),(5,.int .i64 j),(6,.int .i64 k)],0,[],h⟩ Q:=by
 have hlen:=hl.len;refine upTo (fun m ih=>?_);intro k h a' N c' hm k0 k1 hp hf he hlN;by_cases ci:k<n
 rotate_left
 ·refine hA.roundR Try.func24 r24_ok (zc ?_)
  refine br (k<n) (by rw[e_lss hA,e_ofNat hA]) (fun c1=>absurd c1 ci) (fun c1=>?_)<;>refine zc ?_;rw[List.take_of_length_le (by omega)]at hp hlN;exact hQ h a' N c' hp hf he hlN
 obtain⟨m,rfl⟩:∃k,m=k+1:=⟨m-1,by omega⟩
 replace ih:=ih m rfl
 have e2:arith .add .i64 k 1=k+1:=add64 hA (by omega) (by omega);obtain⟨bb,o,x,y,re,im,d,w,rfl,hbb,hg,_,rf⟩:=vs_at (hl.ext he) (i:=k) k0 ci;rw[hg]at rf;have p1:rd h bb (addN (place o k 6) 0) 1 [.int .i64 x]:=rd_fld hA (rf 0 1 (by omega) (by omega));have p2:rd h bb (addN (place o k 6) 1) 1 [.int .i64 y]:=rd_fld hA (rf 1 1 (by omega) (by omega));have htk:=gt_take l k0 (by omega);rw[hg]at htk;have hn1:=oneL_len (l.take k.toNat) ⟨i,j⟩;have hNs:N<=100000:=by rw[List.length_append]at hlN;omega
 have skip:¬(x=i/\y=j)->oneL (l.take (k+1).toNat) ⟨i,j⟩=oneL (l.take k.toNat) ⟨i,j⟩:=fun hne=>by
  have:((⟨i,j⟩:F2)∈(l.take (k+1).toNat).map Vk.pr)↔((⟨i,j⟩:F2)∈(l.take k.toNat).map Vk.pr):=by
   rw[htk,List.map_append,List.mem_append];refine⟨fun q=>q.elim id (fun q=>?_),.inl⟩;have:=List.mem_singleton.1 q;exact absurd ⟨(congrArg F2.n this).symm,(congrArg F2.d this).symm⟩ hne
  unfold oneL;simp only[this]
 refine hA.roundR Try.func24 r24_ok (zc ?_);refine br (k<n) (by rw[e_lss hA,e_ofNat hA]) (fun c1=>?_) (fun c1=>absurd ci c1)<;>refine zc ?_;refine zq ?_;refine br (x=i) (by rw[e_eql hA]) (fun c2=>?_) (fun c2=>?_)<;>refine zc ?_
 rotate_left
 ·rw[e2]
  refine ih (k+1) h a' N c' (by omega) (by omega) (by omega) ?_ hf he ?_<;>rw[skip (fun q=>c2 q.1)]<;>assumption
 refine zq ?_;refine br (y=j) (by rw[e_eql hA]) (fun c3=>?_) (fun c3=>?_)<;>refine zc ?_
 rotate_left
 ·rw[e2]
  refine ih (k+1) h a' N c' (by omega) (by omega) (by omega) ?_ hf he ?_<;>rw[skip (fun q=>c3 q.2)]<;>assumption
 have hnot:(⟨i,j⟩:F2)∉(l.take k.toNat).map Vk.pr:=fun hm'=>by
  have hd':((l.take (k+1).toNat).map Vk.pr).Nodup:=hd.sublist (List.Sublist.map _ (List.take_sublist _ _));rw[htk,List.map_append,List.nodup_append]at hd';exact hd'.2.2 _ hm' _ (List.mem_singleton.2 rfl) (by rw[<-c2,<-c3];rfl)
 have o1:oneL (l.take k.toNat) ⟨i,j⟩=[]:=by unfold oneL;rw[if_neg hnot]
 have o2:oneL (l.take (k+1).toNat) ⟨i,j⟩=[⟨i,j⟩]:=by
  unfold oneL;rw[if_pos];rw[htk,List.map_append,<-c2,<-c3];exact List.mem_append_right _ (List.mem_singleton.2 rfl)
 rw[o1,List.append_nil]at hp hlN;refine zq ?_;refine appR_ok hA TP2 f2_len (by omega) f2_ok' (v:=⟨i,j⟩) hp hNs (fun a2 c2' h2 hp2 hx=>?_);obtain⟨x2,f2⟩:=hx h0 he hf;refine zc ?_;rw[e2];refine ih (k+1) h2 a2 (N+1) c2' (by omega) (by omega) (by omega) (by rw[o2];exact hp2) f2 x2 (by rw[o2];simp[hlN])
theorem prs_mid{h0:AHeap}(hlow:h0.low<=h0.next){a:Option Addr}{n c:Nat}{l:List Vk}(hl:Vs h0 a n l)(hn:n<=1000)(hd:(l.map Vk.pr).Nodup){i:Nat}(hi:i<8){I:Int}(hI:I=i){L:List F2}(hL:L.length<=100){Q:Exit->SS->Prop}
  (hQ:∀h' a' N c',Apd h' 2 a' N c' ((L++(rowP i).filter (inL l)).flatMap F2.cells)->From h0.next a'->Ext h0 h'->(L++(rowP i).filter (inL l)).length=N->Q (.exit 2) ⟨[(0,.slice a n c),(3,.slice a' N c'),(4,.int .i64 I)],0,[],h'⟩) :
  ∀(m j:Nat) (J:Int) (h:AHeap) (a':Option Addr) (N c':Nat),J=j->8-j<=m->i<j->j<=8->Apd h 2 a' N c' ((L++(rowJ i j).filter (inL l)).flatMap F2.cells)->From h0.next a'->Ext h0 h->(L++(rowJ i j).filter (inL l)).length=N->
   head 24 6 0 ⟨[(0,.slice a n c),(3,.slice a' N c'),(4,.int .i64 I),(5,.int .i64 J)],0,[],h⟩ Q:=by
 refine upTo (fun m ih=>?_);intro j J h a' N c' hJ hm j0 j1 hp hf he hlN;by_cases cj:j<8
 rotate_left
 ·obtain rfl:j=8:=by omega
  refine hA.roundR Try.func24 r24_ok (zc ?_);refine br (J<8) (by rw[e_lss hA]) (fun c1=>by omega) (fun c1=>?_)<;>refine zc ?_;rw[rowJ_8]at hp hlN;exact hQ h a' N c' hp hf he hlN
 obtain⟨m,rfl⟩:∃k,m=k+1:=⟨m-1,by omega⟩
 replace ih:=ih m rfl
 have e2:arith .add .i64 J 1=J+1:=add64 hA (by omega) (by omega);have hb:(L++(rowJ i j).filter (inL l)).length<=1000:=by
  have:=List.length_filter_le (inL l) (rowJ i j);have:=rowJ_len i j;rw[List.length_append];omega
 refine hA.roundR Try.func24 r24_ok (zc ?_);refine br (J<8) (by rw[e_lss hA]) (fun c1=>?_) (fun c1=>by omega)<;>refine zc ?_;refine prs_in hA hlow hl hn hd (i:=I) (j:=J) (L:=L++(rowJ i j).filter (inL l)) hb (fun h' a2 N2 c2 hp2 hf2 he2 hl2=>?_) n 0 h a' N c' (by omega) (by omega) (by omega) (by simp only[oneL];simpa using hp) hf he (by simp only[oneL];simpa using hlN);refine zc ?_;rw[e2];have e3:L++(rowJ i (j+1)).filter (inL l)=L++(rowJ i j).filter (inL l)++oneL l ⟨I,J⟩:=by
  rw[rowJ_step j0,List.filter_append,oneL_filter,List.append_assoc,hJ,hI]
 exact ih (j+1) (J+1) h' a2 N2 c2 (by omega) (by omega) (by omega) (by omega) (by rw[e3];exact hp2) hf2 he2 (by rw[e3];exact hl2)
theorem prs_out{h0:AHeap}(hlow:h0.low<=h0.next){a:Option Addr}{n c:Nat}{l:List Vk}(hl:Vs h0 a n l)(hn:n<=1000)(hd:(l.map Vk.pr).Nodup){Q:Exit->SS->Prop}
  (hQ:∀h' a' N c',Apd h' 2 a' N c' ((basP l).flatMap F2.cells)->From h0.next a'->Ext h0 h'->(basP l).length=N->Q (.exit 0) ⟨[(3,.slice a' N c')],0,[],h'⟩) :
  ∀(m i:Nat) (I:Int) (h:AHeap) (a':Option Addr) (N c':Nat),I=i->8-i<=m->i<=8->Apd h 2 a' N c' (((upPr i).filter (inL l)).flatMap F2.cells)->From h0.next a'->Ext h0 h->((upPr i).filter (inL l)).length=N->
   head 24 3 0 ⟨[(0,.slice a n c),(3,.slice a' N c'),(4,.int .i64 I)],0,[],h⟩ Q:=by
 refine upTo (fun m ih=>?_);intro i I h a' N c' hI hm i1 hp hf he hlN;by_cases ci:i<8
 rotate_left
 ·obtain rfl:i=8:=by omega
  refine hA.roundR Try.func24 r24_ok (zc ?_);refine br (I<8) (by rw[e_lss hA]) (fun c1=>by omega) (fun c1=>?_)<;>refine zc ?_;exact hQ h a' N c' hp hf he hlN
 obtain⟨m,rfl⟩:∃k,m=k+1:=⟨m-1,by omega⟩
 replace ih:=ih m rfl
 have e2:arith .add .i64 I 1=I+1:=add64 hA (by omega) (by omega);have hb:((upPr i).filter (inL l)).length<=100:=by
  have:=List.length_filter_le (inL l) (upPr i);have:=upPr_len i;omega
 refine hA.roundR Try.func24 r24_ok (zc ?_);refine br (I<8) (by rw[e_lss hA]) (fun c1=>?_) (fun c1=>by omega)<;>refine zc ?_;rw[e2];refine prs_mid hA hlow hl hn hd ci hI (L:=(upPr i).filter (inL l)) hb (fun h' a2 N2 c2 hp2 hf2 he2 hl2=>?_) 8 (i+1) (I+1) h a' N c' (by omega) (by omega) (by omega) (by omega) (by rw[rowJ_start];simpa using hp) hf he (by rw[rowJ_start];simpa using hlN);refine zc ?_;rw[e2];have e3:(upPr (i+1)).filter (inL l)=(upPr i).filter (inL l)++(rowP i).filter (inL l):=by
  rw[upPr_step,List.filter_append]
 exact ih (i+1) (I+1) h' a2 N2 c2 (by omega) (by omega) (by omega) (by rw[e3];exact hp2) hf2 he2 (by rw[e3];exact hl2)
theorem pairs_ok{h:AHeap}(hlow:h.low<=h.next){a:Option Addr}{n c:Nat}{l:List Vk}(hl:Vs h a n l)(hn:n<=1000)(hd:(l.map Vk.pr).Nodup){Q:Value->AHeap->Prop}
  (hQ:∀h' a' N c',Rows F2.cells 2 h' a' N (basP l)->From h.next a'->Ext h h'->Q (.slice a' N c') h'):call 24 [.slice a n c] h Q:=by
 refine hA.bodyR Try.func24 r24_ok (hA.alike _ _ _ rfl) hlow (zc ?_);refine prs_out hA hlow hl hn hd (fun h' a' N c' hp hf he hlN=>?_) 8 0 0 h none 0 0 rfl (by omega) (by omega) (Apd.nil _ _) (From.none _) (.refl h) rfl;refine zc ?_;exact hQ h' a' N c' ⟨hp.cells,f2_len,by omega⟩ hf he
end Go.Proofs.Ytmkiclinllifiaa
namespace Go.Proofs.Ytmkiclinllifiaa
open Go.Sim
set_option maxRecDepth 100000
structure RB(B:List Bool)(R:Int->Bool):Prop where
 len:B.length=8
 val:∀x:Int,0<=x->x<8->B.getD x.toNat false=R x
theorem RB.set{B:List Bool}{R:Int->Bool}(h:RB B R){s:Int}(s0:0<=s)(s1:s<8):RB (B.set s.toNat true) (setR R s):=by
 refine⟨by rw[List.length_set];exact h.len,fun x x0 x1=>?_⟩;rw[List.getD_eq_getElem?_getD,List.getElem?_set];unfold setR;by_cases c:x=s
 ·rw[if_pos c,c,if_pos rfl,if_pos (by rw[h.len];omega)];rfl
 ·rw[if_neg c,if_neg (by omega),<-List.getD_eq_getElem?_getD]
  exact h.val x x0 x1
theorem reach_mono{P:List F2}{R:Int->Bool}{t:List F2}{R':Int->Bool}{t':List F2}(h:Reach P R t R' t'):∀x,R x=true->R' x=true:=by
 induction h with
 |stop _=>exact fun _ h=>h
 | @step R t p R' t' h r ih=>
  intro x hx;refine ih x ?_;unfold addR setR;by_cases c:x=p.d
  ·rw[if_pos c]
  ·rw[if_neg c]
   by_cases c2:x=p.n
   ·rw[if_pos c2]
   ·rw[if_neg c2];exact hx
structure GR(h0:AHeap)(rc:Nat)(B:List Bool)(R:Int->Bool)(t:List F2)(a':Option Addr)(k c':Nat)(h:AHeap):Prop where
 ext:Ext h0 h
 lt:rc<h.next
 own:Own h rc 1 (B.map Value.bool)
 rb:RB B R
 tr:Apd h 2 a' k c' (t.flatMap F2.cells)
 fr:From (rc+1) a'
 len:t.length=k
theorem GR.more{h0:AHeap}{rc:Nat}{B:List Bool}{R:Int->Bool}{t:List F2}{a':Option Addr}{k c':Nat}{h h':AHeap}(g:GR h0 rc B R t a' k c' h)(x:Ext h h'):GR h0 rc B R t a' k c' h':=
 ⟨g.ext.trans x,Nat.lt_of_lt_of_le g.lt x.next,g.own.ext x g.lt,g.rb,g.tr.ext x,g.fr,g.len⟩
variable{F:Prims}{call head arith cmp scmp bnot bsame conv neg imax imin ofNat slen place inR nz geZ rd wr push next mkOK nat zeros sadd eqAgg cut slc sslc strAt part app cpy putAt fresh lowered bump wrote addN lt ne fpAll fpApp brk yn rng mget mput mnew bytes clr mrng ment:_}(hA:AP F ⟨call,head,arith,cmp,scmp,bnot,bsame,conv,neg,imax,imin,ofNat,slen,place,inR,nz,geZ,rd,wr,push,next,mkOK,nat,zeros,sadd,eqAgg,cut,slc,sslc,strAt,part,app,cpy,putAt,fresh,lowered,bump,wrote,addN,lt,ne,fpAll,fpApp,brk,yn,rng,mget,mput,mnew,bytes,clr,mrng,ment⟩)
include hA
theorem sc_loop{h0:AHeap}(hlow:h0.low<=h0.next){P:List F2}{a4:Option Addr}{n4 c4:Nat}(hP:Rows F2.cells 2 h0 a4 n4 P)(hn4:n4<=1000)(hok:∀p∈P,okP p.n p.d){rc:Nat}(hrc:h0.next<=rc){a:Option Addr}{n c:Nat}{pk iv:Int}{B:List Bool}{R:Int->Bool}{t:List F2}{a':Option Addr}{k c':Nat}(hk:k<=1000){Q:Exit->SS->Prop}
  (hno:∀h',P.find? (cutP R)=none->GR h0 rc B R t a' k c' h'->Q (.exit 4) ⟨[(0,.slice a n c),(4,.slice a4 n4 c4),(5,.slice (some ⟨rc,0,none⟩) 8 8),(6,.slice a' k c'),(7,.int .i64 pk),(8,.int .i64 iv),(9,.bool false)],0,[],h'⟩)
  (hyes:∀h' B' a2 c2 p,P.find? (cutP R)=some p->GR h0 rc B' (addR R p) (t++[p]) a2 (k+1) c2 h'->Q (.exit 4) ⟨[(0,.slice a n c),(4,.slice a4 n4 c4),(5,.slice (some ⟨rc,0,none⟩) 8 8),(6,.slice a2 (k+1) c2),(7,.int .i64 pk),(8,.int .i64 iv),(9,.bool true)],0,[],h'⟩) :
  ∀(m:Nat) (i:Int) (h:AHeap),(n4-i).toNat<=m->0<=i->i<=n4->(∀j:Int,0<=j->j<i->cutP R (gt P j)=false)->GR h0 rc B R t a' k c' h->
   head 37 15 0 ⟨[(0,.slice a n c),(4,.slice a4 n4 c4),(5,.slice (some ⟨rc,0,none⟩) 8 8),(6,.slice a' k c'),(7,.int .i64 pk),(8,.int .i64 iv),(9,.bool false),(10,.int .i64 i)],0,[],h⟩ Q:=by
 have hlen:=hP.len;have none_of:∀i:Int,(n4:Int)<=i->(∀j:Int,0<=j->j<i->cutP R (gt P j)=false)->P.find? (cutP R)=none:=fun i hi hv=>by
  rw[List.find?_eq_none];intro x hx;obtain⟨j,j0,j1,rfl⟩:=mem_gt hx;rw[hv j j0 (by omega)];simp
 refine upTo (fun m ih=>?_);intro i h hm i0 i1 hv hg;by_cases ci:i<n4
 rotate_left
 ·refine hA.roundR Try.func37 r37_ok (zc ?_)
  refine br (i<n4) (by rw[e_lss hA,e_ofNat hA]) (fun c1=>absurd c1 ci) (fun c1=>?_)<;>refine zc ?_;exact hno h (none_of i (by omega) hv) hg
 obtain⟨m,rfl⟩:∃k,m=k+1:=⟨m-1,by omega⟩
 replace ih:=ih m rfl
 obtain⟨h9,hh9⟩:∃z,z=bump h 17:=⟨_,rfl⟩;have e9:Ext h h9:=by rw[hh9];exact ext_bump hA _ _
 have g9:=hg.more e9;obtain⟨b,o,x,y,rfl,_,hgt,_,f0,f1⟩:=fr_at (hP.ext g9.ext) (i:=i) i0 ci;have hp:=hok (gt P i) (gt_mem P i0 (by omega));rw[hgt]at hp;obtain⟨x0,x1,y0,y1,_⟩:=hp.is;simp only at x0 x1 y0 y1;have p1:rd h9 b (addN (place o i 2) 0) 1 [.int .i64 x]:=rd_fld hA f0;have p2:rd h9 b (addN (place o i 2) 1) 1 [.int .i64 y]:=rd_fld hA f1;obtain⟨vx,hvx⟩:∃z,z=R x:=⟨_,rfl⟩;obtain⟨vy,hvy⟩:∃z,z=R y:=⟨_,rfl⟩;have lb:=g9.rb.len;have p3:rd h9 rc (place 0 x 1) 1 [.bool vx]:=by rw[hvx,<-g9.rb.val x x0 x1];exact rd_ok hA (by rw[Nat.zero_add,Nat.mul_one];exact getB g9.own (by omega))
 have p4:rd h9 rc (place 0 y 1) 1 [.bool vy]:=by rw[hvy,<-g9.rb.val y y0 y1];exact rd_ok hA (by rw[Nat.zero_add,Nat.mul_one];exact getB g9.own (by omega))
 refine hA.roundR Try.func37 r37_ok (zc ?_);refine br (i<n4) (by rw[e_lss hA,e_ofNat hA]) (fun c1=>?_) (fun c1=>absurd ci c1)<;>refine zc ?_;rw[show bnot false=true by rw[e_bnot hA];rfl];refine zc ?_;rw[<-hh9];refine zq ?_;have hcut:cutP R (gt P i)=(vx != vy):=by rw[hgt,hvx,hvy];rfl
 refine br (cutP R (gt P i)=true) (by rw[e_bnot hA,e_bsame hA,hcut];cases vx<;>cases vy<;>rfl) (fun c2=>?_) (fun c2=>?_)<;>refine zc ?_
 rotate_left
 ·rw[add64 hA (by omega) (by omega)]
  refine ih (i+1) h9 (by omega) (by omega) (by omega) (fun j j0 j1=>?_) g9;by_cases z:j=i
  ·rw[z];simpa using c2
  ·exact hv j j0 (by omega)
 obtain⟨h10,hh10⟩:∃z,z=bump h9 16:=⟨_,rfl⟩;have e10:Ext h9 h10:=by rw[hh10];exact ext_bump hA _ _
 have g10:=g9.more e10;have f0':=(Rows.ext hP g10.ext);obtain⟨_,_,_,_,hc',_,hgt',_,f0',f1'⟩:=fr_at (hP.ext g10.ext) (i:=i) i0 ci;cases hc';rw[hgt]at hgt';cases hgt';have p1':rd h10 b (addN (place o i 2) 0) 1 [.int .i64 x]:=rd_fld hA f0';have p2':rd h10 b (addN (place o i 2) 1) 1 [.int .i64 y]:=rd_fld hA f1';rw[<-hh10];refine zq ?_;have lb10:=g10.rb.len;obtain⟨h11,w11,o11,k11⟩:=setB g10.own (i:=x.toNat) (by omega) true;refine⟨h11,wr_ok hA (by rw[Nat.zero_add,Nat.mul_one];exact w11),?_⟩;refine zq ?_;obtain⟨h12,w12,o12,k12⟩:=setB o11 (i:=y.toNat) (by rw[List.length_set];omega) true;refine⟨h12,wr_ok hA (by rw[Nat.zero_add,Nat.mul_one];exact w12),?_⟩;have n11:=k11.next;have n12:=k12.next;have x12:Ext h0 h12:=k12.ext (k11.ext g10.ext hrc) hrc;have get12:∀i,i≠rc->h12.m.get i=h10.m.get i:=fun i hi=>by rw[k12.get i hi,k11.get i hi]
 have rb12:RB ((B.set x.toNat true).set y.toNat true) (addR R ⟨x,y⟩):=(g10.rb.set x0 x1).set y0 y1;have tr12:Apd h12 2 a' k c' (t.flatMap F2.cells):=g10.tr.of_get (by omega) (fun ad had hlt=>get12 _ (by have:=g10.fr ad had;omega));obtain⟨_,_,_,_,hc'',_,hgt'',r12,_,_⟩:=fr_at (hP.ext x12) (i:=i) i0 ci;cases hc'';rw[hgt]at hgt'';cases hgt'';have q12:=rd_ok hA r12;refine zq ?_;have hk':k<=100000:=by omega
 obtain⟨hB,hhB⟩:∃z:AHeap,z = { next:=rc+1,low:=h12.low,m:=h12.m }:=⟨_,rfl⟩;have xB:Ext hB h12:=by rw[hhB];exact ext_cut (by have:=g10.lt;omega)
 have nB:hB.next=rc+1:=by rw[hhB]
 refine appR_ok hA TP2 f2_len (by omega) f2_ok' (v:=⟨x,y⟩) tr12 hk' (fun a2 c2' h13 hp13 hx=>?_);obtain⟨x13,_⟩:=hx h0 x12 (fun ad had=>by have:=g10.fr ad had;omega);obtain⟨xB13,hf13⟩:=hx hB xB (by rw[nB];exact g10.fr);rw[nB]at hf13;have G13:GR h0 rc ((B.set x.toNat true).set y.toNat true) (addR R ⟨x,y⟩) (t++[⟨x,y⟩]) a2 (k+1) c2' h13:=
  ⟨x13,by have:=xB13.next;omega,by unfold Own;rw[xB13.get rc (by omega),hhB];exact o12,rb12,hp13,hf13,by simp[g10.len]⟩
 have hfind:P.find? (cutP R)=some ⟨x,y⟩:=by rw[<-hgt];exact find_gt i0 (by omega) c2 hv
 refine zc ?_;rw[add64 hA (by omega) (by omega)];obtain⟨i2,hi2⟩:∃z,z=i+1:=⟨_,rfl⟩;rw[<-hi2];refine hA.roundR Try.func37 r37_ok (zc ?_);refine br (i2<n4) (by rw[e_lss hA,e_ofNat hA]) (fun c5=>?_) (fun c5=>?_)<;>refine zc ?_
 ·rw[show bnot true=false by rw[e_bnot hA];rfl]
  refine zc ?_;exact hyes h13 _ a2 c2' ⟨x,y⟩ hfind G13
 ·exact hyes h13 _ a2 c2' ⟨x,y⟩ hfind G13
theorem pt_loop{h0:AHeap}(hlow:h0.low<=h0.next){P:List F2}{a4:Option Addr}{n4 c4:Nat}(hP:Rows F2.cells 2 h0 a4 n4 P)(hn4:n4<=1000)(hok:∀p∈P,okP p.n p.d){rc:Nat}(hrc:h0.next<=rc){a:Option Addr}{n c:Nat}{pk iv:Int}{Q:Exit->SS->Prop} :
  ∀(m:Nat) (B:List Bool) (R:Int->Bool) (t:List F2) (h:AHeap) (a':Option Addr) (k c':Nat) (mo:Bool),unr R<=m->k+unr R<=8->GR h0 rc B R t a' k c' h->(mo=false->P.find? (cutP R)=none)->
   (∀B' R' t' h' a2 k2 c2,Reach P R t R' t'->GR h0 rc B' R' t' a2 k2 c2 h'->k2+unr R'<=8->unr R'<=unr R->Q (.exit 2) ⟨[(0,.slice a n c),(4,.slice a4 n4 c4),(5,.slice (some ⟨rc,0,none⟩) 8 8),(6,.slice a2 k2 c2),(7,.int .i64 pk),(8,.int .i64 iv)],0,[],h'⟩)->
   head 37 12 0 ⟨[(0,.slice a n c),(4,.slice a4 n4 c4),(5,.slice (some ⟨rc,0,none⟩) 8 8),(6,.slice a' k c'),(7,.int .i64 pk),(8,.int .i64 iv),(9,.bool mo)],0,[],h⟩ Q:=by
 intro m
 induction m with
 |zero=>
  intro B R t h a' k c' mo hm hk8 hg hmo hQ;cases mo with
  |false=>
   refine hA.roundR Try.func37 r37_ok (zc ?_);exact hQ B R t h a' k c' (.stop (hmo rfl)) hg hk8 (Nat.le_refl _)
  |true=>
   refine hA.roundR Try.func37 r37_ok (zc ?_);refine sc_loop hA hlow hP hn4 hok hrc (by omega) (fun h' hf g=>?_) (fun h' B' a2 c2 p hf g=>?_) n4 0 h (by omega) (by omega) (by omega) (fun j j0 j1=>by omega) hg
   ·refine zc ?_
    refine hA.roundR Try.func37 r37_ok (zc ?_);exact hQ B R t h' a' k c' (.stop hf) g hk8 (Nat.le_refl _)
   ·have:=unr_add (hok p (List.mem_of_find?_eq_some hf)) (List.find?_some hf)
    omega
 |succ m ih=>
 intro B R t h a' k c' mo hm hk8 hg hmo hQ;cases mo with
 |false=>
  refine hA.roundR Try.func37 r37_ok (zc ?_);exact hQ B R t h a' k c' (.stop (hmo rfl)) hg hk8 (Nat.le_refl _)
 |true=>
  refine hA.roundR Try.func37 r37_ok (zc ?_);refine sc_loop hA hlow hP hn4 hok hrc (by omega) (fun h' hf g=>?_) (fun h' B' a2 c2 p hf g=>?_) n4 0 h (by omega) (by omega) (by omega) (fun j j0 j1=>by omega) hg
  ·refine zc ?_
   refine hA.roundR Try.func37 r37_ok (zc ?_);exact hQ B R t h' a' k c' (.stop hf) g hk8 (Nat.le_refl _)
  ·have hu:=unr_add (hok p (List.mem_of_find?_eq_some hf)) (List.find?_some hf)
   refine zc ?_;refine ih B' (addR R p) (t++[p]) h' a2 (k+1) c2 true (by omega) (by omega) g (fun q=>by cases q) ?_;intro B2 R2 t2 h2 a3 k3 c3 j1 j2 j3 j4;exact hQ B2 R2 t2 h2 a3 k3 c3 (.step hf j1) j2 j3 (by omega)
theorem gw_out{h0:AHeap}(hlow:h0.low<=h0.next){P:List F2}{a4:Option Addr}{n4 c4:Nat}(hP:Rows F2.cells 2 h0 a4 n4 P)(hn4:n4<=1000){l:List Vk}(hs:stOK l)(hok:∀p∈P,okP p.n p.d){rc:Nat}(hrc:h0.next<=rc){a:Option Addr}{n c:Nat}(hl:Vs h0 a n l)(hn:n<=1000){Q:Exit->SS->Prop} :
  ∀(m:Nat) (i:Int) (B:List Bool) (R:Int->Bool) (t:List F2) (h:AHeap) (a':Option Addr) (k c':Nat) (pk:Int),(8-i).toNat<=m->0<=i->i<=8->k+unr R<=8->0<=pk->pk+unr R<=8->GR h0 rc B R t a' k c' h->(∀x,stS l x->x<i->R x=true)->
   (∀t' h' a2 k2 c2 pk',Parts P (stS l) R t pk t' pk'->Apd h' 2 a2 k2 c2 (t'.flatMap F2.cells)->From h0.next a2->Ext h0 h'->t'.length=k2->k2<=8->Q (.exit 0) ⟨[(6,.slice a2 k2 c2),(7,.int .i64 pk')],0,[],h'⟩)->
   head 37 6 0 ⟨[(0,.slice a n c),(4,.slice a4 n4 c4),(5,.slice (some ⟨rc,0,none⟩) 8 8),(6,.slice a' k c'),(7,.int .i64 pk),(8,.int .i64 i)],0,[],h⟩ Q:=by
 have fin:∀(i:Int) (B:List Bool) (R:Int->Bool) (t:List F2) (h:AHeap) (a':Option Addr) (k c':Nat) (pk:Int),¬i<8->k+unr R<=8->GR h0 rc B R t a' k c' h->(∀x,stS l x->x<i->R x=true)->
   (∀t' h' a2 k2 c2 pk',Parts P (stS l) R t pk t' pk'->Apd h' 2 a2 k2 c2 (t'.flatMap F2.cells)->From h0.next a2->Ext h0 h'->t'.length=k2->k2<=8->Q (.exit 0) ⟨[(6,.slice a2 k2 c2),(7,.int .i64 pk')],0,[],h'⟩)->
   Q (.exit 0) ⟨[(6,.slice a' k c'),(7,.int .i64 pk)],0,[],h⟩:=fun i B R t h a' k c' pk hi hk hg hx hQ=>
  hQ t h a' k c' pk (.stop (fun x sx=>hx x sx (by have:=(stS_pos hs sx).2;omega))) hg.tr (fun ad had=>by have:=hg.fr ad had;omega) hg.ext hg.len (by omega)
 refine upTo (fun m ih=>?_);intro i B R t h a' k c' pk hm i0 i1 hk8 hp0 hp8 hg hx hQ;by_cases ci:i<8
 rotate_left
 ·refine hA.roundR Try.func37 r37_ok (zc ?_)
  refine br (i<8) (by rw[e_lss hA]) (fun c1=>by omega) (fun c1=>?_)<;>refine zc ?_;exact fin i B R t h a' k c' pk c1 hk8 hg hx hQ
 obtain⟨m,rfl⟩:∃k,m=k+1:=⟨m-1,by omega⟩
 replace ih:=ih m rfl
 have e2:arith .add .i64 i 1=i+1:=add64 hA (by omega) (by omega);have e3:arith .add .i64 pk 1=pk+1:=add64 hA (by omega) (by omega);refine hA.roundR Try.func37 r37_ok (zc ?_);refine br (i<8) (by rw[e_lss hA]) (fun c1=>?_) (fun c1=>absurd ci c1)<;>refine zc ?_;refine in_st hA (hg.ext.lowOK hlow) (hl.ext hg.ext) hn (fun r h1 hr x1=>⟨_,rfl,?_⟩);refine zc ?_;have g1:=hg.more x1;refine br (r=false) (by rw[e_bnot hA];cases r<;>rfl) (fun c2=>?_) (fun c2=>?_)<;>refine zc ?_
 ·rw[e2]
  refine ih (i+1) B R t h1 a' k c' pk (by omega) (by omega) (by omega) hk8 hp0 hp8 g1 (fun x sx hlt=>?_) hQ;by_cases z:x=i
  ·subst z;have:=hr.2 sx;rw[c2]at this;cases this
  ·exact hx x sx (by omega)
 have si:stS l i:=hr.1 (by cases r with|true=>rfl|false=>exact absurd rfl c2);obtain⟨vi,hvi⟩:∃z,z=R i:=⟨_,rfl⟩;have lb:=g1.rb.len;have p3:rd h1 rc (place 0 i 1) 1 [.bool vi]:=by rw[hvi,<-g1.rb.val i i0 ci];exact rd_ok hA (by rw[Nat.zero_add,Nat.mul_one];exact getB g1.own (by omega))
 refine zq ?_;refine br (vi=true) (by simp) (fun c3=>?_) (fun c3=>?_)<;>refine zc ?_
 ·rw[e2]
  refine ih (i+1) B R t h1 a' k c' pk (by omega) (by omega) (by omega) hk8 hp0 hp8 g1 (fun x sx hlt=>?_) hQ;by_cases z:x=i
  ·subst z;rw[<-hvi];exact c3
  ·exact hx x sx (by omega)
 have hRi:R i=false:=by rw[<-hvi];simpa using c3
 have hu:=unr_set i0 ci hRi;obtain⟨h11,w11,o11,k11⟩:=setB g1.own (i:=i.toNat) (by omega) true;obtain⟨pk1,hpk1⟩:∃z,z=pk+1:=⟨_,rfl⟩;refine zq ?_;refine⟨h11,wr_ok hA (by rw[Nat.zero_add,Nat.mul_one];exact w11),?_⟩;refine zc ?_;rw[e3,<-hpk1];have n11:=k11.next;have G11:GR h0 rc (B.set i.toNat true) (setR R i) t a' k c' h11:=
  ⟨k11.ext g1.ext hrc,by have:=g1.lt;omega,o11,g1.rb.set i0 ci,g1.tr.of_get (by omega) (fun ad had hlt=>k11.get _ (by have:=g1.fr ad had;omega)),g1.fr,g1.len⟩
 refine pt_loop hA hlow hP hn4 hok hrc (unr (setR R i)) (B.set i.toNat true) (setR R i) t h11 a' k c' true (Nat.le_refl _) (by omega) G11 (fun q=>by cases q) ?_;intro B' R' t' h' a2 k2 c2 j1 j2 j3 j4;refine zc ?_;rw[e2];have hr1:=fun x sx hlt=>hx x sx hlt
 refine ih (i+1) B' R' t' h' a2 k2 c2 pk1 (by omega) (by omega) (by omega) j3 (by omega) (by omega) j2 (fun x sx hlt=>?_) ?_
 ·refine(reach_mono j1) x ?_
  unfold setR;by_cases z:x=i
  ·rw[if_pos z]
  ·rw[if_neg z];exact hx x sx (by omega)
 ·intro t2 h2 a3 k3 c3 pk' y1 y2 y3 y4 y5 y6
  exact hQ t2 h2 a3 k3 c3 pk' (.part si hRi hr1 j1 (hpk1 ▸ y1)) y2 y3 y4 y5 y6
theorem grown_ok{h:AHeap}(hlow:h.low<=h.next){a:Option Addr}{n c:Nat}{l:List Vk}(hl:Vs h a n l)(hv:∀v∈l,okV v)(hn:n<=1000)(hd:(l.map Vk.pr).Nodup){Q:Value->AHeap->Prop}
  (hQ:∀t h' a' k c' pk,Parts (basP l) (stS l) (fun _=>false) [] 0 t pk->Rows F2.cells 2 h' a' k t->From h.next a'->Ext h h'->k<=8->Q (.tuple #[.slice a' k c',.int .i64 pk]) h') :
  call 37 [.slice a n c] h Q:=by
 refine hA.bodyR Try.func37 r37_ok (hA.alike _ _ _ rfl) hlow (zc ?_);refine pairs_ok hA hlow hl hn hd (fun h1 a4 n4 c4 hP hf x1=>?_);refine⟨_,_,_,rfl,?_⟩;refine zc ?_;refine⟨mk_ok hA (by omega) (Int.le_refl _) (by omega),?_⟩;refine zc ?_;simp only[e_zeros hA,e_next hA,e_push hA,e_nat hA];rw[show copies [Value.bool false] (8:Int).toNat=(List.replicate 8 false).map Value.bool from rfl];have oP:=Own.push h1 1 ((List.replicate 8 false).map Value.bool);have eP:=Ext.push h1 1 ((List.replicate 8 false).map Value.bool);have nP:(h1.push 1 ((List.replicate 8 false).map Value.bool)).next=h1.next+1:=rfl;generalize h1.push 1 ((List.replicate 8 false).map Value.bool)=h2 at *;refine zc ?_;have hu8:unr (fun _=>false)=8:=by simp[unr,un]
 have n4l:n4<=1000:=by
  have h5:=hP.len;have h6:(basP l).length<=28:=by
   have:=List.length_filter_le (fun p=>decide (p∈l.map Vk.pr)) allP;rw[allP_is]at this;unfold basP;rw[allP_is];simpa using this
  omega
 refine gw_out hA (x1.lowOK hlow) hP n4l (okV.st hv) ((basP_is hv).ok (okV.st hv)) (Nat.le_refl _) (hl.ext x1) hn 8 0 (List.replicate 8 false) (fun _=>false) [] h2 none 0 0 0 (by omega) (by omega) (by omega) (by omega) (by omega) (by omega) ⟨eP,by omega,oP,⟨by simp,fun x x0 x1=>?_⟩,Apd.nil _ _,From.none _,rfl⟩ (fun x sx hlt=>by have:=(stS_pos (okV.st hv) sx).1;omega) ?_
 ·rw[List.getD_eq_getElem?_getD,List.getElem?_replicate]
  split<;>simp
 ·intro t' h' a2 k2 c2 pk' y1 y2 y3 y4 y5 y6
  refine zc ?_;exact hQ t' h' a2 k2 c2 pk' y1 ⟨y2.cells,f2_len,by omega⟩ (fun ad had=>by have:=y3 ad had;have:=x1.next;omega) (x1.trans y4) y6
