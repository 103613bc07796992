import Derived.Test.YtmkiclinllifiaaCyRy
import Derived.Test.YtmkiclinllifiaaCxR
import Derived.Test.YtmkiclinllifiaaSymSlc
import Derived.Test.YtmkiclinllifiaaCyK
import Derived.Test.YtmkiclinllifiaaCyTu
import Derived.Test.YtmkiclinllifiaaSortH
set_option linter.unusedSimpArgs false
set_option linter.unusedVariables false
namespace Go.Proofs.Ytmkiclinllifiaa
open Go.Sim
set_option maxRecDepth 100000
def inL(l:List Vk)(p:F2):Bool:=decide (p∈l.map Vk.pr)
def oneL(l:List Vk)(p:F2):List F2:=if p∈l.map Vk.pr then [p] else []
def rowJ(i j:Nat):List F2:=((List.range j).filter (fun k=>decide (i<k))).map fun k:Nat=>⟨(i:Int),(k:Int)⟩
theorem rowJ_8(i:Nat):rowJ i 8=rowP i:=rfl
theorem rowJ_start(i:Nat):rowJ i (i+1)=[]:=by
 unfold rowJ;rw[List.filter_eq_nil_iff.2,List.map_nil];intro k hk;have:=List.mem_range.1 hk;simp;omega
theorem rowJ_step{i j:Nat}(h:i<j):rowJ i (j+1)=rowJ i j++[⟨(i:Int),(j:Int)⟩]:=by
 unfold rowJ;rw[List.range_succ,List.filter_append,List.map_append]
 congr 1
 rw[List.filter_cons_of_pos (by simpa using h)];rfl
theorem rowJ_len(i j:Nat):(rowJ i j).length<=j:=by
 unfold rowJ;rw[List.length_map];have:=List.length_filter_le (fun k=>decide (i<k)) (List.range j);rw[List.length_range]at this;exact this
def upPr(i:Nat):List F2:=(List.range i).flatMap rowP
theorem upPr_step(i:Nat):upPr (i+1)=upPr i++rowP i:=by
 unfold upPr;rw[List.range_succ,List.flatMap_append];simp
theorem upPr_len:∀i,(upPr i).length<=8*i
 |0=>by simp[upPr]
 |i+1=>by
  rw[upPr_step,List.length_append];have:=upPr_len i;have:=rowJ_len i 8;rw[rowJ_8]at this;omega
theorem oneL_filter(l:List Vk)(p:F2):[p].filter (inL l)=oneL l p:=by
 unfold oneL inL;by_cases c:p∈l.map Vk.pr
 ·rw[if_pos c,List.filter_cons_of_pos (by simpa using c)];rfl
 ·rw[if_neg c,List.filter_cons_of_neg (by simpa using c)];rfl
theorem oneL_len(l:List Vk)(p:F2):(oneL l p).length<=1:=by
 unfold oneL;split<;>simp
variable{F:Prims}{call head arith cmp scmp bnot bsame conv neg imax imin ofNat slen place inR nz geZ rd wr push next mkOK nat zeros sadd eqAgg cut slc sslc strAt part app cpy putAt fresh lowered bump wrote addN lt ne fpAll fpApp brk yn rng mget mput mnew bytes clr mrng ment:_}(hA:AP F ⟨call,head,arith,cmp,scmp,bnot,bsame,conv,neg,imax,imin,ofNat,slen,place,inR,nz,geZ,rd,wr,push,next,mkOK,nat,zeros,sadd,eqAgg,cut,slc,sslc,strAt,part,app,cpy,putAt,fresh,lowered,bump,wrote,addN,lt,ne,fpAll,fpApp,brk,yn,rng,mget,mput,mnew,bytes,clr,mrng,ment⟩)
include hA
theorem prs_in{h0:AHeap}(hlow:h0.low<=h0.next){a:Option Addr}{n c:Nat}{l:List Vk}(hl:Vs h0 a n l)(hn:n<=1000)(hd:(l.map Vk.pr).Nodup){i j:Int}{L:List F2}(hL:L.length<=1000){Q:Exit->SS->Prop}
  (hQ:∀h' a' N c',Apd h' 2 a' N c' ((L++oneL l ⟨i,j⟩).flatMap F2.cells)->From h0.next a'->Ext h0 h'->(L++oneL l ⟨i,j⟩).length=N->Q (.exit 4) ⟨[(0,.slice a n c),(3,.slice a' N c'),(4,.int .i64 i),(5,.int .i64 j)],0,[],h'⟩) :
  ∀(m:Nat) (k:Int) (h:AHeap) (a':Option Addr) (N c':Nat),(n-k).toNat<=m->0<=k->k<=n->Apd h 2 a' N c' ((L++oneL (l.take k.toNat) ⟨i,j⟩).flatMap F2.cells)->From h0.next a'->Ext h0 h->(L++oneL (l.take k.toNat) ⟨i,j⟩).length=N->
   head 24 9 0 ⟨[(0,.slice a n c),(3,.slice a' N c'),(4,.int .i64 i),(5,.int .i64 j),(6,.int .i64 k)],0,[],h⟩ Q:=by
 have hlen:=hl.len;refine upTo (fun m ih=>?_);intro k h a' N c' hm k0 k1 hp hf he hlN;by_cases ci:k<n
 rotate_left
 ·refine hA.roundR Try.func24 r24_ok (zc ?_)
  refine br (k<n) (by rw[e_lss hA,e_ofNat hA]) (fun c1=>absurd c1 ci) (fun c1=>?_)<;>refine zc ?_;rw[List.take_of_length_le (by omega)]at hp hlN;exact hQ h a' N c' hp hf he hlN
 obtain⟨m,rfl⟩:∃k,m=k+1:=⟨m-1,by omega⟩
 replace ih:=ih m rfl
 have e2:arith .add .i64 k 1=k+1:=add64 hA (by omega) (by omega);obtain⟨bb,o,x,y,re,im,d,w,rfl,hbb,hg,_,rf⟩:=vs_at (hl.ext he) (i:=k) k0 ci;rw[hg]at rf;have p1:rd h bb (addN (place o k 6) 0) 1 [.int .i64 x]:=rd_fld hA (rf 0 1 (by omega) (by omega));have p2:rd h bb (addN (place o k 6) 1) 1 [.int .i64 y]:=rd_fld hA (rf 1 1 (by omega) (by omega));have htk:=gt_take l k0 (by omega);rw[hg]at htk;have hn1:=oneL_len (l.take k.toNat) ⟨i,j⟩;have hNs:N<=100000:=by rw[List.length_append]at hlN;omega
 have skip:¬(x=i/\y=j)->oneL (l.take (k+1).toNat) ⟨i,j⟩=oneL (l.take k.toNat) ⟨i,j⟩:=fun hne=>by
  have:((⟨i,j⟩:F2)∈(l.take (k+1).toNat).map Vk.pr)↔((⟨i,j⟩:F2)∈(l.take k.toNat).map Vk.pr):=by
   rw[htk,List.map_append,List.mem_append];refine⟨fun q=>q.elim id (fun q=>?_),.inl⟩;have:=List.mem_singleton.1 q;exact absurd ⟨(congrArg F2.n this).symm,(congrArg F2.d this).symm⟩ hne
  unfold oneL;simp only[this]
 refine hA.roundR Try.func24 r24_ok (zc ?_);refine br (k<n) (by rw[e_lss hA,e_ofNat hA]) (fun c1=>?_) (fun c1=>absurd ci c1)<;>refine zc ?_;refine zq ?_;refine br (x=i) (by rw[e_eql hA]) (fun c2=>?_) (fun c2=>?_)<;>refine zc ?_
 rotate_left
 ·rw[e2]
  refine ih (k+1) h a' N c' (by omega) (by omega) (by omega) ?_ hf he ?_<;>rw[skip (fun q=>c2 q.1)]<;>assumption
 refine zq ?_;refine br (y=j) (by rw[e_eql hA]) (fun c3=>?_) (fun c3=>?_)<;>refine zc ?_
 rotate_left
 ·rw[e2]
  refine ih (k+1) h a' N c' (by omega) (by omega) (by omega) ?_ hf he ?_<;>rw[skip (fun q=>c3 q.2)]<;>assumption
 have hnot:(⟨i,j⟩:F2)∉(l.take k.toNat).map Vk.pr:=fun hm'=>by
  have hd':((l.take (k+1).toNat).map Vk.pr).Nodup:=hd.sublist (List.Sublist.map _ (List.take_sublist _ _));rw[htk,List.map_append,List.nodup_append]at hd';exact hd'.2.2 _ hm' _ (List.mem_singleton.2 rfl) (by rw[<-c2,<-c3];rfl)
 have o1:oneL (l.take k.toNat) ⟨i,j⟩=[]:=by unfold oneL;rw[if_neg hnot]
 have o2:oneL (l.take (k+1).toNat) ⟨i,j⟩=[⟨i,j⟩]:=by
  unfold oneL;rw[if_pos];rw[htk,List.map_append,<-c2,<-c3];exact List.mem_append_right _ (List.mem_singleton.2 rfl)
 rw[o1,List.append_nil]at hp hlN;refine zq ?_;refine appR_ok hA TP2 f2_len (by omega) f2_ok' (v:=⟨i,j⟩) hp hNs (fun a2 c2' h2 hp2 hx=>?_);obtain⟨x2,f2⟩:=hx h0 he hf;refine zc ?_;rw[e2];refine ih (k+1) h2 a2 (N+1) c2' (by omega) (by omega) (by omega) (by rw[o2];exact hp2) f2 x2 (by rw[o2];simp[hlN])
theorem prs_mid{h0:AHeap}(hlow:h0.low<=h0.next){a:Option Addr}{n c:Nat}{l:List Vk}(hl:Vs h0 a n l)(hn:n<=1000)(hd:(l.map Vk.pr).Nodup){i:Nat}(hi:i<8){I:Int}(hI:I=i){L:List F2}(hL:L.length<=100){Q:Exit->SS->Prop}
  (hQ:∀h' a' N c',Apd h' 2 a' N c' ((L++(rowP i).filter (inL l)).flatMap F2.cells)->From h0.next a'->Ext h0 h'->(L++(rowP i).filter (inL l)).length=N->Q (.exit 2) ⟨[(0,.slice a n c),(3,.slice a' N c'),(4,.int .i64 I)],0,[],h'⟩) :
  ∀(m j:Nat) (J:Int) (h:AHeap) (a':Option Addr) (N c':Nat),J=j->8-j<=m->i<j->j<=8->Apd h 2 a' N c' ((L++(rowJ i j).filter (inL l)).flatMap F2.cells)->From h0.next a'->Ext h0 h->(L++(rowJ i j).filter (inL l)).length=N->
   head 24 6 0 ⟨[(0,.slice a n c),(3,.slice a' N c'),(4,.int .i64 I),(5,.int .i64 J)],0,[],h⟩ Q:=by
 refine upTo (fun m ih=>?_);intro j J h a' N c' hJ hm j0 j1 hp hf he hlN;by_cases cj:j<8
 rotate_left
 ·obtain rfl:j=8:=by omega
  refine hA.roundR Try.func24 r24_ok (zc ?_);refine br (J<8) (by rw[e_lss hA]) (fun c1=>by omega) (fun c1=>?_)<;>refine zc ?_;rw[rowJ_8]at hp hlN;exact hQ h a' N c' hp hf he hlN
 obtain⟨m,rfl⟩:∃k,m=k+1:=⟨m-1,by omega⟩
 replace ih:=ih m rfl
 have e2:arith .add .i64 J 1=J+1:=add64 hA (by omega) (by omega);have hb:(L++(rowJ i j).filter (inL l)).length<=1000:=by
  have:=List.length_filter_le (inL l) (rowJ i j);have:=rowJ_len i j;rw[List.length_append];omega
 refine hA.roundR Try.func24 r24_ok (zc ?_);refine br (J<8) (by rw[e_lss hA]) (fun c1=>?_) (fun c1=>by omega)<;>refine zc ?_;refine prs_in hA hlow hl hn hd (i:=I) (j:=J) (L:=L++(rowJ i j).filter (inL l)) hb (fun h' a2 N2 c2 hp2 hf2 he2 hl2=>?_) n 0 h a' N c' (by omega) (by omega) (by omega) (by simp only[oneL];simpa using hp) hf he (by simp only[oneL];simpa using hlN);refine zc ?_;rw[e2];have e3:L++(rowJ i (j+1)).filter (inL l)=L++(rowJ i j).filter (inL l)++oneL l ⟨I,J⟩:=by
  rw[rowJ_step j0,List.filter_append,oneL_filter,List.append_assoc,hJ,hI]
 exact ih (j+1) (J+1) h' a2 N2 c2 (by omega) (by omega) (by omega) (by omega) (by rw[e3];exact hp2) hf2 he2 (by rw[e3];exact hl2)
theorem prs_out{h0:AHeap}(hlow:h0.low<=h0.next){a:Option Addr}{n c:Nat}{l:List Vk}(hl:Vs h0 a n l)(hn:n<=1000)(hd:(l.map Vk.pr).Nodup){Q:Exit->SS->Prop}
  (hQ:∀h' a' N c',Apd h' 2 a' N c' ((basP l).flatMap F2.cells)->From h0.next a'->Ext h0 h'->(basP l).length=N->Q (.exit 0) ⟨[(3,.slice a' N c')],0,[],h'⟩) :
  ∀(m i:Nat) (I:Int) (h:AHeap) (a':Option Addr) (N c':Nat),I=i->8-i<=m->i<=8->Apd h 2 a' N c' (((upPr i).filter (inL l)).flatMap F2.cells)->From h0.next a'->Ext h0 h->((upPr i).filter (inL l)).length=N->
   head 24 3 0 ⟨[(0,.slice a n c),(3,.slice a' N c'),(4,.int .i64 I)],0,[],h⟩ Q:=by
 refine upTo (fun m ih=>?_);intro i I h a' N c' hI hm i1 hp hf he hlN;by_cases ci:i<8
 rotate_left
 ·obtain rfl:i=8:=by omega
  refine hA.roundR Try.func24 r24_ok (zc ?_);refine br (I<8) (by rw[e_lss hA]) (fun c1=>by omega) (fun c1=>?_)<;>refine zc ?_;exact hQ h a' N c' hp hf he hlN
 obtain⟨m,rfl⟩:∃k,m=k+1:=⟨m-1,by omega⟩
 replace ih:=ih m rfl
 have e2:arith .add .i64 I 1=I+1:=add64 hA (by omega) (by omega);have hb:((upPr i).filter (inL l)).length<=100:=by
  have:=List.length_filter_le (inL l) (upPr i);have:=upPr_len i;omega
 refine hA.roundR Try.func24 r24_ok (zc ?_);refine br (I<8) (by rw[e_lss hA]) (fun c1=>?_) (fun c1=>by omega)<;>refine zc ?_;rw[e2];refine prs_mid hA hlow hl hn hd ci hI (L:=(upPr i).filter (inL l)) hb (fun h' a2 N2 c2 hp2 hf2 he2 hl2=>?_) 8 (i+1) (I+1) h a' N c' (by omega) (by omega) (by omega) (by omega) (by rw[rowJ_start];simpa using hp) hf he (by rw[rowJ_start];simpa using hlN);refine zc ?_;rw[e2];have e3:(upPr (i+1)).filter (inL l)=(upPr i).filter (inL l)++(rowP i).filter (inL l):=by
  rw[upPr_step,List.filter_append]
 exact ih (i+1) (I+1) h' a2 N2 c2 (by omega) (by omega) (by omega) (by rw[e3];exact hp2) hf2 he2 (by rw[e3];exact hl2)
theorem pairs_ok{h:AHeap}(hlow:h.low<=h.next){a:Option Addr}{n c:Nat}{l:List Vk}(hl:Vs h a n l)(hn:n<=1000)(hd:(l.map Vk.pr).Nodup){Q:Value->AHeap->Prop}
  (hQ:∀h' a' N c',Rows F2.cells 2 h' a' N (basP l)->From h.next a'->Ext h h'->Q (.slice a' N c') h'):call 24 [.slice a n c] h Q:=by
 refine hA.bodyR Try.func24 r24_ok (hA.alike _ _ _ rfl) hlow (zc ?_);refine prs_out hA hlow hl hn hd (fun h' a' N c' hp hf he hlN=>?_) 8 0 0 h none 0 0 rfl (by omega) (by omega) (Apd.nil _ _) (From.none _) (.refl h) rfl;refine zc ?_;exact hQ h' a' N c' ⟨hp.cells,f2_len,by omega⟩ hf he
end Go.Proofs.Ytmkiclinllifiaa
namespace Go.Sim
theorem Cells.part{h:AHeap}{a:Option Addr}{n es:Nat}{cells:List Value}(c:Cells h a n es cells){i m:Nat}(hi:i+m<=n):Cells h (a.map (aadd · (i*es))) m es ((cells.drop (i*es)).take (m*es)):=by
 have hlen:=c.length;have hm:i*es+m*es<=n*es:=by rw[<-Nat.add_mul];exact Nat.mul_le_mul_right es hi
 cases a with
 |none=>
  obtain⟨rfl,rfl⟩:=c;exact⟨by omega,by simp⟩
 |some ad=>
  obtain⟨h1,h2,h3⟩:=c;obtain⟨b,o,sp⟩:=ad;simp only at h1;subst h1;refine⟨rfl,h2,?_⟩;unfold AHeap.readG aadd at *;simp only[]at h3 ⊢;split at h3
  ·rename_i cs hcs
   obtain⟨e1,e2⟩:=readN_eq h3;refine readN_some ?_ ?_
   ·subst e1
    rw[List.drop_take,List.take_take,List.drop_drop,Nat.min_eq_left (by omega)]
   ·simp only[List.length_take,List.length_drop];omega
  ·cases h3
theorem flat_takeN{α:Type}{enc:α->List Value}{es:Nat}(he:∀x,(enc x).length=es)(l:List α)(k:Nat):(l.flatMap enc).take (k*es)=(l.take k).flatMap enc:=by
 induction l generalizing k with
 |nil=>simp
 |cons x l ih=>
  cases k with
  |zero=>simp
  |succ k=>rw[List.flatMap_cons,List.take_succ_cons,List.flatMap_cons,List.take_append,he,List.take_of_length_le (by rw[he,Nat.succ_mul];omega),show(k+1)*es-es=k*es by rw[Nat.succ_mul];omega,ih]
theorem flat_dropN{α:Type}{enc:α->List Value}{es:Nat}(he:∀x,(enc x).length=es)(l:List α)(k:Nat):(l.flatMap enc).drop (k*es)=(l.drop k).flatMap enc:=by
 induction l generalizing k with
 |nil=>simp
 |cons x l ih=>
  cases k with
  |zero=>simp
  |succ k=>rw[List.flatMap_cons,List.drop_succ_cons,List.drop_append,he,List.drop_of_length_le (by rw[he,Nat.succ_mul];omega),show(k+1)*es-es=k*es by rw[Nat.succ_mul];omega,ih,List.nil_append]
end Go.Sim
namespace Go.Proofs.Ytmkiclinllifiaa
open Go.Sim
set_option maxRecDepth 100000
theorem basP_len(l:List Vk):(basP l).length<=28:=by
 have:=List.length_filter_le (fun p=>decide (p∈l.map Vk.pr)) allP;rw[allP_is]at this;unfold basP;rw[allP_is];simpa using this
variable{F:Prims}{call head arith cmp scmp bnot bsame conv neg imax imin ofNat slen place inR nz geZ rd wr push next mkOK nat zeros sadd eqAgg cut slc sslc strAt part app cpy putAt fresh lowered bump wrote addN lt ne fpAll fpApp brk yn rng mget mput mnew bytes clr mrng ment:_}(hA:AP F ⟨call,head,arith,cmp,scmp,bnot,bsame,conv,neg,imax,imin,ofNat,slen,place,inR,nz,geZ,rd,wr,push,next,mkOK,nat,zeros,sadd,eqAgg,cut,slc,sslc,strAt,part,app,cpy,putAt,fresh,lowered,bump,wrote,addN,lt,ne,fpAll,fpApp,brk,yn,rng,mget,mput,mnew,bytes,clr,mrng,ment⟩)
include hA
end Go.Proofs.Ytmkiclinllifiaa
namespace Go.Proofs.Ytmkiclinllifiaa
open Go.Sim
set_option maxRecDepth 100000
variable{F:Prims}{call head arith cmp scmp bnot bsame conv neg imax imin ofNat slen place inR nz geZ rd wr push next mkOK nat zeros sadd eqAgg cut slc sslc strAt part app cpy putAt fresh lowered bump wrote addN lt ne fpAll fpApp brk yn rng mget mput mnew bytes clr mrng ment:_}(hA:AP F ⟨call,head,arith,cmp,scmp,bnot,bsame,conv,neg,imax,imin,ofNat,slen,place,inR,nz,geZ,rd,wr,push,next,mkOK,nat,zeros,sadd,eqAgg,cut,slc,sslc,strAt,part,app,cpy,putAt,fresh,lowered,bump,wrote,addN,lt,ne,fpAll,fpApp,brk,yn,rng,mget,mput,mnew,bytes,clr,mrng,ment⟩)
include hA
theorem wrote_no{X h':AHeap}(e:Ext (fresh X) h'):wrote X h'=false:=by
 rw[e_wrote hA];have h1:=e.lowG;rw[e_fresh hA]at h1;exact blt_false (by
  have:min X.next X.next<=h'.low:=h1;omega)
end Go.Proofs.Ytmkiclinllifiaa
namespace Go.Proofs.Ytmkiclinllifiaa
open Go.Sim
set_option maxRecDepth 100000
inductive AnsG{β:Type}(l:List Vk)(f:List F2->Int->β)(z:β):β->Int->Prop
 |bad {e:Int} (h0:e≠0) (h:CkR l e):AnsG l f z z e
 |ok {t:List F2} {pk:Int} (h:CkR l 0) (hp:Parts (basP l) (stS l) (fun _=>false) [] 0 t pk):AnsG l f z (f t pk) 0
theorem AnsG.uniq{β:Type}{l:List Vk}{f:List F2->Int->β}{z x y:β}{e e':Int}(h:AnsG l f z x e)(k:AnsG l f z y e'):x=y/\e=e':=by
 cases h with
 |bad h0 h=>cases k with
  |bad _ k=>exact⟨rfl,h.uniq k⟩
  |ok k _=>exact absurd (h.uniq k) h0
 |ok h hp=>cases k with
  |bad h0 k=>exact absurd (k.uniq h) h0
  |ok k kp=>
   obtain⟨rfl,rfl⟩:=hp.uniq kp;exact⟨rfl,rfl⟩
abbrev TreeO(l:List Vk):List F2×Int->Int->Prop:=AnsG l (fun t pk=>(t,pk)) ([],0)
abbrev ChdO(l:List Vk):List F2->Int->Prop:=AnsG l (fun t _=>chds t (basP l)) []
abbrev BasO(l:List Vk):List (List Int)->Int->Prop:=AnsG l (fun t _=>(chds t (basP l)).map (circF t)) []
theorem grr_nil(h:AHeap):GrR iC 1 h none 0 [] []:=⟨Rows.nil h hd_len (by omega),rfl,fun y y0 y1=>by omega⟩
theorem circ_len{l:List Vk}{t:List F2}{pk:Int}(h:CkR l 0)(hp:Parts (basP l) (stS l) (fun _=>false) [] 0 t pk)(ht:t.length<=8):∀r∈(chds t (basP l)).map (circF t),r.length<=1000:=by
 intro r hr;obtain⟨p,hp',rfl⟩:=List.mem_map.1 hr;unfold circF;obtain⟨k1,k2,k3⟩:=h.ok0;obtain⟨⟨w,hw⟩,_⟩:=chds_ok (okV.st k2) (okV.lt k2) (basP_is k2) hp p hp';have wl:=path_len (parts_grows hp) hw;have htl:(trT t).length=t.length:=by unfold trT;simp
 simp only[hw,Option.getD_some,List.length_cons,List.length_dropLast];omega
variable{F:Prims}{call head arith cmp scmp bnot bsame conv neg imax imin ofNat slen place inR nz geZ rd wr push next mkOK nat zeros sadd eqAgg cut slc sslc strAt part app cpy putAt fresh lowered bump wrote addN lt ne fpAll fpApp brk yn rng mget mput mnew bytes clr mrng ment:_}(hA:AP F ⟨call,head,arith,cmp,scmp,bnot,bsame,conv,neg,imax,imin,ofNat,slen,place,inR,nz,geZ,rd,wr,push,next,mkOK,nat,zeros,sadd,eqAgg,cut,slc,sslc,strAt,part,app,cpy,putAt,fresh,lowered,bump,wrote,addN,lt,ne,fpAll,fpApp,brk,yn,rng,mget,mput,mnew,bytes,clr,mrng,ment⟩)
include hA
theorem tree_a(hW:LW F){h:AHeap}(hlow:h.low<=h.next){a:Option Addr}{n c:Nat}{l:List Vk}(hl:Vs h a n l)(hn:n<=1000){Q:Value->AHeap->Prop}
  (hQ:∀t pk e h' a' k c',TreeO l (t,pk) e->Rows F2.cells 2 h' a' k t->k<=1000->Ext h h'->Q (.tuple #[.slice a' k c',.int .i64 pk,.int .i64 e]) h'):call 10 [.slice a n c] h Q:=
 tree_ok hA hW hlow hl hn (fun e h' e0 ke x=>hQ [] 0 e h' none 0 0 (.bad e0 ke) (Rows.nil h' f2_len (by omega)) (by omega) x) (fun t pk h' a' k c' ke q r s f x=>hQ t pk 0 h' a' k c' (.ok ke q) r (by have:=r.len;omega) x)
theorem chds_a(hW:LW F){h:AHeap}(hlow:h.low<=h.next){a:Option Addr}{n c:Nat}{l:List Vk}(hl:Vs h a n l)(hn:n<=1000){Q:Value->AHeap->Prop}
  (hQ:∀C e h' a' k c',ChdO l C e->Rows F2.cells 2 h' a' k C->k<=1000->Ext h h'->Q (.tuple #[.slice a' k c',.int .i64 e]) h'):call 12 [.slice a n c] h Q:=
 Chords_ok hA hW hlow hl hn (fun e h' e0 ke x=>hQ [] e h' none 0 0 (.bad e0 ke) (Rows.nil h' f2_len (by omega)) (by omega) x) (fun t pk h' a' k c' ke q r f x=>hQ _ 0 h' a' k c' (.ok ke q) r (by
  have h5:=r.len;have h6:=List.length_filter_le (fun p=>decide (p∉t)) (basP l);have:=basP_len l;unfold chds at h5;omega) x)
theorem bas_a(hW:LW F){h:AHeap}(hlow:h.low<=h.next){a:Option Addr}{n c:Nat}{l:List Vk}(hl:Vs h a n l)(hn:n<=1000){Q:Value->AHeap->Prop}
  (hQ:∀g e h' a' k c' hs,BasO l g e->GrR iC 1 h' a' k hs g->k<=1000->(∀r∈g,r.length<=1000)->Ext h h'->Q (.tuple #[.slice a' k c',.int .i64 e]) h'):call 14 [.slice a n c] h Q:=
 Basis_ok hA hW hlow hl hn (fun e h' e0 ke x=>hQ [] e h' none 0 0 [] (.bad e0 ke) (grr_nil h') (by omega) (fun r hr=>by cases hr) x) (fun t pk h' a' k c' hs' ke q s r f x=>hQ _ 0 h' a' k c' hs' (.ok ke q) r (by
  have h5:=r.len;have h6:=List.length_filter_le (fun p=>decide (p∉t)) (basP l);have:=basP_len l;rw[List.length_map]at h5;unfold chds at h5;omega) (circ_len ke q s) x)
