import Derived.Test.YtdpbiegfljmhmaaSmG
import Derived.Test.YtdpbiegfljmhmaaSmV
import Derived.Test.YtdpbiegfljmhmaaFracT
import Derived.Test.YtdpbiegfljmhmaaSymD
import Derived.Test.YtdpbiegfljmhmaaFracA
import Derived.KernelRfl
set_option linter.unusedSimpArgs false
set_option linter.unusedVariables false
namespace Go.Proofs.Ytdpbiegfljmhmaa
open Go.Sim
set_option maxRecDepth 100000
def nC(x:Int):List Value:=[.int .i64 x]
theorem nC_len(x:Int):(nC x).length=1:=rfl
theorem nC_ok(x:Int):(nC x).all cellOK=true:=rfl
structure RowsB(h0 h:AHeap)(n w:Nat)(bs:Nat->Nat)(F:Nat->Ext.Vec):Prop where
 ext:Ext h0 h
 row:∀y,y<n->Own h (bs y) 1 ((lst (F y) w).flatMap nC)
 old:∀y,y<n->h0.next<=bs y
 lt:∀y,y<n->bs y<h.next
 inj:∀y z,y<n->z<n->bs y=bs z->y=z
section
variable{h0 h:AHeap}{n w:Nat}{bs:Nat->Nat}{F:Nat->Ext.Vec}
theorem RowsB.more{h':AHeap}(t:RowsB h0 h n w bs F)(e:Ext h h'):RowsB h0 h' n w bs F:=
 ⟨t.ext.trans e,fun y hy=>(t.row y hy).ext e (t.lt y hy),t.old,fun y hy=>Nat.lt_of_lt_of_le (t.lt y hy) e.next,t.inj⟩
theorem RowsB.keep{h':AHeap}(t:RowsB h0 h n w bs F)(e:Ext h0 h')(hn:h.next<=h'.next)(hk:∀y,y<n->h'.m.get (bs y)=h.m.get (bs y)):RowsB h0 h' n w bs F:=
 ⟨e,fun y hy=>(t.row y hy).of_get (hk y hy),t.old,fun y hy=>Nat.lt_of_lt_of_le (t.lt y hy) hn,t.inj⟩
theorem RowsB.congr{G:Nat->Ext.Vec}(t:RowsB h0 h n w bs F)(e:∀y x,y<n->x<w->F y x=G y x):RowsB h0 h n w bs G:=
 ⟨t.ext,fun y hy=>by rw[<-lst_congr (fun x hx=>e y x hy hx)];exact t.row y hy,t.old,t.lt,t.inj⟩
theorem RowsB.rowR(t:RowsB h0 h n w bs F){y:Nat}(hy:y<n):Rows nC 1 h (some ⟨bs y,0,none⟩) w (lst (F y) w):=by
 have r:=Own.rows (t.row y hy) nC_len (by omega) (t.lt y hy);rw[lst_len]at r;exact r
theorem RowsB.el(t:RowsB h0 h n w bs F){y x:Nat}(hy:y<n)(hx:x<w):h.readG ⟨bs y,0+x*1,none⟩ 1=some [.int .i64 (F y x)]:=by
 obtain⟨b,o,e,_,r⟩:=(t.rowR hy).at (i:=(x:Int)) (by omega) (by omega);cases e;have:=r 0 1 (by omega) (by omega);rw[lst_gt _ hx,List.drop_zero,List.take_of_length_le (by rw[nC_len];omega)]at this;exact this
def updV(F:Nat->Ext.Vec)(y x:Nat)(v:Int):Nat->Ext.Vec:=fun a b=>if a=y/\b=x then v else F a b
theorem RowsB.set(t:RowsB h0 h n w bs F){y x:Nat}(hy:y<n)(hx:x<w)(v:Int) :
  ∃h',h.write (bs y) (0+x*1) [.int .i64 v]=some h'/\RowsB h0 h' n w bs (updV F y x v)/\Wrote h h' (bs y):=by
 obtain⟨h',w1,w2,w3⟩:=Own.setRow (t.row y hy) nC_len (i:=x) (by rw[lst_len];exact hx) v;refine⟨h',by rw[Nat.zero_add];exact w1,⟨w3.ext t.ext (t.old y hy),fun z hz=>?_,t.old,fun z hz=>by rw[w3.next];exact t.lt z hz,t.inj⟩,w3⟩;by_cases e:z=y
 ·subst e
  rw[lst_set]at w2;have:lst (updV F z x v z) w=lst (fun j=>if j=x then v else F z j) w:=lst_congr (fun i hi=>by unfold updV;simp);rw[this];exact w2
 ·have:lst (updV F y x v z) w=lst (F z) w:=lst_congr (fun i hi=>by unfold updV;rw[if_neg (fun q=>e q.1)])
  rw[this];exact(t.row z hz).of_get (w3.get _ (fun q=>e (t.inj z y hz hy q)))
end
structure Only(h h':AHeap)(b:Nat):Prop where
 next:h.next<=h'.next
 get:∀c,c<h.next->c≠b->h'.m.get c=h.m.get c
theorem Only.refl(h:AHeap)(b:Nat):Only h h b:=⟨Nat.le_refl _,fun _ _ _=>rfl⟩
theorem Only.wrote{h h' h2:AHeap}{b:Nat}(t:Only h h' b)(w:Wrote h' h2 b):Only h h2 b:=
 ⟨by rw[w.next];exact t.next,fun c hc ne=>by rw[w.get c ne];exact t.get c hc ne⟩
theorem Only.ext{h h' h2:AHeap}{b:Nat}(t:Only h h' b)(w:Ext h' h2):Only h h2 b:=
 ⟨Nat.le_trans t.next w.next,fun c hc ne=>by rw[w.get c (Nat.lt_of_lt_of_le hc t.next)];exact t.get c hc ne⟩
theorem Only.trans{h h' h2:AHeap}{b:Nat}(t:Only h h' b)(w:Only h' h2 b):Only h h2 b:=
 ⟨Nat.le_trans t.next w.next,fun c hc ne=>by rw[w.get c (Nat.lt_of_lt_of_le hc t.next) ne];exact t.get c hc ne⟩
variable{F:Prims}{call head arith cmp scmp bnot bsame conv neg imax imin ofNat slen place inR nz geZ rd wr push next mkOK nat zeros sadd eqAgg cut slc sslc strAt part app cpy putAt fresh lowered bump wrote addN lt ne fpAll fpApp brk yn rng mget mput mnew bytes clr:_}(hA:AP F ⟨call,head,arith,cmp,scmp,bnot,bsame,conv,neg,imax,imin,ofNat,slen,place,inR,nz,geZ,rd,wr,push,next,mkOK,nat,zeros,sadd,eqAgg,cut,slc,sslc,strAt,part,app,cpy,putAt,fresh,lowered,bump,wrote,addN,lt,ne,fpAll,fpApp,brk,yn,rng,mget,mput,mnew,bytes,clr⟩)
include hA
theorem lead_loop{b w c:Nat}{v:Ext.Vec}{h:AHeap}(hw:w<=1000)(hr:∀x,x<w->h.readG ⟨b,0+x*1,none⟩ 1=some [.int .i64 (v x)]){W:Int}(eW:W=w){Q:Exit->SS->Prop}
  (hret:∀L,L=(Ext.leadV w v:Int)->Ext.leadV w v<w->Q .ret ⟨[(2,.int .i64 L),(14,.int .i64 L),(3,.int .i64 L)],0,[],h⟩)
  (hend:∀(kn:Nat) (T:List (Nat×List Value)),Ext.leadV w v=w->Q (.exit 0) ⟨[(0,.slice (some ⟨b,0,none⟩) w c)],kn,T,h⟩) :
  ∀(d j:Nat) (J:Int),w-j<=d->j<=w->J=j->(∀i,i<j->v i=0)->
   head 56 2 0 ⟨[(0,.slice (some ⟨b,0,none⟩) w c),(5,.slice (some ⟨b,0,none⟩) w c),(6,.int .i64 W),(7,.int .i64 J)],0,[],h⟩ Q:=by
 refine upTo (fun d ih=>?_);intro j J hd hj eJ hz;by_cases cj:j<w
 rotate_left
 ·refine hA.roundR Try.func56 r56_ok (zc ?_)
  refine br (J<W) (by rw[e_lss hA]) (fun q=>by omega) (fun _=>?_)<;>refine zc ?_;exact hend _ _ (Ext.leadV_eq (Nat.le_refl _) (fun i hi=>hz i (by omega)) (fun q=>by omega))
 obtain⟨d,rfl⟩:∃k,d=k+1:=⟨d-1,by omega⟩
 replace ih:=ih d rfl
 obtain⟨x,hx⟩:∃z,z=v j:=⟨_,rfl⟩;have r1:rd h b (place 0 J 1) 1 [.int .i64 x]:=rd_ok hA (by rw[eJ,hx];exact hr j cj);refine hA.roundR Try.func56 r56_ok (zc ?_);refine br (J<W) (by rw[e_lss hA]) (fun _=>?_) (fun q=>by omega)<;>refine zc ?_;refine zq ?_;refine br (x≠0) (by rw[e_neq hA]) (fun e=>?_) (fun e=>?_)<;>refine zc ?_
 ·have hl:Ext.leadV w v=j:=Ext.leadV_eq (by omega) hz (fun _=>by rw[<-hx];exact e)
  exact hret J (by omega) (by omega)
 ·rw[add64 hA (by omega) (by omega)]
  refine ih (j+1) (J+1) (by omega) (by omega) (by omega) (fun i hi=>?_);by_cases ei:i=j
  ·rw[ei,<-hx];omega
  ·exact hz i (by omega)
theorem lead_ok{b w c:Nat}{v:Ext.Vec}{h:AHeap}(hlow:h.low<=h.next)(hw:w<=1000)(hr:∀x,x<w->h.readG ⟨b,0+x*1,none⟩ 1=some [.int .i64 (v x)]){Q:Value->AHeap->Prop}(hQ:∀L:Int,L=Ext.leadV w v->Q (.int .i64 L) h) :
  call 56 [.slice (some ⟨b,0,none⟩) w c] h Q:=by
 obtain⟨W,eW⟩:∃z:Int,z=w:=⟨_,rfl⟩;have e1:ofNat w=W:=by rw[eW];exact e_ofNat hA w
 refine hA.bodyR Try.func56 r56_ok (hA.alike _ _ _ rfl) hlow (zc ?_)
 (refine zq ?_;repeat ((first|rw[e1]);refine zq ?_))
 refine lead_loop hA hw hr eW (fun L eL _=>?_) (fun kn T e=>?_) w 0 0 (by omega) (by omega) rfl (fun i hi=>by omega)
 ·refine zc ?_
  exact hQ L eL
 ·(refine zq ?_;repeat ((first|rw[e1]);refine zq ?_))
  exact hQ W (by omega)
theorem sfloor_ok{a b:Int}(hb:0<b)(h1:-9000000000000000000<=a)(h2:a<=9000000000000000000){h:AHeap}(hlow:h.low<=h.next){Q:Value->AHeap->Prop}(hQ:∀q,q=a / b->Q (.int .i64 q) h):call 68 [.int .i64 a,.int .i64 b] h Q:=by
 have q0:=Int.natAbs_tdiv_le_natAbs a b;obtain⟨t,et⟩:∃z,z=a.tdiv b:=⟨_,rfl⟩;obtain⟨r,er⟩:∃z,z=a.tmod b:=⟨_,rfl⟩;have k1:arith .quo .i64 a b=t:=by rw[et,e_quo hA];exact wrap64 (by omega) (by omega)
 have k2:arith .rem .i64 a b=r:=by rw[er,e_rem hA]
 have key:=Int.mul_tdiv_add_tmod a b;rw[<-et,<-er]at key;have hr1:r<b:=by
  rw[er];have:=Int.tmod_lt_of_pos a hb;exact this
 have hr2:-b<r:=by
  have h:=Int.neg_tmod a b;have:=Int.tmod_lt_of_pos (-a) hb;omega
 refine hA.bodyR Try.func68 r68_ok (hA.alike _ _ _ rfl) hlow (zc ?_);refine⟨nz_ok hA (by omega),?_⟩;refine zc ?_;rw[k1];refine zc ?_;refine⟨nz_ok hA (by omega),?_⟩;refine zc ?_;rw[k2];refine zc ?_;have hd:∀q:Int,(q*b<=a/\a<q*b+b)->q=a / b:=fun q ⟨z1,z2⟩=>by
  have y1:=Int.emod_nonneg a (show b≠0 by omega);have y2:=Int.emod_lt_of_pos a hb;have y3:=Int.emod_add_mul_ediv a b;rw[Int.mul_comm]at y3;rcases Int.lt_trichotomy q (a / b)with c|c|c
  ·have:=Int.mul_le_mul_of_nonneg_right (show q+1<=a / b by omega) (Int.le_of_lt hb)
   rw[Int.add_mul]at this;omega
  ·exact c
  ·have:=Int.mul_le_mul_of_nonneg_right (show a / b+1<=q by omega) (Int.le_of_lt hb)
   rw[Int.add_mul]at this;omega
 rw[Int.mul_comm]at key;refine br (r<0) (by rw[e_lss hA]) (fun c=>?_) (fun c=>?_)<;>refine zc ?_
 ·rw[sub64 hA (by omega) (by omega)]
  exact hQ _ (hd _ (by rw[Int.sub_mul];omega))
 ·exact hQ _ (hd _ (by omega))
end Go.Proofs.Ytdpbiegfljmhmaa
namespace Go.Proofs.Ytdpbiegfljmhmaa
open Go.Sim
set_option maxRecDepth 100000
def rowT(F:Nat->Ext.Vec)(r j:Nat)(g:Ext.Vec):Nat->Ext.Vec:=fun y x=>if y=r/\x<j then g x else F y x
variable{F:Prims}{call head arith cmp scmp bnot bsame conv neg imax imin ofNat slen place inR nz geZ rd wr push next mkOK nat zeros sadd eqAgg cut slc sslc strAt part app cpy putAt fresh lowered bump wrote addN lt ne fpAll fpApp brk yn rng mget mput mnew bytes clr:_}(hA:AP F ⟨call,head,arith,cmp,scmp,bnot,bsame,conv,neg,imax,imin,ofNat,slen,place,inR,nz,geZ,rd,wr,push,next,mkOK,nat,zeros,sadd,eqAgg,cut,slc,sslc,strAt,part,app,cpy,putAt,fresh,lowered,bump,wrote,addN,lt,ne,fpAll,fpApp,brk,yn,rng,mget,mput,mnew,bytes,clr⟩)
include hA
theorem take_loop{h0 hs:AHeap}{n w r y c1 c2:Nat}{bs:Nat->Nat}{F:Nat->Ext.Vec}{t:Int}(hr:r<n)(hy:y<n)(hw:w<=1000)(hb:∀x,x<w->(F r x).natAbs<=9000000000000000000/\(t*F y x).natAbs<=9000000000000000000/\(F r x-t*F y x).natAbs<=9000000000000000000){W:Int}(eW:W=w){Q:Exit->SS->Prop}
  (hQ:∀(h':AHeap) (kn:Nat) (T:List (Nat×List Value)),RowsB h0 h' n w bs (rowT F r w (fun x=>F r x-t*F y x))->Only hs h' (bs r)->Q (.exit 0) ⟨[],kn,T,h'⟩) :
  ∀(d j:Nat) (J:Int) (h:AHeap),w-j<=d->j<=w->J=j->RowsB h0 h n w bs (rowT F r j (fun x=>F r x-t*F y x))->Only hs h (bs r)->
   head 99 1 0 ⟨[(0,.slice (some ⟨bs r,0,none⟩) w c1),(1,.slice (some ⟨bs y,0,none⟩) w c2),(2,.int .i64 t),(8,.int .i64 W),(9,.int .i64 J)],0,[],h⟩ Q:=by
 refine upTo (fun d ih=>?_);intro j J h hd hj eJ m st;by_cases cj:j<w
 rotate_left
 ·refine hA.roundR Try.func99 r99_ok (zc ?_)
  refine br (J<W) (by rw[e_lss hA]) (fun q=>by omega) (fun _=>?_)<;>refine zc ?_;obtain rfl:j=w:=by omega
  exact hQ h _ _ m st
 obtain⟨d,rfl⟩:∃k,d=k+1:=⟨d-1,by omega⟩
 replace ih:=ih d rfl
 have x9:Ext h (bump h 13):=ext_bump hA _ _;have m9:=m.more x9;obtain⟨a,ha⟩:∃z,z=F r j:=⟨_,rfl⟩;obtain⟨b,hb'⟩:∃z,z=F y j:=⟨_,rfl⟩;have r1:rd (bump h 13) (bs r) (place 0 J 1) 1 [.int .i64 a]:=rd_ok hA (by
  have:=m9.el hr cj;rw[show rowT F r j (fun x=>F r x-t*F y x) r j=a by unfold rowT;rw[if_neg (by omega),ha]]at this;rw[eJ];exact this)
 have r2:rd (bump h 13) (bs y) (place 0 J 1) 1 [.int .i64 b]:=rd_ok hA (by
  have:=m9.el hy cj;rw[show rowT F r j (fun x=>F r x-t*F y x) y j=b by unfold rowT;rw[if_neg (by omega),hb']]at this;rw[eJ];exact this)
 obtain⟨b1,b2,b3⟩:=hb j cj;rw[<-ha]at b1 b3;rw[<-hb']at b2 b3;obtain⟨u,hu⟩:∃z,z=t*b:=⟨_,rfl⟩;rw[<-hu]at b2 b3;have m1:arith .mul .i64 t b=u:=by rw[hu];exact mul64 hA (by omega) (by omega)
 obtain⟨g,hg⟩:∃z,z=a-u:=⟨_,rfl⟩;have m2:arith .sub .i64 a u=g:=by rw[hg];exact sub64 hA (by omega) (by omega)
 obtain⟨h2,w1,t2,wr2⟩:=m9.set hr cj g;have w1:wr (bump h 13) (bs r) (place 0 J 1) [.int .i64 g] h2:=wr_ok hA (by rw[eJ];exact w1);refine hA.roundR Try.func99 r99_ok (zc ?_);refine br (J<W) (by rw[e_lss hA]) (fun _=>?_) (fun q=>by omega)<;>refine zc ?_
 (refine zq ?_;repeat ((first|rw[m1]|rw[m2]);refine zq ?_))
 rw[add64 hA (by omega) (by omega)];refine ih (j+1) (J+1) h2 (by omega) (by omega) (by omega) (t2.congr (fun z x hz hx=>?_)) ((st.ext x9).wrote wr2);unfold updV rowT;by_cases c:z=r/\x=j
 ·rw[if_pos c,if_pos ⟨c.1,by omega⟩,c.2,hg,hu,ha,hb']
 ·rw[if_neg c]
  by_cases c2:z=r/\x<j
  ·rw[if_pos c2,if_pos ⟨c2.1,by omega⟩]
  ·rw[if_neg c2,if_neg (fun q=>c ⟨q.1,by
    by_cases e:x=j
    ·exact e
    ·exact absurd ⟨q.1,by omega⟩ c2⟩)]
theorem take_ok{h0 h:AHeap}(hlow:h.low<=h.next){n w r y c1 c2:Nat}{bs:Nat->Nat}{F:Nat->Ext.Vec}{t:Int}(hr:r<n)(hy:y<n)(hw:w<=1000)(hb:∀x,x<w->(F r x).natAbs<=9000000000000000000/\(t*F y x).natAbs<=9000000000000000000/\(F r x-t*F y x).natAbs<=9000000000000000000)
  (m:RowsB h0 h n w bs F) {Q:Value->AHeap->Prop} (hQ:∀h',RowsB h0 h' n w bs (Ext.put F r (fun x=>F r x-t*F y x))->Only h h' (bs r)->Q (.tuple #[]) h') :
  call 99 [.slice (some ⟨bs r,0,none⟩) w c1,.slice (some ⟨bs y,0,none⟩) w c2,.int .i64 t] h Q:=by
 obtain⟨W,eW⟩:∃z:Int,z=w:=⟨_,rfl⟩;have e1:ofNat w=W:=by rw[eW];exact e_ofNat hA w
 refine hA.bodyR Try.func99 r99_ok (hA.alike _ _ _ rfl) hlow (zc ?_)
 (refine zq ?_;repeat ((first|rw[e1]);refine zq ?_))
 refine take_loop hA hr hy hw hb eW (fun h' kn T m2 st=>?_) w 0 0 h (by omega) (by omega) rfl (m.congr (fun z x hz hx=>by unfold rowT;rw[if_neg (by omega)])) (.refl _ _);refine zc ?_;refine hQ h' (m2.congr (fun z x hz hx=>?_)) st;unfold rowT Ext.put;by_cases c:z=r
 ·rw[if_pos ⟨c,hx⟩,if_pos c]
 ·rw[if_neg (fun q=>c q.1),if_neg c]
end Go.Proofs.Ytdpbiegfljmhmaa
namespace Go.Proofs.Ytdpbiegfljmhmaa
open Go.Sim
set_option maxRecDepth 100000
theorem wf64_of{n:Int}(h:(Lit.int .i64 n).wf=true):i64 n:=by
 unfold i64;simp[Lit.wf,IntKind.min,IntKind.max,IntKind.signed,IntKind.bits]at h;omega
theorem cellsI:Try.prog.cellsOf 2=1:=by kernel_rfl
theorem cellsF:Try.prog.cellsOf 45=2:=by kernel_rfl
theorem len2{l:List Value}(h:l.length=2):∃a b,l=[a,b]:=by
 match l,h with
 | [a,b],_=>exact⟨a,b,rfl⟩
theorem frac_dec{w:World}{base d:Nat}{l:List Value}(h:TS Try.prog w base d 45 l):∃x y,l=[.int .i64 x,.int .i64 y]/\i64 x/\i64 y:=by
 cases d with
 |zero=>exact h.elim
 |succ d=>
  obtain⟨h1,h2⟩:=ts_struct Try.underlying45 h;rw[cellsF]at h1;obtain⟨a,b,rfl⟩:=len2 h1;simp only[List.forall_mem_cons,List.not_mem_nil,false_imp_iff,implies_true,and_true,cellsI,List.drop,List.take]at h2;obtain⟨g0,g1⟩:=h2;cases d with
  |zero=>exact g0.elim
  |succ d=>
   obtain⟨x,e1,w1⟩:=ts_int Try.underlying2 g0;obtain⟨y,e2,w2⟩:=ts_int Try.underlying2 g1;simp only[List.cons.injEq,and_true]at e1 e2;subst e1 e2;exact⟨x,y,rfl,wf64_of w1,wf64_of w2⟩
end Go.Proofs.Ytdpbiegfljmhmaa
namespace Go.Proofs.Ytdpbiegfljmhmaa
open Go.Sim
set_option maxRecDepth 100000
theorem cellsRow:Try.prog.cellsOf 27=1:=by kernel_rfl
theorem cellsInt:Try.prog.cellsOf 3=1:=by kernel_rfl
theorem cellsMat:Try.prog.cellsOf 22=1:=by kernel_rfl
theorem cellsFr:Try.prog.cellsOf 23=1:=by kernel_rfl
theorem cellsPh:Try.prog.cellsOf 25=2:=by kernel_rfl
theorem typesPh:Try.prog.cellTypes Try.prog.depth 25=some [22,23]:=by kernel_rfl
theorem rep_slice{w:World}{a:Addr}{len cap:Nat}(h1:a.spot=none)(h2:isCells w a.block=true)(h3:cap<=maxLen):absV w (.slice (some a) len cap)=.slice (some a) len cap:=by
 unfold absV;have h4:cap<slack:=by unfold maxLen at h3;unfold slack;omega
 rw[if_pos];show(a.spot.isNone && decide (cap<slack) && isCells w a.block)=true;rw[h1,h2];simp[h4]
def RowRd(h:AHeap)(p:Hd×List Int):Prop:=p.2.length=p.1.n/\(0<p.1.n->Rows nC 1 h p.1.a p.1.n p.2)
theorem irow_in{w:World}{h:AHeap}(hn:h.next=w.heap.size)(hm:∀b,b<w.heap.size->h.m.get b=absB w b){base d:Nat}{l:List Value}(hl:TS Try.prog w base d 27 l):∃p:Hd×List Int,l.map (absV w)=p.1.cells/\RowRd h p:=by
 cases d with
 |zero=>exact hl.elim
 |succ d=>
  have hts:=hl;unfold TS at hl;rw[Try.underlying27]at hl;have go:∀(a:Addr) (len cap:Nat),a.spot=none->isCells w a.block=true->cap<=maxLen->TS Try.prog w base (d+1) 27 [.slice (some a) len cap]->∃p:Hd×List Int,[Value.slice (some a) len cap].map (absV w)=p.1.cells/\RowRd h p:=by
   intro a len cap h1 h2 h3 ht;obtain⟨xs,k1,k2,k3,k4,k5⟩:=slice_in hn hm Try.underlying27 ht ⟨(fun q=>by cases q),fun x hx=>by cases hx;exact⟨h1,h2⟩⟩ nC cellsInt (by omega) (fun _=>rfl) (fun _=>True) (fun l hl=>by
    cases d with
    |zero=>exact hl.elim
    |succ d=>
     obtain⟨y,rfl,_⟩:=ts_int Try.underlying3 hl;exact⟨y,rfl,trivial⟩)
   refine⟨(⟨some a,len,cap⟩,xs),?_,k1,fun _=>⟨k4,fun _=>rfl,by omega⟩⟩;show [absV w (.slice (some a) len cap)]=_;rw[rep_slice h1 h2 h3];rfl
  rcases hl with rfl|⟨a,len,cap,rfl,h2,h3,h4,h5⟩
  ·exact⟨(⟨none,0,0⟩,[]),rfl,rfl,fun q=>absurd q (Nat.lt_irrefl _)⟩
  ·by_cases hc:0<cap
   ·obtain⟨s1,s2⟩:=h5 hc (by rw[cellsInt];omega)
    exact go a len cap s1 s2 h3 hts
   ·have hc0:cap=0:=by omega
    have hl0:len=0:=by omega
    subst hc0 hl0;by_cases hr:a.spot=none/\isCells w a.block=true
    ·exact go a 0 0 hr.1 hr.2 h3 hts
    ·refine⟨(⟨some ⟨0,0,some 0⟩,0,0⟩,[]),?_,rfl,fun q=>absurd q (Nat.lt_irrefl _)⟩
     show [absV w (.slice (some a) 0 0)]=_;have:repV w (.slice (some a) 0 0)=false:=by
      show(a.spot.isNone && decide (0<slack) && isCells w a.block)=false;cases hs:a.spot with
      |some s=>rfl
      |none=>
       have:isCells w a.block=false:=by
        cases hi:isCells w a.block with
        |false=>rfl
        |true=>exact absurd ⟨hs,hi⟩ hr
       rw[this];simp
     unfold absV;rw[this];rfl
theorem phases_in{w:World}{h:AHeap}(hn:h.next=w.heap.size)(hm:∀b,b<w.heap.size->h.m.get b=absB w b){H:Type}{enc:TypeId×Value->H}{base fuel b0:Nat}{held:Bool}{r:Reach}{v:Value}{x:DataW H×List MemPlace}
  (hval:Value.okWide Try.prog w r b0 25 v) (hf:DataW.trod enc Try.prog w base (fun _=>true) held fuel 25 v.cells.toList=some x) :
  ∃a n c a' n' c' hds g B,v=.agg #[.slice a n c,.slice a' n' c']/\repC w v=true/\n<=maxLen/\n'<=maxLen/\GrN nC 1 h a n hds g/\Rows fC 2 h a' n' B/\∀i:Int,0<=i->i<n'->i64 (gt B i).n/\i64 (gt B i).d:=by
 obtain⟨cs,rfl,hsz,hrow⟩:∃cs,v=.agg cs/\cs.size=Try.prog.cellsOf 25/\Row.okWide Try.prog w r b0 25 cs:=by
  unfold Value.okWide at hval;rw[Try.underlying25]at hval;exact hval
 have hts:=ts_of_trod (fun _=>rfl) _ _ _ _ hf;rw[cellsPh]at hsz;obtain⟨v0,v1,hcs⟩:=len2 (l:=cs.toList) (by simpa using hsz);obtain rfl:cs=#[v0,v1]:=by cases cs;simp_all
 have hts:TS Try.prog w base fuel 25 [v0,v1]:=hts;cases fuel with
 |zero=>exact hts.elim
 |succ d=>
  obtain⟨_,h2⟩:=ts_struct Try.underlying25 hts;simp only[List.forall_mem_cons,List.not_mem_nil,false_imp_iff,implies_true,and_true,cellsMat,cellsFr,List.drop,List.take]at h2;obtain⟨g0,g1⟩:=h2;cases d with
  |zero=>exact g0.elim
  |succ d=>
   obtain⟨a,n,c,rfl,hr,hrep⟩:=cell_slice Try.underlying22 (row_cell hrow typesPh (i:=0) (u:=22) rfl rfl);obtain⟨a',n',c',rfl,hr',hrep'⟩:=cell_slice Try.underlying23 (row_cell hrow typesPh (i:=1) (u:=23) rfl rfl);obtain⟨xs,k1,k2,k3,k4,k5⟩:=slice_in hn hm Try.underlying22 g0 hrep (fun p:Hd×List Int=>p.1.cells) cellsRow (by omega) (fun _=>rfl) (fun p=>RowRd h p) (fun l hl=>irow_in hn hm hl);obtain⟨ys,j1,j2,j3,j4,j5⟩:=slice_in hn hm Try.underlying23 g1 hrep' fC cellsF (by omega) (fun _=>rfl) (fun x=>i64 x.n/\i64 x.d) (fun l hl=>by
    obtain⟨x,y,rfl,h1,h2⟩:=frac_dec hl;exact⟨⟨x,y⟩,rfl,h1,h2⟩)
   refine⟨a,n,c,a',n',c',xs.map (·.1),xs.map (·.2),ys,rfl,?_,by omega,by omega,⟨⟨?_,fun _=>rfl,by omega⟩,by simp[k1],fun y y0 y1=>?_⟩,⟨j4,fun _=>rfl,by omega⟩,fun i i0 i1=>j5 _ (gt_mem ys i0 (by omega))⟩
   ·simp only[repC,List.all_cons,List.all_nil,hr,hr'];rfl
   ·rw[List.flatMap_map];exact k4
   ·have hy:y.toNat<xs.length:=by omega
    have e1:gt (xs.map (·.1)) y=(xs[y.toNat]).1:=by unfold gt;rw[List.getD_eq_getElem?_getD,List.getElem?_map,List.getElem?_eq_getElem hy];rfl
    have e2:gt (xs.map (·.2)) y=(xs[y.toNat]).2:=by unfold gt;rw[List.getD_eq_getElem?_getD,List.getElem?_map,List.getElem?_eq_getElem hy];rfl
    rw[e1,e2];exact k5 _ (List.getElem_mem hy)
