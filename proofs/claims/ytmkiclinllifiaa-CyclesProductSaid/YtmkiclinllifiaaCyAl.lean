import Derived.Test.YtmkiclinllifiaaCyLT
import Derived.Test.YtmkiclinllifiaaCyCo
import Derived.Test.YtmkiclinllifiaaCxR
import Derived.Test.YtmkiclinllifiaaSortH
import Derived.Test.YtmkiclinllifiaaCyA
import Derived.Test.YtmkiclinllifiaaSymD
import Derived.Test.YtmkiclinllifiaaCyK
import Derived.Test.YtmkiclinllifiaaCyE
set_option linter.unusedSimpArgs false
set_option linter.unusedVariables false
namespace Go.Proofs.Ytmkiclinllifiaa
open Go.Sim
set_option maxRecDepth 100000
theorem fv_bas{l:List Vk}(hk:∀v∈l,okV v){x y:Int}:fv l x y≠none↔(⟨min x y,max x y⟩:F2)∈basP l:=by
 rw[(basP_is hk).mem];constructor
 ·intro h
  by_cases c:∃v∈l,(v.i=x/\v.j=y)\/(v.i=y/\v.j=x)
  ·obtain⟨v,hv,e⟩:=c
   have:=(hk v hv).2.1;refine⟨v,hv,?_⟩;unfold Vk.pr;rw[F2.mk.injEq];omega
  ·exact absurd (fv_none.2 (fun v hv=>⟨fun q=>c ⟨v,hv,.inl q⟩,fun q=>c ⟨v,hv,.inr q⟩⟩)) h
 ·rintro⟨v,hv,e⟩ h
  unfold Vk.pr at e;rw[F2.mk.injEq]at e;have h1:=(fv_none.1 h) v hv;omega
variable{F:Prims}{call head arith cmp scmp bnot bsame conv neg imax imin ofNat slen place inR nz geZ rd wr push next mkOK nat zeros sadd eqAgg cut slc sslc strAt part app cpy putAt fresh lowered bump wrote addN lt ne fpAll fpApp brk yn rng mget mput mnew bytes clr mrng ment:_}(hA:AP F ⟨call,head,arith,cmp,scmp,bnot,bsame,conv,neg,imax,imin,ofNat,slen,place,inR,nz,geZ,rd,wr,push,next,mkOK,nat,zeros,sadd,eqAgg,cut,slc,sslc,strAt,part,app,cpy,putAt,fresh,lowered,bump,wrote,addN,lt,ne,fpAll,fpApp,brk,yn,rng,mget,mput,mnew,bytes,clr,mrng,ment⟩)
include hA
end Go.Proofs.Ytmkiclinllifiaa
namespace Go.Proofs.Ytmkiclinllifiaa
open Go.Sim
set_option maxRecDepth 100000
def exP:List F2:=[⟨0,1⟩,⟨1,2⟩,⟨2,3⟩,⟨0,3⟩,⟨0,2⟩]
def exV(p:F2):Vk:=⟨p.n,p.d,1,0,1,0⟩
def exL:List Vk:=exP.map exV
def exT:List F2:=[⟨0,1⟩,⟨0,2⟩,⟨0,3⟩]
theorem exP_ok:∀p∈exP,(0<=p.n/\p.n<p.d/\p.d<8)/\p.n∈[(0:Int),1,2,3]/\p.d∈[(0:Int),1,2,3]:=by decide
theorem ex_ck:CkR exL 0:=by
 refine .ok (by decide) (fun v hv=>?_) (by decide);obtain⟨p,hp,rfl⟩:=List.mem_map.1 hv;have h1:okC 1 0 1:=(okC_iff _ _ _).2 (by decide);have:=(exP_ok p hp).1;exact⟨this.1,this.2.1,this.2.2,Int.le_refl 0,h1⟩
theorem ex_bas:basP exL=[⟨0,1⟩,⟨0,2⟩,⟨0,3⟩,⟨1,2⟩,⟨2,3⟩]:=by decide
theorem ex_parts:Parts (basP exL) (stS exL) (fun _=>false) [] 0 exT 1:=by
 rw[ex_bas];refine .part (s:=0) ⟨exV ⟨0,1⟩,List.mem_map_of_mem (show(⟨0,1⟩:F2)∈exP by decide),.inl rfl⟩ rfl (fun x hx hl=>?_) (.step (p:=⟨0,1⟩) (by decide) (.step (p:=⟨0,2⟩) (by decide) (.step (p:=⟨0,3⟩) (by decide) (.stop (by decide))))) (.stop (fun s hs=>?_))
 ·have:=(stS_pos (okV.st ex_ck.ok0.2.1) hx).1
  omega
 ·obtain⟨v,hv,e⟩:=hs
  obtain⟨p,hp,rfl⟩:=List.mem_map.1 hv;have:=(exP_ok p hp).2;have hs':s∈[(0:Int),1,2,3]:=by
   rcases e with rfl|rfl
   ·exact this.1
   ·exact this.2
  have key:∀s∈[(0:Int),1,2,3],addR (addR (addR (setR (fun x=>false) 0) { n:=0,d:=1 }) { n:=0,d:=2 }) { n:=0,d:=3 } s=true:=by decide
  exact key s hs'
theorem ex_chds:chds exT (basP exL)=[⟨1,2⟩,⟨2,3⟩]:=by rw[ex_bas];decide
theorem ex_circ:([⟨1,2⟩,⟨2,3⟩]:List F2).map (circF exT)=[[1,2,0],[2,3,0]]:=by decide
theorem ex_tree:TreeO exL (exT,1) 0:=.ok ex_ck ex_parts
theorem ex_chd:ChdO exL [⟨1,2⟩,⟨2,3⟩] 0:=by
 have:=AnsG.ok (f:=fun t _=>chds t (basP exL)) (z:=[]) ex_ck ex_parts;simp only[ex_chds]at this;exact this
theorem ex_bass:BasO exL [[1,2,0],[2,3,0]] 0:=by
 have:=AnsG.ok (f:=fun t _=>(chds t (basP exL)).map (circF t)) (z:=[]) ex_ck ex_parts;simp only[ex_chds,ex_circ]at this;exact this
theorem ex_co{c:List Int}(hc:circle c)(h:∀p∈sps c,(⟨min p.n p.d,max p.n p.d⟩:F2)∈[(⟨0,1⟩:F2),⟨0,2⟩,⟨0,3⟩,⟨1,2⟩,⟨2,3⟩]){x:List Int}(hx:([⟨1,2⟩,⟨2,3⟩]:List F2).map (fun p=>steps c p.n p.d)=x):CoO exL c x 0:=by
 have:=CoO.ok (c:=c) ex_ck hc (fun p hp=>(fv_bas ex_ck.ok0.2.1).2 (by rw[ex_bas];exact h p hp)) ex_parts;rw[ex_chds,hx]at this;exact this
theorem circ_dec{c:List Int}(h1:3<=c.length)(h2:c.length<=8)(h3:∀s∈c,0<=s/\s<8)(h4:c.Nodup):circle c:=⟨h1,h2,h3,h4⟩
theorem ex_co1:CoO exL [0,1,2,3] [1,1] 0:=ex_co (circ_dec (by decide) (by decide) (by decide) (by decide)) (by decide) (by decide)
theorem ex_co2:CoO exL [0,3,2] [0,-1] 0:=ex_co (circ_dec (by decide) (by decide) (by decide) (by decide)) (by decide) (by decide)
end Go.Proofs.Ytmkiclinllifiaa
namespace Go.Proofs.Ytmkiclinllifiaa
open Go.Sim
set_option maxRecDepth 100000
theorem cellsI:Try.prog.cellsOf 3=1:=by kernel_rfl
theorem cellsL:Try.prog.cellsOf 2=1:=by kernel_rfl
theorem cellsC:Try.prog.cellsOf 60=3:=by kernel_rfl
theorem cellsV:Try.prog.cellsOf 66=6:=by kernel_rfl
theorem len3{l:List Value}(h:l.length=3):∃a b c,l=[a,b,c]:=by
 match l,h with
 | [a,b,c],_=>exact⟨a,b,c,rfl⟩
theorem len6{l:List Value}(h:l.length=6):∃a b c d e f,l=[a,b,c,d,e,f]:=by
 match l,h with
 | [a,b,c,d,e,f],_=>exact⟨a,b,c,d,e,f,rfl⟩
theorem int_dec{w:World}{base d:Nat}{l:List Value}(h:TS Try.prog w base d 3 l):∃x,l=[.int .i64 x]:=by
 cases d with
 |zero=>exact h.elim
 |succ d=>
  obtain⟨x,e1,w1⟩:=ts_int Try.underlying3 h;exact⟨x,e1⟩
theorem cx_dec{w:World}{base d:Nat}{l:List Value}(h:TS Try.prog w base d 60 l):∃x y z,l=[.int .i64 x,.int .i64 y,.int .i64 z]:=by
 cases d with
 |zero=>exact h.elim
 |succ d=>
  obtain⟨h1,h2⟩:=ts_struct Try.underlying60 h;rw[cellsC]at h1;obtain⟨a,b,c,rfl⟩:=len3 h1;simp only[List.forall_mem_cons,List.not_mem_nil,false_imp_iff,implies_true,and_true,cellsL,List.drop,List.take]at h2;obtain⟨g0,g1,g2⟩:=h2;cases d with
  |zero=>exact g0.elim
  |succ d=>
   obtain⟨x,e1,w1⟩:=ts_int Try.underlying2 g0;obtain⟨y,e2,w2⟩:=ts_int Try.underlying2 g1;obtain⟨z,e3,w3⟩:=ts_int Try.underlying2 g2;simp only[List.cons.injEq,and_true]at e1 e2 e3;subst e1 e2 e3;exact⟨x,y,z,rfl⟩
theorem vis_dec{w:World}{base d:Nat}{l:List Value}(h:TS Try.prog w base d 66 l):∃k:Vk,l.map (absV w)=k.cells/\True:=by
 cases d with
 |zero=>exact h.elim
 |succ d=>
  obtain⟨h1,h2⟩:=ts_struct Try.underlying66 h;rw[cellsV]at h1;obtain⟨a,b,c,e,f,g,rfl⟩:=len6 h1;simp only[List.forall_mem_cons,List.not_mem_nil,false_imp_iff,implies_true,and_true,cellsC,cellsI,List.drop,List.take]at h2;obtain⟨g0,g1,g2,g3⟩:=h2;obtain⟨x,e1⟩:=int_dec g0;obtain⟨y,e2⟩:=int_dec g1;obtain⟨z,u,v,e3⟩:=cx_dec g2;obtain⟨t,e4⟩:=int_dec g3;simp only[List.cons.injEq,and_true]at e1 e2 e3 e4;obtain rfl:=e1;obtain rfl:=e2;obtain⟨rfl,rfl,rfl⟩:=e3;obtain rfl:=e4;exact⟨⟨x,y,z,u,v,t⟩,rfl,trivial⟩
theorem vis_in{w:World}{h:AHeap}(hn:h.next=w.heap.size)(hm:∀b,b<w.heap.size->h.m.get b=absB w b){H:Type}{enc:TypeId×Value->H}{base fuel b0:Nat}{held:Bool}{r:Go.Reach}{v:Value}{x:DataW H×List MemPlace}
  (hval:Value.okWide Try.prog w r b0 22 v) (hf:DataW.trod enc Try.prog w base (fun _=>true) held fuel 22 v.cells.toList=some x) :
  ∃a n c l,v=.slice a n c/\repC w v=true/\n<=c/\c<=maxLen/\Vs h a n l:=by
 obtain⟨a,n,c,d,rfl,hr,hrep,rfl,hts⟩:=value_slice Try.underlying22 hval hf;obtain⟨xs,k1,k2,k3,k4,k5⟩:=slice_in hn hm Try.underlying22 hts hrep Vk.cells cellsV (by omega) (fun _=>rfl) (fun _=>True) (fun l hl=>vis_dec hl);exact⟨a,n,c,xs,rfl,hr,k2,k3,⟨k4,fun _=>rfl,by omega⟩⟩
end Go.Proofs.Ytmkiclinllifiaa
namespace Go.Proofs.Ytmkiclinllifiaa
open Go.Sim
set_option maxRecDepth 100000
theorem ints_in{w:World}{h:AHeap}(hn:h.next=w.heap.size)(hm:∀b,b<w.heap.size->h.m.get b=absB w b){H:Type}{enc:TypeId×Value->H}{base fuel b0:Nat}{held:Bool}{r:Go.Reach}{v:Value}{x:DataW H×List MemPlace}
  (hval:Value.okWide Try.prog w r b0 38 v) (hf:DataW.trod enc Try.prog w base (fun _=>true) held fuel 38 v.cells.toList=some x) :
  ∃a n c l,v=.slice a n c/\repC w v=true/\n<=c/\c<=maxLen/\Rows iC 1 h a n l:=by
 obtain⟨a,n,c,d,rfl,hr,hrep,rfl,hts⟩:=value_slice Try.underlying38 hval hf;obtain⟨xs,k1,k2,k3,k4,k5⟩:=slice_in hn hm Try.underlying38 hts hrep iC cellsI (by omega) (fun _=>rfl) (fun _=>True) (fun l hl=>by
  obtain⟨x,rfl⟩:=int_dec hl;exact⟨x,rfl,trivial⟩)
 exact⟨a,n,c,xs,rfl,hr,k2,k3,⟨k4,fun _=>rfl,by omega⟩⟩
end Go.Proofs.Ytmkiclinllifiaa
namespace Go.Proofs.Ytmkiclinllifiaa
open Go.Sim
set_option maxRecDepth 100000
theorem TV6:SliceT Try.prog 22 66 6:=⟨by kernel_rfl,by kernel_rfl,⟨48,by kernel_rfl,by omega⟩,⟨.agg #[.int .i64 0,.int .i64 0,.int .i64 0,.int .i64 0,.int .i64 0,.int .i64 0],by kernel_rfl,rfl⟩⟩
theorem lit_ints(h:AHeap)(c:List Int):Rows iC 1 (h.push 1 (c.flatMap iC)) (some ⟨h.next,0,none⟩) c.length c:=
 Own.rows (Own.push h 1 (c.flatMap iC)) iC_len (by omega) (by show h.next<h.next+1;omega)
theorem lit_pairs(h:AHeap)(c:List F2):Rows F2.cells 2 (h.push 2 (c.flatMap F2.cells)) (some ⟨h.next,0,none⟩) c.length c:=
 Own.rows (Own.push h 2 (c.flatMap F2.cells)) f2_len (by omega) (by show h.next<h.next+1;omega)
theorem lit_lists(h:AHeap)(c d:List Int)(e:AHeap)(he:e=(h.push 1 (c.flatMap iC)).push 1 (d.flatMap iC)) :
  GrR iC 1 (e.push 1 ([⟨some ⟨h.next,0,none⟩,c.length,c.length⟩,⟨some ⟨h.next+1,0,none⟩,d.length,d.length⟩].flatMap Hd.cells)) (some ⟨e.next,0,none⟩) 2 [⟨some ⟨h.next,0,none⟩,c.length,c.length⟩,⟨some ⟨h.next+1,0,none⟩,d.length,d.length⟩] [c,d]:=by
 have L1:=lit_ints h c;have L2:=lit_ints (h.push 1 (c.flatMap iC)) d;have x2:=Ext.push (h.push 1 (c.flatMap iC)) 1 (d.flatMap iC);rw[<-he]at L2 x2;have x3:=Ext.push e 1 (([⟨some ⟨h.next,0,none⟩,c.length,c.length⟩,⟨some ⟨h.next+1,0,none⟩,d.length,d.length⟩]:List Hd).flatMap Hd.cells);refine⟨Own.rows (Own.push e 1 _) hd_len (by omega) (by show e.next<e.next+1;omega),rfl,fun y y0 y1=>?_⟩;rcases(by omega:y=0\/y=1)with rfl|rfl
 ·exact(L1.ext x2).ext x3
 ·exact L2.ext x3
variable{F:Prims}{call head arith cmp scmp bnot bsame conv neg imax imin ofNat slen place inR nz geZ rd wr push next mkOK nat zeros sadd eqAgg cut slc sslc strAt part app cpy putAt fresh lowered bump wrote addN lt ne fpAll fpApp brk yn rng mget mput mnew bytes clr mrng ment:_}(hA:AP F ⟨call,head,arith,cmp,scmp,bnot,bsame,conv,neg,imax,imin,ofNat,slen,place,inR,nz,geZ,rd,wr,push,next,mkOK,nat,zeros,sadd,eqAgg,cut,slc,sslc,strAt,part,app,cpy,putAt,fresh,lowered,bump,wrote,addN,lt,ne,fpAll,fpApp,brk,yn,rng,mget,mput,mnew,bytes,clr,mrng,ment⟩)
include hA
theorem ex_loop{h0:AHeap}{a:Option Addr}{n c:Nat}{N:Int}(hN:N=n){P:List F2}(hS:Rows F2.cells 2 h0 a n P)(hn:n<=1000){Q:Exit->SS->Prop}
  (hQ:∀h' a' c',Apd h' 6 a' n c' ((P.map exV).flatMap Vk.cells)->From h0.next a'->Ext h0 h'->Q (.exit 0) ⟨[(1,.slice a' n c')],0,[],h'⟩) :
  ∀(m:Nat) (i:Int) (k:Nat) (h:AHeap) (a':Option Addr) (c':Nat),(n-i).toNat<=m->0<=i->i<=n->(k:Int)=i->Apd h 6 a' k c' (((P.map exV).take i.toNat).flatMap Vk.cells)->From h0.next a'->Ext h0 h->
   head 34 3 0 ⟨[(1,.slice a' k c'),(9,.slice a n c),(10,.int .i64 N),(11,.int .i64 i)],0,[],h⟩ Q:=by
 have hlen:=hS.len;refine upTo (fun m ih=>?_);intro i k h a' c' hm i0 i1 hk hap hf he;by_cases ci:i<n
 rotate_left
 ·obtain rfl:k=n:=by omega
  refine hA.roundR Try.func34 r34_ok (zc ?_);refine br (i<N) (by rw[e_lss hA]) (fun c1=>by omega) (fun c1=>?_)<;>refine zc ?_;rw[List.take_of_length_le (by rw[List.length_map];omega)]at hap;exact hQ h a' c' hap hf he
 obtain⟨m,rfl⟩:∃k,m=k+1:=⟨m-1,by omega⟩
 replace ih:=ih m rfl
 obtain⟨bb,o,x,y,rfl,hbb,hgt,r1,_⟩:=fr_at (hS.ext he) (i:=i) i0 ci;have q1:=rd_ok hA r1;have e2:arith .add .i64 i 1=i+1:=add64 hA (by omega) (by omega);refine hA.roundR Try.func34 r34_ok (zc ?_);refine br (i<N) (by rw[e_lss hA]) (fun c1=>?_) (fun c1=>by omega)<;>refine zc ?_;refine zq ?_;refine appR_ok hA TV6 vk_len (by omega) vk_ok (v:=exV ⟨x,y⟩) hap (by omega) (fun a2 c2' h4 hp2 hx=>?_);obtain⟨x4,hf4⟩:=hx h0 he hf;refine zc ?_;rw[e2];refine ih (i+1) (k+1) h4 a2 c2' (by omega) (by omega) (by omega) (by omega) ?_ hf4 x4;rw[gt_take (P.map exV) i0 (by rw[List.length_map];omega),gt_map exV P i0 (by omega),hgt];exact hp2
theorem example_own{h:AHeap}(hlow:h.low<=h.next){Q:Value->AHeap->Prop}
  (hQ:∀h' b c,Own h' b 6 (exL.flatMap Vk.cells)->h.next<=b->b<h'.next->Ext h h'->Q (.slice (some ⟨b,0,none⟩) 5 c) h'):call 34 [] h Q:=by
 refine hA.bodyR Try.func34 r34_ok (hA.alike _ _ _ rfl) hlow (zc ?_);simp only[e_next hA,e_push hA,e_ofNat hA];have x1:=Ext.push h 2 (exP.flatMap F2.cells);have o1:=Own.push h 2 (exP.flatMap F2.cells);have n1:(h.push 2 (exP.flatMap F2.cells)).next=h.next+1:=rfl;change head _ _ _ ⟨_,_,_,h.push 2 (exP.flatMap F2.cells)⟩ _;generalize h.push 2 (exP.flatMap F2.cells)=h1 at *;have r1:Rows F2.cells 2 h1 (some ⟨h.next,0,none⟩) 5 exP:=Own.rows o1 f2_len (by omega) (by omega);refine ex_loop hA (h0:=h1) (n:=5) (c:=5) rfl r1 (by omega) (fun h2 a2 c2 ap fr x2=>?_) 5 0 0 h1 none 0 (by omega) (by omega) (by omega) rfl (by simp;exact Apd.nil _ _) (From.none _) (.refl h1);refine zc ?_;rcases ap with ⟨_,e,_⟩|⟨b,rfl,e2,e3,e4,e5⟩
 ·cases e
 ·exact hQ h2 b c2 e5 (by have:=fr _ rfl;show h.next<=b;have:h1.next<=b:=this;omega) e3 (x1.trans x2)
theorem example_ok{h:AHeap}(hlow:h.low<=h.next){Q:Value->AHeap->Prop}
  (hQ:∀h' a c,Vs h' a 5 exL->Ext h h'->Q (.slice a 5 c) h'):call 34 [] h Q:=
 example_own hA hlow (fun h' b c o _ hb x=>hQ h' _ c (Own.rows o vk_len (by omega) hb) x)
theorem alive_ok(hW:LW F)(hF:∀args h,F 21 args h=none){h:AHeap}(hlow:h.low<=h.next){Q:Value->AHeap->Prop}
  (hQ:∀h',Ext h h'->Q (.bool true) h'):call 21 [] h Q:=by
 refine hA.bodyR Try.func21 r21_ok (hF _ _) hlow (zc ?_);refine example_ok hA hlow (fun h1 a1 c1 L1 x1=>⟨_,_,_,rfl,?_⟩);refine zc ?_;refine tree_a hA hW (x1.lowOK hlow) L1 (by omega) (fun t pk e h2 a2 k2 c2 o2 r2 s2 x2'=>?_);have x2:=x1.trans x2';obtain⟨q2,rfl⟩:=o2.uniq ex_tree;cases q2;refine⟨_,_,_,_,_,rfl,?_⟩;refine zc ?_;refine example_ok hA (x2.lowOK hlow) (fun h3 a3 c3 L3 x3'=>⟨_,_,_,rfl,?_⟩);have x3:=x2.trans x3';refine zc ?_;refine chds_a hA hW (x3.lowOK hlow) L3 (by omega) (fun C e h4 a4 k4 c4 o4 r4 s4 x4'=>?_);have x4:=x3.trans x4';obtain⟨rfl,rfl⟩:=o4.uniq ex_chd;refine⟨_,_,_,_,rfl,?_⟩;refine zc ?_;refine example_ok hA (x4.lowOK hlow) (fun h5 a5 c5 L5 x5'=>⟨_,_,_,rfl,?_⟩);have x5:=x4.trans x5';refine zc ?_;refine bas_a hA hW (x5.lowOK hlow) L5 (by omega) (fun g e h6 a6 k6 c6 hs o6 r6 s6 l6 x6'=>?_);have x6:=x5.trans x6';obtain⟨rfl,rfl⟩:=o6.uniq ex_bass;refine⟨_,_,_,_,rfl,?_⟩;refine zc ?_;refine example_ok hA (x6.lowOK hlow) (fun h7 a7 c7 L7 x7'=>⟨_,_,_,rfl,?_⟩);have x7:=x6.trans x7';refine zc ?_;simp only[e_next hA,e_push hA,e_ofNat hA];change call _ _ (h7.push 1 (([0,1,2,3]:List Int).flatMap iC)) _;have L8:=lit_ints h7 [0,1,2,3];have x8':=Ext.push h7 1 (([0,1,2,3]:List Int).flatMap iC);generalize h7.push 1 (([0,1,2,3]:List Int).flatMap iC)=h8 at *;have x8:=x7.trans x8';refine Coefs_ok hA hW (x8.lowOK hlow) (L7.ext x8') (by omega) L8 (by decide) (fun h9 a9 k9 c9 x e o9 r9 s9 x9'=>?_);have x9:=x8.trans x9';obtain⟨rfl,rfl⟩:=o9.uniq ex_co1;refine⟨_,_,_,_,rfl,?_⟩;refine zc ?_;refine example_ok hA (x9.lowOK hlow) (fun h10 a10 c10 L10 x10'=>⟨_,_,_,rfl,?_⟩);have x10:=x9.trans x10';refine zc ?_;simp only[e_next hA,e_push hA,e_ofNat hA];change call _ _ (h10.push 1 (([0,3,2]:List Int).flatMap iC)) _;have L11:=lit_ints h10 [0,3,2];have x11':=Ext.push h10 1 (([0,3,2]:List Int).flatMap iC);generalize h10.push 1 (([0,3,2]:List Int).flatMap iC)=h11 at *;have x11:=x10.trans x11';refine Coefs_ok hA hW (x11.lowOK hlow) (L10.ext x11') (by omega) L11 (by decide) (fun h12 a12 k12 c12 x e o12 r12 s12 x12'=>?_);have x12:=x11.trans x12';obtain⟨rfl,rfl⟩:=o12.uniq ex_co2;refine⟨_,_,_,_,rfl,?_⟩;refine zc ?_;refine br True (by rw[e_eql hA];rfl) (fun _=>?_) (fun q=>absurd trivial q)<;>refine zc ?_;refine br True (by rw[e_eql hA];rfl) (fun _=>?_) (fun q=>absurd trivial q)<;>refine zc ?_;simp only[e_next hA,e_push hA,e_ofNat hA];change call _ _ (h12.push 2 (exT.flatMap F2.cells)) _;have L13:=lit_pairs h12 exT;have x13':=Ext.push h12 2 (exT.flatMap F2.cells);generalize h12.push 2 (exT.flatMap F2.cells)=h13 at *;have x13:=x12.trans x13';have y2:=(((((((((x3'.trans x4').trans x5').trans x6').trans x7').trans x8').trans x9').trans x10').trans x11').trans x12').trans x13';refine spairs_ok hA (x13.lowOK hlow) (r2.ext y2) L13 (by omega) (fun h14 x14'=>⟨_,rfl,?_⟩);have x14:=x13.trans x14';refine zc ?_;refine br True (by rw[e_eql hA];rfl) (fun _=>?_) (fun q=>absurd trivial q)<;>refine zc ?_;simp only[e_next hA,e_push hA,e_ofNat hA];change call _ _ (h14.push 2 (([⟨1,2⟩,⟨2,3⟩]:List F2).flatMap F2.cells)) _;have L15:=lit_pairs h14 [⟨1,2⟩,⟨2,3⟩];have x15':=Ext.push h14 2 (([⟨1,2⟩,⟨2,3⟩]:List F2).flatMap F2.cells);generalize h14.push 2 (([⟨1,2⟩,⟨2,3⟩]:List F2).flatMap F2.cells)=h15 at *;have x15:=x14.trans x15';have y4:=(((((((((x5'.trans x6').trans x7').trans x8').trans x9').trans x10').trans x11').trans x12').trans x13').trans x14').trans x15';refine spairs_ok hA (x15.lowOK hlow) (r4.ext y4) L15 (by omega) (fun h16 x16'=>⟨_,rfl,?_⟩);have x16:=x15.trans x16';refine zc ?_;refine br True (by rw[e_eql hA];rfl) (fun _=>?_) (fun q=>absurd trivial q)<;>refine zc ?_;simp only[e_next hA,e_push hA,e_ofNat hA];obtain⟨e17,he17⟩:∃z,z=(h16.push 1 (([1,2,0]:List Int).flatMap iC)).push 1 (([2,3,0]:List Int).flatMap iC):=⟨_,rfl⟩;have x17':Ext h16 e17:=by rw[he17];exact(Ext.push _ _ _).trans (Ext.push _ _ _)
 have L18:=lit_lists h16 [1,2,0] [2,3,0] e17 he17;have x18':=Ext.push e17 1 (([⟨some ⟨h16.next,0,none⟩,3,3⟩,⟨some ⟨h16.next+1,0,none⟩,3,3⟩]:List Hd).flatMap Hd.cells);have e17n:((h16.push 1 [Value.int .i64 1,.int .i64 2,.int .i64 0]).push 1 [Value.int .i64 2,.int .i64 3,.int .i64 0]).next=e17.next:=by rw[he17];rfl
 have e17h:((h16.push 1 [Value.int .i64 1,.int .i64 2,.int .i64 0]).push 1 [Value.int .i64 2,.int .i64 3,.int .i64 0])=e17:=by rw[he17];rfl
 rw[e17n,e17h];change call _ _ (e17.push 1 (([⟨some ⟨h16.next,0,none⟩,3,3⟩,⟨some ⟨h16.next+1,0,none⟩,3,3⟩]:List Hd).flatMap Hd.cells)) _;change GrR iC 1 (e17.push 1 (([⟨some ⟨h16.next,0,none⟩,3,3⟩,⟨some ⟨h16.next+1,0,none⟩,3,3⟩]:List Hd).flatMap Hd.cells)) _ _ _ _ at L18;generalize e17.push 1 (([⟨some ⟨h16.next,0,none⟩,3,3⟩,⟨some ⟨h16.next+1,0,none⟩,3,3⟩]:List Hd).flatMap Hd.cells)=h18 at *;have x18:=(x16.trans x17').trans x18';have y6:=(((((((((((x7'.trans x8').trans x9').trans x10').trans x11').trans x12').trans x13').trans x14').trans x15').trans x16').trans x17').trans x18');refine slists_ok hA (x18.lowOK hlow) (r6.ext y6) L18 (by omega) l6 (fun h19 x19'=>⟨_,rfl,?_⟩);have x19:=x18.trans x19';refine zc ?_;refine br True (by rw[e_eql hA];rfl) (fun _=>?_) (fun q=>absurd trivial q)<;>refine zc ?_;simp only[e_next hA,e_push hA,e_ofNat hA];change call _ _ (h19.push 1 (([1,1]:List Int).flatMap iC)) _;have L20:=lit_ints h19 [1,1];have x20':=Ext.push h19 1 (([1,1]:List Int).flatMap iC);generalize h19.push 1 (([1,1]:List Int).flatMap iC)=h20 at *;have x20:=x19.trans x20';have y9:=(((((((((((x10'.trans x11').trans x12').trans x13').trans x14').trans x15').trans x16').trans x17').trans x18').trans x19').trans x20'));refine sints_ok hA (x20.lowOK hlow) (r9.ext y9) L20 (by omega) (fun h21 x21'=>⟨_,rfl,?_⟩);have x21:=x20.trans x21';refine zc ?_;refine br True (by rw[e_eql hA];rfl) (fun _=>?_) (fun q=>absurd trivial q)<;>refine zc ?_;simp only[e_next hA,e_push hA,e_ofNat hA];change call _ _ (h21.push 1 (([0,-1]:List Int).flatMap iC)) _;have L22:=lit_ints h21 [0,-1];have x22':=Ext.push h21 1 (([0,-1]:List Int).flatMap iC);generalize h21.push 1 (([0,-1]:List Int).flatMap iC)=h22 at *;have x22:=x21.trans x22';have y12:=(((((((((x13'.trans x14').trans x15').trans x16').trans x17').trans x18').trans x19').trans x20').trans x21').trans x22');refine sints_ok hA (x22.lowOK hlow) (r12.ext y12) L22 (by omega) (fun h23 x23'=>⟨_,rfl,?_⟩);have x23:=x22.trans x23';refine zc ?_;exact hQ h23 x23
