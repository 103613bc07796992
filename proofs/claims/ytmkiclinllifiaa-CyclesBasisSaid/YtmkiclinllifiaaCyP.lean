import Derived.Test.YtmkiclinllifiaaQuSo
import Derived.Test.YtmkiclinllifiaaCxA
import Derived.Test.YtmkiclinllifiaaMapI
import Derived.Test.YtmkiclinllifiaaSymD
import Derived.Test.YtmkiclinllifiaaTreeP
import Derived.Test.YtmkiclinllifiaaCyLeast
set_option linter.unusedSimpArgs false
set_option linter.unusedVariables false
namespace Go.Proofs.Ytmkiclinllifiaa
open Go.Sim
set_option maxRecDepth 100000
structure Vk where
 i:Int
 j:Int
 re:Int
 im:Int
 den:Int
 n:Int
instance:Inhabited Vk:=⟨⟨0,0,0,0,0,0⟩⟩
def Vk.cells(v:Vk):List Value:=[.int .i64 v.i,.int .i64 v.j,.int .i64 v.re,.int .i64 v.im,.int .i64 v.den,.int .i64 v.n]
theorem vk_len(v:Vk):v.cells.length=6:=rfl
theorem vk_ok(v:Vk):v.cells.all cellOK=true:=rfl
abbrev Vs(h:AHeap)(a:Option Addr)(n:Nat)(l:List Vk):Prop:=Rows Vk.cells 6 h a n l
theorem vs_at{h:AHeap}{a:Option Addr}{n:Nat}{l:List Vk}(p:Vs h a n l){i:Int}(h0:0<=i)(hi:i<n) :
  ∃b o x y z u d w,a=some ⟨b,o,none⟩/\b<h.next/\gt l i=⟨x,y,z,u,d,w⟩/\h.readG ⟨b,o+i.toNat*6,none⟩ 6=some [.int .i64 x,.int .i64 y,.int .i64 z,.int .i64 u,.int .i64 d,.int .i64 w] /\
   ∀f m,f+m<=6->0<m->h.readG ⟨b,o+i.toNat*6+f,none⟩ m=some (((gt l i).cells.drop f).take m):=by
 obtain⟨b,o,e,h1,h2⟩:=p.at h0 (by have:=p.len;omega);obtain⟨x,y,z,u,d,w,hx⟩:∃x y z u d w,gt l i=⟨x,y,z,u,d,w⟩:=⟨_,_,_,_,_,_,rfl⟩;refine⟨b,o,x,y,z,u,d,w,e,h1,hx,?_,h2⟩;have:=h2 0 6 (by omega) (by omega);rw[hx]at this;exact this
def Vk.pr(v:Vk):F2:=⟨v.i,v.j⟩
def stOK(l:List Vk):Prop:=∀i:Int,0<=i->i<l.length->okP (gt l i).i (gt l i).j
theorem okP_of{n d:Int}(h1:0<=n)(h2:n<8)(h3:0<=d)(h4:d<8):okP n d:=⟨_,h1,h2,h3,h4,rfl⟩
theorem TP2:SliceT Try.prog 23 54 2:=⟨by kernel_rfl,by kernel_rfl,⟨16,by kernel_rfl,by omega⟩,⟨.agg #[.int .i64 0,.int .i64 0],by kernel_rfl,rfl⟩⟩
theorem ext_cut{h:AHeap}{b:Nat}(hb:b<h.next):Ext { next:=b+1,low:=h.low,m:=h.m } h:=
 ⟨by show b+1<=h.next;omega,fun q=>by have q':h.low<=b+1:=q;omega,Nat.min_le_left _ _,fun _ _=>rfl⟩
def cutH(h:AHeap)(k:Nat):AHeap:={ next:=k,low:=min h.low k,m:=h.m }
theorem cut_low(h:AHeap)(k:Nat):(cutH h k).low<=(cutH h k).next:=Nat.min_le_right _ _
theorem cut_ext{h:AHeap}{k:Nat}(hk:k<=h.next)(hl:h.low<=h.next):Ext (cutH h k) h:=
 ⟨hk,fun _=>hl,by show Nat.min (min h.low k) k<=h.low;exact Nat.le_trans (Nat.min_le_left _ _) (Nat.min_le_left _ _),fun _ _=>rfl⟩
theorem cut_thru{h h2 h':AHeap}{k:Nat}(e:Ext h h2)(h1:h.next<=k)(x:Ext (cutH h2 k) h'):Ext h h':=by
 have x1:k<=h'.next:=x.next;have x2:h'.low<=h'.next:=x.low (cut_low _ _);have x3:min (min h2.low k) k<=h'.low:=x.lowG;have e3:min h.low h.next<=h2.low:=e.lowG;refine⟨by omega,fun _=>x2,?_,fun b hb=>?_⟩
 ·show min h.low h.next<=h'.low
  omega
 ·rw[x.get b (by show b<k;omega)]
  exact e.get b hb
theorem f2_ok'(x:F2):x.cells.all cellOK=true:=rfl
variable{F:Prims}{call head arith a0 c0 d0 e0 f0 j0 k0 l0 m0 n0 o0 p0 nz q0 rd wr push next r0 s0 t0 u0 v0 w0 x0 y0 z0 part a1 b1 d1 f1 l1 p1 u1 v1 lt ne y1 z1 d2 yn i2 j2 l2 m2 u2 v2 y2 z2:_}(hA:AP F ⟨call,head,arith,a0,c0,d0,e0,f0,j0,k0,l0,m0,n0,o0,p0,nz,q0,rd,wr,push,next,r0,s0,t0,u0,v0,w0,x0,y0,z0,part,a1,b1,d1,f1,l1,p1,u1,v1,lt,ne,y1,z1,d2,yn,i2,j2,l2,m2,u2,v2,y2,z2⟩)
include hA
theorem sort_nil{h:AHeap}(hlow:h.low<=h.next){Q:Value->AHeap->Prop}(hQ:∀h',Ext h h'->Q (.tuple #[]) h'):call 77 [.slice none 0 0,.func (.func 78) #[] #[]] h Q:=by
 refine hA.bodyR Try.func77 r77_ok (hA.alike _ _ _ rfl) hlow (zc ?_);rw[e_ofNat hA,convU hA (by omega) (by omega)];refine len_ok hA hlow (by unfold u64;omega) (fun k hk=>⟨_,rfl,?_⟩);refine zc ?_;refine hA.bodyR Try.func82 r82_ok (hA.alike _ _ _ rfl) hlow (zc ?_);refine hA.roundR Try.func82 r82_ok (zc ?_);refine br True (by rw[e_leq hA];rw[e_sub hA];rfl) (fun _=>?_) (fun q=>absurd trivial q)<;>refine zc ?_;refine zc ?_;refine hA.bodyR Try.func85 r85_ok (hA.alike _ _ _ rfl) hlow (zc ?_);rw[show arith .add .i64 0 1=1 from add64 hA (by omega) (by omega)];refine hA.roundR Try.func85 r85_ok (zc ?_);refine br False (by rw[e_lss hA];rfl) (fun q=>q.elim) (fun _=>?_)<;>refine zc ?_;refine zc ?_;exact hQ h (.refl h)
theorem bl_loop{h0:AHeap}(hlow:h0.low<=h0.next){a:Option Addr}{n c:Nat}{N:Int}(hN:N=n){l:List Vk}(hl:Vs h0 a n l)(hn:n<=1000){b:Nat}(hb0:h0.next<=b){Q:Exit->SS->Prop}
  (hQ:∀h' a' c',Own h' b 1 [.slice a' n c']->Apd h' 2 a' n c' ((l.map Vk.pr).flatMap F2.cells)->From (b+1) a'->Ext h0 h'->b<h'.next->Q (.exit 0) ⟨[(3,.pointer (some ⟨b,0,none⟩))],0,[],h'⟩) :
  ∀(m:Nat) (i:Int) (k:Nat) (h:AHeap) (a':Option Addr) (c':Nat),(n-i).toNat<=m->0<=i->i<=n->(k:Int)=i->Own h b 1 [.slice a' k c']->Apd h 2 a' k c' (((l.map Vk.pr).take i.toNat).flatMap F2.cells)->From (b+1) a'->Ext h0 h->b<h.next->
   head 65 3 0 ⟨[(3,.pointer (some ⟨b,0,none⟩)),(6,.slice a n c),(7,.int .i64 N),(8,.int .i64 i)],0,[],h⟩ Q:=by
 have hlen:=hl.len;refine upTo (fun m ih=>?_);intro i k h a' c' hm i0 i1 hk ho hp hf he hb;by_cases ci:i<n
 rotate_left
 ·obtain rfl:k=n:=by omega
  refine hA.roundR Try.func65 r65_ok (zc ?_);refine br (i<N) (by rw[e_lss hA]) (fun c1=>by omega) (fun c1=>?_)<;>refine zc ?_;rw[List.take_of_length_le (by rw[List.length_map];omega)]at hp;exact hQ h a' c' ho hp hf he hb
 obtain⟨m,rfl⟩:∃k,m=k+1:=⟨m-1,by omega⟩
 replace ih:=ih m rfl
 obtain⟨bb,o,x,y,z,u,d,w,rfl,hbb,hg,r1,_⟩:=vs_at (hl.ext he) (i:=i) i0 ci;have q1:=rd_ok hA r1;have q2:rd h b 0 1 [.slice a' k c']:=rd_at hA (ho.readG (o:=0) (n:=1) (by simp));have e2:arith .add .i64 i 1=i+1:=add64 hA (by omega) (by omega);refine hA.roundR Try.func65 r65_ok (zc ?_);refine br (i<N) (by rw[e_lss hA]) (fun c1=>?_) (fun c1=>by omega)<;>refine zc ?_;refine zq ?_;refine⟨_,_,_,_,_,_,q1,?_⟩;refine zq ?_;obtain⟨hB,hhB⟩:∃z:AHeap,z = { next:=b+1,low:=h.low,m:=h.m }:=⟨_,rfl⟩;have xB:Ext hB h:=by rw[hhB];exact ext_cut hb
 have nB:hB.next=b+1:=by rw[hhB]
 refine appR_ok hA TP2 f2_len (by omega) f2_ok' (v:=⟨x,y⟩) hp (by omega) (fun a2 c2 h2 hp2 hx=>?_);obtain⟨x2,_⟩:=hx h0 he (fun ad had=>by have:=hf ad had;omega);obtain⟨xB2,hf2⟩:=hx hB xB (by rw[nB];exact hf);rw[nB]at hf2;have o2:Own h2 b 1 [.slice a' k c']:=by unfold Own at ho ⊢;rw[xB2.get b (by omega)];rw[hhB];exact ho
 have hb2:b<h2.next:=by have:=xB2.next;omega
 refine zc ?_;obtain⟨h3,w3,o3,k3⟩:=o2.write (o:=0) (vs:=[.slice a2 (k+1) c2]) (by simp);refine⟨h3,wr_at hA w3,?_⟩;refine zc ?_;rw[e2];have n3:=k3.next;refine ih (i+1) (k+1) h3 a2 c2 (by omega) (by omega) (by omega) (by omega) o3 ?_ hf2 (k3.ext x2 hb0) (by omega);rw[gt_take (l.map Vk.pr) i0 (by rw[List.length_map];omega),gt_map Vk.pr l i0 (by omega),hg];exact hp2.of_get (by omega) (fun ad had hlt=>k3.get _ (by have:=hf2 ad had;omega))
theorem baselines_ok{h:AHeap}(hlow:h.low<=h.next){a:Option Addr}{n c:Nat}{l:List Vk}(hl:Vs h a n l)(hs:stOK l)(hn:n<=1000){Q:Value->AHeap->Prop}
  (hQ:∀h' b a' c' P,Own h' b 1 [.slice a' n c']->Rows F2.cells 2 h' a' n P->PermOn 0 n (l.map Vk.pr) P->SortedOn leF P 0 n->h.next<=b->b<h'.next->From h.next a'->(∀ad,a'=some ad->ad.block≠b)->Ext h h'->Q (.func (.func 81) #[] #[.pointer (some ⟨b,0,none⟩)]) h') :
  call 65 [.slice a n c] h Q:=by
 have hlen:=hl.len;refine hA.bodyR Try.func65 r65_ok (hA.alike _ _ _ rfl) hlow (zc ?_);simp only[e_next hA,e_push hA,e_ofNat hA];have x1:=Ext.push h 1 [.slice none 0 0];have o1:=Own.push h 1 [.slice none 0 0];have n1:(h.push 1 [.slice none 0 0]).next=h.next+1:=rfl;generalize h.push 1 [.slice none 0 0]=h1 at *;refine bl_loop hA hlow rfl hl hn (b:=h.next) (Nat.le_refl _) (fun h2 a' c' o2 p2 f2 e2 b2=>?_) n 0 0 h1 none 0 (by omega) (by omega) (by omega) rfl o1 (by simp;exact Apd.nil _ _) (From.none _) x1 (by omega);have q2:rd h2 h.next 0 1 [.slice a' n c']:=rd_at hA (o2.readG (o:=0) (n:=1) (by simp));refine zq ?_;have fin:∀h' P,Ext (cutH h2 (h.next+1)) h'->Rows F2.cells 2 h' a' n P->PermOn 0 n (l.map Vk.pr) P->SortedOn leF P 0 n->Q (.func (.func 81) #[] #[.pointer (some ⟨h.next,0,none⟩)]) h':=fun h' P x hr hp hso=>by
  have nx:h.next+1<=h'.next:=x.next;refine hQ h' h.next a' c' P ?_ hr hp hso (Nat.le_refl _) (by omega) (fun ad had=>by have:=f2 ad had;omega) (fun ad had=>by have:=f2 ad had;omega) (cut_thru e2 (by omega) x);unfold Own at o2 ⊢;rw[x.get h.next (by show h.next<h.next+1;omega)];exact o2
 rcases p2 with ⟨rfl,rfl,rfl,p4⟩|⟨bb,rfl,rfl,p5,p6,p7⟩
 ·refine sort_nil hA (cut_ext b2 (e2.lowOK hlow) |>.lowOK (cut_low _ _)) (fun h' x=>?_)
  refine zc ?_;have hl0:l=[]:=List.length_eq_zero_iff.1 hlen;subst hl0;exact fin h' [] ((cut_ext b2 (e2.lowOK hlow)).trans x) (Rows.nil h' f2_len (by omega)) (.refl _ _ _) (fun i j h1 h2 h3=>by omega)
 ·have hbb:h.next+1<=bb:=f2 _ rfl
  have xc:=cut_ext (k:=h.next+1) (h:=h2) b2 (e2.lowOK hlow);have hd:Dat (cutH h2 (h.next+1)) h2 bb n (l.map Vk.pr):=⟨xc,p7,hbb,p5,by rw[List.length_map];exact hlen,fun i i0 i1=>by rw[gt_map Vk.pr l i0 (by omega)];exact hs i i0 (by omega),by omega⟩;refine sortfunc_ok hA (cut_low _ _) hd (fun h' P hd' hp hso=>?_);refine zc ?_;exact fin h' P hd'.ext (by have:=Own.rows hd'.own f2_len (by omega) hd'.lt;rw[hd'.len]at this;exact this) hp hso
end Go.Proofs.Ytmkiclinllifiaa
namespace Go.Proofs.Ytmkiclinllifiaa
open Go.Sim
set_option maxRecDepth 100000
theorem cellsI:Try.prog.cellsOf 3=1:=by kernel_rfl
theorem cellsL:Try.prog.cellsOf 2=1:=by kernel_rfl
theorem cellsC:Try.prog.cellsOf 60=3:=by kernel_rfl
theorem cellsV:Try.prog.cellsOf 66=6:=by kernel_rfl
theorem len3{l:List Value}(h:l.length=3):∃a b c,l=[a,b,c]:=by
 match l,h with
 | [a,b,c],_=>exact⟨a,b,c,rfl⟩
theorem len6{l:List Value}(h:l.length=6):∃a b c d e f,l=[a,b,c,d,e,f]:=by
 match l,h with
 | [a,b,c,d,e,f],_=>exact⟨a,b,c,d,e,f,rfl⟩
theorem int_dec{w:World}{base d:Nat}{l:List Value}(h:TS Try.prog w base d 3 l):∃x,l=[.int .i64 x]:=by
 cases d with
 |zero=>exact h.elim
 |succ d=>
  obtain⟨x,e1,w1⟩:=ts_int Try.underlying3 h;exact⟨x,e1⟩
theorem cx_dec{w:World}{base d:Nat}{l:List Value}(h:TS Try.prog w base d 60 l):∃x y z,l=[.int .i64 x,.int .i64 y,.int .i64 z]:=by
 cases d with
 |zero=>exact h.elim
 |succ d=>
  obtain⟨h1,h2⟩:=ts_struct Try.underlying60 h;rw[cellsC]at h1;obtain⟨a,b,c,rfl⟩:=len3 h1;simp only[List.forall_mem_cons,List.not_mem_nil,false_imp_iff,implies_true,and_true,cellsL,List.drop,List.take]at h2;obtain⟨g0,g1,g2⟩:=h2;cases d with
  |zero=>exact g0.elim
  |succ d=>
   obtain⟨x,e1,w1⟩:=ts_int Try.underlying2 g0;obtain⟨y,e2,w2⟩:=ts_int Try.underlying2 g1;obtain⟨z,e3,w3⟩:=ts_int Try.underlying2 g2;simp only[List.cons.injEq,and_true]at e1 e2 e3;subst e1 e2 e3;exact⟨x,y,z,rfl⟩
theorem vis_dec{w:World}{base d:Nat}{l:List Value}(h:TS Try.prog w base d 66 l):∃k:Vk,l.map (absV w)=k.cells/\True:=by
 cases d with
 |zero=>exact h.elim
 |succ d=>
  obtain⟨h1,h2⟩:=ts_struct Try.underlying66 h;rw[cellsV]at h1;obtain⟨a,b,c,e,f,g,rfl⟩:=len6 h1;simp only[List.forall_mem_cons,List.not_mem_nil,false_imp_iff,implies_true,and_true,cellsC,cellsI,List.drop,List.take]at h2;obtain⟨g0,g1,g2,g3⟩:=h2;obtain⟨x,e1⟩:=int_dec g0;obtain⟨y,e2⟩:=int_dec g1;obtain⟨z,u,v,e3⟩:=cx_dec g2;obtain⟨t,e4⟩:=int_dec g3;simp only[List.cons.injEq,and_true]at e1 e2 e3 e4;obtain rfl:=e1;obtain rfl:=e2;obtain⟨rfl,rfl,rfl⟩:=e3;obtain rfl:=e4;exact⟨⟨x,y,z,u,v,t⟩,rfl,trivial⟩
theorem vis_in{w:World}{h:AHeap}(hn:h.next=w.heap.size)(hm:∀b,b<w.heap.size->h.m.get b=absB w b){H:Type}{enc:TypeId×Value->H}{base fuel b0:Nat}{held:Bool}{r:Go.Reach}{v:Value}{x:DataW H×List MemPlace}
  (hval:Value.okWide Try.prog w r b0 22 v) (hf:DataW.trod enc Try.prog w base (fun _=>true) held fuel 22 v.cells.toList=some x) :
  ∃a n c l,v=.slice a n c/\repC w v=true/\n<=c/\c<=maxLen/\Vs h a n l:=by
 obtain⟨a,n,c,d,rfl,hr,hrep,rfl,hts⟩:=value_slice Try.underlying22 hval hf;obtain⟨xs,k1,k2,k3,k4,k5⟩:=slice_in hn hm Try.underlying22 hts hrep Vk.cells cellsV (by omega) (fun _=>rfl) (fun _=>True) (fun l hl=>vis_dec hl);exact⟨a,n,c,xs,rfl,hr,k2,k3,⟨k4,fun _=>rfl,by omega⟩⟩
end Go.Proofs.Ytmkiclinllifiaa
namespace Go.Proofs.Ytmkiclinllifiaa
open Go.Sim
def F2.t(p:F2):Int×Int:=(p.n,p.d)
def cutP(R:Int->Bool)(p:F2):Bool:=R p.n != R p.d
def setR(R:Int->Bool)(s:Int):Int->Bool:=fun x=>if x=s then true else R x
def addR(R:Int->Bool)(p:F2):Int->Bool:=setR (setR R p.n) p.d
structure Bas(l:List Vk)(P:List F2):Prop where
 sorted:∀i j:Int,0<=i->i<j->j<P.length->(gt P i).q<(gt P j).q
 mem:∀x,x∈P↔∃v∈l,x=v.pr
inductive Reach(P:List F2):(Int->Bool)->List F2->(Int->Bool)->List F2->Prop
 |stop {R:Int->Bool} {t:List F2} (h:P.find? (cutP R)=none):Reach P R t R t
 |step {R:Int->Bool} {t:List F2} {p:F2} {R':Int->Bool} {t':List F2} (h:P.find? (cutP R)=some p) (r:Reach P (addR R p) (t++[p]) R' t'):Reach P R t R' t'
inductive Parts(P:List F2)(S:Int->Prop):(Int->Bool)->List F2->Int->List F2->Int->Prop
 |stop {R:Int->Bool} {t:List F2} {k:Int} (h:∀s,S s->R s=true):Parts P S R t k t k
 |part {R:Int->Bool} {t:List F2} {k:Int} {s:Int} {R1:Int->Bool} {t1 t':List F2} {k':Int} (h1:S s) (h2:R s=false) (h3:∀x,S x->x<s->R x=true) (r:Reach P (setR R s) t R1 t1) (q:Parts P S R1 t1 (k+1) t' k'):Parts P S R t k t' k'
theorem Reach.uniq{P:List F2}{R:Int->Bool}{t:List F2}{R1 R2:Int->Bool}{t1 t2:List F2}(h:Reach P R t R1 t1)(k:Reach P R t R2 t2):R1=R2/\t1=t2:=by
 induction h with
 |stop h=>
  cases k with
  |stop _=>exact⟨rfl,rfl⟩
  |step k _=>rw[h]at k;cases k
 |step h r ih=>
  cases k with
  |stop k=>rw[h]at k;cases k
  |step k k2=>
   rw[h]at k;obtain rfl:=Option.some.inj k;exact ih k2
theorem Parts.uniq{P:List F2}{S:Int->Prop}{R:Int->Bool}{t:List F2}{n:Int}{t1 t2:List F2}{k1 k2:Int}(h:Parts P S R t n t1 k1)(k:Parts P S R t n t2 k2):t1=t2/\k1=k2:=by
 induction h with
 |stop h=>
  cases k with
  |stop _=>exact⟨rfl,rfl⟩
  |part q1 q2 _ _ _=>rw[h _ q1]at q2;cases q2
 | @part R t n s R1 t1 t' k' h1 h2 h3 r q ih=>
  cases k with
  |stop k=>rw[k _ h1]at h2;cases h2
  | @part _ _ _ s2 _ _ _ _ q1 q2 q3 r2 q4=>
   have e:s=s2:=by
    rcases Int.lt_trichotomy s s2 with c|c|c
    ·have:=q3 s h1 c;rw[h2]at this;cases this
    ·exact c
    ·have:=h3 s2 q1 c;rw[q2]at this;cases this
   subst e;obtain⟨rfl,rfl⟩:=r.uniq r2;exact ih q4
theorem rq_ok{x y:F2}(hx:okP x.n x.d)(hy:okP y.n y.d)(h:x.q=y.q):x=y:=by
 obtain⟨h1,h2,h3,h4,_⟩:=hx.is;obtain⟨k1,k2,k3,k4,_⟩:=hy.is;have e:8*x.n+x.d=8*y.n+y.d:=Rat.intCast_inj.1 h;obtain⟨a,b⟩:=x;obtain⟨c,d⟩:=y;simp only at *;rw[show a=c by omega,show b=d by omega]
theorem strict_uniq:∀{P P':List F2},(∀x∈P,okP x.n x.d)->(∀x∈P',okP x.n x.d)->P.Pairwise (fun x y=>x.q<y.q)->P'.Pairwise (fun x y=>x.q<y.q)->(∀x,x∈P↔x∈P')->P=P'
 | [],[],_,_,_,_,_=>rfl
 | [],x :: P',_,_,_,_,h=>by have:=(h x).2 List.mem_cons_self;cases this
 |x :: P,[],_,_,_,_,h=>by have:=(h x).1 List.mem_cons_self;cases this
 |x :: P,y :: P',o,o',s,s',h=>by
  obtain⟨s1,s2⟩:=List.pairwise_cons.1 s;obtain⟨s1',s2'⟩:=List.pairwise_cons.1 s';have e:x=y:=by
   rcases List.mem_cons.1 ((h x).1 List.mem_cons_self)with e|hx
   ·exact e
   rcases List.mem_cons.1 ((h y).2 List.mem_cons_self)with e|hy
   ·exact e.symm
   have a:=s1 y hy;have b:=s1' x hx;exact absurd a (Rat.not_lt.2 (Rat.le_of_lt b))
  subst e
  congr 1
  refine strict_uniq (fun z hz=>o z (List.mem_cons_of_mem _ hz)) (fun z hz=>o' z (List.mem_cons_of_mem _ hz)) s2 s2' (fun z=>?_);constructor
  ·intro hz
   rcases List.mem_cons.1 ((h z).1 (List.mem_cons_of_mem _ hz))with e|q
   ·subst e;exact absurd (s1 z hz) (Rat.lt_irrefl)
   ·exact q
  ·intro hz
   rcases List.mem_cons.1 ((h z).2 (List.mem_cons_of_mem _ hz))with e|q
   ·subst e;exact absurd (s1' z hz) (Rat.lt_irrefl)
   ·exact q
theorem Bas.pw{l:List Vk}{P:List F2}(h:Bas l P):P.Pairwise (fun x y=>x.q<y.q):=by
 rw[List.pairwise_iff_getElem];intro i j hi hj hij;have:=h.sorted i j (by omega) (by omega) (by omega);unfold gt at this;simp only[List.getD,Int.toNat_natCast,List.getElem?_eq_getElem hi,List.getElem?_eq_getElem hj,Option.getD_some]at this;exact this
theorem Bas.ok{l:List Vk}{P:List F2}(h:Bas l P)(hs:stOK l):∀x∈P,okP x.n x.d:=fun x hx=>by
 obtain⟨v,hv,rfl⟩:=(h.mem x).1 hx;obtain⟨i,i0,i1,rfl⟩:=mem_gt hv;exact hs i i0 i1
theorem Bas.uniq{l:List Vk}{P P':List F2}(hs:stOK l)(h:Bas l P)(k:Bas l P'):P=P':=
 strict_uniq (h.ok hs) (k.ok hs) h.pw k.pw (fun x=>by rw[h.mem,k.mem])
def trT(t:List F2):List (Int×Int):=(t.map F2.t).reverse
theorem trT_add(t:List F2)(p:F2):trT (t++[p])=p.t :: trT t:=by unfold trT;simp
def InR(R:Int->Bool)(t:List F2):Prop:=∀x,hasV (trT t) x=true->R x=true
theorem cut_grows{R:Int->Bool}{t:List F2}{p:F2}(hg:grows (trT t)=true)(hr:InR R t)(hc:cutP R p=true):grows (trT (t++[p]))=true/\InR (addR R p) (t++[p]):=by
 have hne:R p.n≠R p.d:=by unfold cutP at hc;simpa using hc
 constructor
 ·rw[trT_add]
  show grows ((p.n,p.d) :: trT t)=true;simp only[grows,Bool.and_eq_true,Bool.or_eq_true,Bool.not_eq_true',decide_eq_false_iff_not];refine⟨⟨fun e=>hne (by rw[e]),?_⟩,hg⟩;cases h1:hasV (trT t) p.n with
  |false=>exact .inl rfl
  |true=>
   right;cases h2:hasV (trT t) p.d with
   |false=>rfl
   |true=>exact absurd ((hr _ h1).trans (hr _ h2).symm) hne
 ·intro x hx
  rw[trT_add,hasV_cons]at hx;unfold addR setR;rcases hx with h|h|h
  ·have:x=p.n:=h.symm
   by_cases c:x=p.d
   ·rw[if_pos c]
   ·rw[if_neg c,if_pos this]
  ·rw[if_pos (show x=p.d from h.symm)]
  ·have:=hr x h
   by_cases c:x=p.d
   ·rw[if_pos c]
   ·rw[if_neg c]
    by_cases c2:x=p.n
    ·rw[if_pos c2]
    ·rw[if_neg c2];exact this
theorem Reach.grows{P:List F2}{R:Int->Bool}{t:List F2}{R':Int->Bool}{t':List F2}(h:Reach P R t R' t')(hg:grows (trT t)=true)(hr:InR R t):grows (trT t')=true/\InR R' t'/\(∀x,R x=true->R' x=true)/\(∀x∈t',x∈t\/x∈P)/\P.find? (cutP R')=none:=by
 induction h with
 |stop h=>exact⟨hg,hr,fun _ h=>h,fun x hx=>.inl hx,h⟩
 | @step R t p R' t' h r ih=>
  obtain⟨g1,g2⟩:=cut_grows hg hr (List.find?_some h);obtain⟨k1,k2,k3,k4,k5⟩:=ih g1 g2;refine⟨k1,k2,fun x hx=>k3 x ?_,fun x hx=>?_,k5⟩
  ·unfold addR setR
   by_cases c:x=p.d
   ·rw[if_pos c]
   ·rw[if_neg c]
    by_cases c2:x=p.n
    ·rw[if_pos c2]
    ·rw[if_neg c2];exact hx
  ·rcases k4 x hx with q|q
   ·rcases List.mem_append.1 q with q|q
    ·exact .inl q
    ·rw[List.mem_singleton.1 q];exact .inr (List.mem_of_find?_eq_some h)
   ·exact .inr q
theorem Parts.grows{P:List F2}{S:Int->Prop}{R:Int->Bool}{t:List F2}{k:Int}{t':List F2}{k':Int}(h:Parts P S R t k t' k')(hg:grows (trT t)=true)(hr:InR R t):grows (trT t')=true/\(∀x∈t',x∈t\/x∈P):=by
 induction h with
 |stop h=>exact⟨hg,fun x hx=>.inl hx⟩
 | @part R t k s R1 t1 t' k' h1 h2 h3 r q ih=>
  have hr':InR (setR R s) t:=fun x hx=>by
   unfold setR;by_cases c:x=s
   ·rw[if_pos c]
   ·rw[if_neg c];exact hr x hx
  obtain⟨g1,g2,g3,g4,g5⟩:=r.grows hg hr';obtain⟨k1,k2⟩:=ih g1 g2;refine⟨k1,fun x hx=>?_⟩;rcases k2 x hx with q|q
  ·exact g4 x q
  ·exact .inr q
structure RMap(S:Int->Prop)(M:List (Int×Bool))(R:Int->Bool):Prop where
 nd:(M.map (·.1)).Nodup
 keys:∀x,(getL M x).isSome=true↔S x
 val:∀x,R x=decide (getL M x=some true)
theorem RMap.put{S:Int->Prop}{M M':List (Int×Bool)}{R:Int->Bool}(h:RMap S M R){s:Int}(hs:S s)(h1:∀k,getL M' k=if k=s then some true else getL M k)(h2:∀u,getL M s=some u->M'.map (·.1)=M.map (·.1)):RMap S M' (setR R s):=by
 obtain⟨u,hu⟩:=Option.isSome_iff_exists.1 ((h.keys s).2 hs);refine⟨by rw[h2 u hu];exact h.nd,fun x=>?_,fun x=>?_⟩
 ·rw[h1]
  by_cases c:x=s
  ·rw[if_pos c,c];exact⟨fun _=>hs,fun _=>rfl⟩
  ·rw[if_neg c];exact h.keys x
 ·rw[h1]
  unfold setR;by_cases c:x=s
  ·rw[if_pos c,if_pos c];simp
  ·rw[if_neg c,if_neg c];exact h.val x
theorem flags_enc:∀{M:List (Int×Bool)},(∀e∈M,0<=e.1)->flagsOf (encE intK boolK M)=some M
 | [],_=>rfl
 |(n,b) :: M,h=>by
  have h0:0<=n:=h (n,b) List.mem_cons_self;have ih:=flags_enc (M:=M) (fun e he=>h e (List.mem_cons_of_mem _ he));show(match (Value.int .i64 n),(Value.bool b),flagsOf (encE intK boolK M)with
   | .int .i64 n,.bool b,some l=>bif decide (0<=n)then some ((n,b) :: l)else none
   |_,_,_=>none)=_
  rw[ih];simp[h0]
theorem getL_nd:∀{M:List (Int×Bool)},(M.map (·.1)).Nodup->∀{i:Nat} {e:Int×Bool},M[i]?=some e->getL M e.1=some e.2
 | [],_,i,e,h=>by simp at h
 |x :: M,hn,i,e,h=>by
  simp only[List.map_cons,List.nodup_cons]at hn
  match i with
  |0=>simp at h;subst h;simp[getL]
  |i+1=>
   have h':M[i]?=some e:=by simpa using h
   have hm:e.1∈M.map (·.1):=List.mem_map_of_mem (List.mem_of_getElem? h');simp only[getL];rw[if_neg (fun q:x.1=e.1=>hn.1 (by rw[q];exact hm))];exact getL_nd hn.2 h'
theorem RMap.least{S:Int->Prop}{M:List (Int×Bool)}{R:Int->Bool}(h:RMap S M R)(hs:∀x,S x->0<=x):(leastOf M=-1/\∀x,S x->R x=true)\/(0<=leastOf M/\S (leastOf M)/\R (leastOf M)=false/\∀x,S x->x<leastOf M->R x=true):=by
 have key:∀x,S x->∃(i:Nat) (b:Bool),M[i]?=some (x,b)/\R x=b:=fun x hx=>by
  obtain⟨b,hb⟩:=Option.isSome_iff_exists.1 ((h.keys x).2 hx);obtain⟨i,hi⟩:=List.getElem?_of_mem (getL_mem hb);refine⟨i,b,hi,?_⟩;rw[h.val,hb];cases b<;>simp
 have pos:∀e∈M,0<=e.1:=fun e he=>by
  obtain⟨i,hi⟩:=List.getElem?_of_mem he;exact hs _ ((h.keys _).1 (by rw[getL_nd h.nd hi];rfl))
 rcases leastOf_is M pos with ⟨e,h1⟩|⟨h0,⟨i,hi,h1⟩,h2⟩
 ·refine .inl ⟨e,fun x hx=>?_⟩
  obtain⟨i,b,hi,hb⟩:=key x hx;rw[hb];exact h1 i _ (List.getElem?_eq_some_iff.1 hi).1 hi
 ·have hg:=getL_nd h.nd h1
  refine .inr ⟨h0,(h.keys _).1 (by rw[hg];rfl),by rw[h.val,hg];simp,fun x hx hlt=>?_⟩;obtain⟨j,b,hj,hb⟩:=key x hx;cases b with
  |true=>exact hb
  |false=>
   have:=h2 j _ (List.getElem?_eq_some_iff.1 hj).1 hj rfl;simp only at this;omega
end Go.Proofs.Ytmkiclinllifiaa
namespace Go.Proofs.Ytmkiclinllifiaa
open Go.Sim
def eqF2(x y:F2):Bool:=decide (x.n=y.n) && decide (x.d=y.d)
theorem eqF2_iff{x y:F2}:eqF2 x y=true↔x=y:=by
 unfold eqF2;obtain⟨a,b⟩:=x;obtain⟨c,d⟩:=y;simp
theorem bas_of{l:List Vk}{n:Nat}{P:List F2}(hl:l.length=n)(hp:PermOn 0 n (l.map Vk.pr) P)(hs:SortedOn leF P 0 n)(hd:(l.map Vk.pr).Nodup)(ho:stOK l):Bas l P:=by
 have hlen:P.length=n:=by rw[hp.len,List.length_map,hl]
 have mem:∀x,x∈P↔x∈l.map Vk.pr:=fun x=>by
  have h1:(0<P.countP (fun y=>eqF2 y x))↔x∈P:=by
   rw[List.countP_pos_iff];exact⟨fun⟨a,ha,e⟩=>by rw[<-eqF2_iff.1 e];exact ha,fun h=>⟨x,h,eqF2_iff.2 rfl⟩⟩
  have h2:(0<(l.map Vk.pr).countP (fun y=>eqF2 y x))↔x∈l.map Vk.pr:=by
   rw[List.countP_pos_iff];exact⟨fun⟨a,ha,e⟩=>by rw[<-eqF2_iff.1 e];exact ha,fun h=>⟨x,h,eqF2_iff.2 rfl⟩⟩
  rw[<-h1,<-h2,hp.cnt]
 have okP':∀x∈P,okP x.n x.d:=fun x hx=>by
  obtain⟨v,hv,rfl⟩:=List.mem_map.1 ((mem x).1 hx);obtain⟨i,i0,i1,rfl⟩:=mem_gt hv;exact ho i i0 i1
 refine⟨fun i j i0 hij j1=>?_,fun x=>?_⟩
 ·have hle:=hs i j i0 hij (by omega)
  refine Rat.lt_of_le_of_ne hle (fun e=>?_);have h1:=gt_mem P i0 (show i<P.length by omega);have h2:=gt_mem P (show 0<=j by omega) j1;have he:=rq_ok (okP' _ h1) (okP' _ h2) e;have hc:P.countP (fun y=>eqF2 y (gt P i))<=1:=by
   rw[hp.cnt];have key:∀(L:List F2) (x:F2),L.Nodup->L.countP (fun y=>eqF2 y x)<=1:=by
    intro L x
    induction L with
    |nil=>intro _;simp
    |cons z L ih=>
     intro hn;obtain⟨n1,n2⟩:=List.nodup_cons.1 hn;rw[List.countP_cons];by_cases c:eqF2 z x=true
     ·rw[if_pos c]
      have:L.countP (fun y=>eqF2 y x)=0:=by
       rw[List.countP_eq_zero];intro y hy q;rw[eqF2_iff]at q c;rw[c,<-q]at n1;exact n1 hy
      omega
     ·rw[if_neg c]
      have:=ih n2;omega
   exact key _ _ hd
  have hc2:2<=P.countP (fun y=>eqF2 y (gt P i)):=by
   obtain⟨i',rfl⟩:∃i':Nat,i=i':=⟨i.toNat,by omega⟩;obtain⟨j',rfl⟩:∃j':Nat,j=j':=⟨j.toNat,by omega⟩;have hi':i'<P.length:=by omega
   have hj':j'<P.length:=by omega
   have gi:gt P (i':Int)=P[i']:=by unfold gt;simp[List.getElem?_eq_getElem hi']
   have gj:gt P (j':Int)=P[j']:=by unfold gt;simp[List.getElem?_eq_getElem hj']
   rw[gi];rw[gi,gj]at he;have m1:P[i']∈P.take j':=by
    rw[List.mem_iff_getElem];exact⟨i',by rw[List.length_take];omega,by rw[List.getElem_take]⟩
   have c1:0<(P.take j').countP (fun y=>eqF2 y P[i']):=List.countP_pos_iff.2 ⟨_,m1,eqF2_iff.2 rfl⟩;have c2:(P.drop j').countP (fun y=>eqF2 y P[i'])=(P.drop (j'+1)).countP (fun y=>eqF2 y P[i'])+1:=by
    rw[List.drop_eq_getElem_cons hj',List.countP_cons,if_pos (eqF2_iff.2 he.symm)]
   have c3:P.countP (fun y=>eqF2 y P[i'])=(P.take j').countP (fun y=>eqF2 y P[i'])+(P.drop j').countP (fun y=>eqF2 y P[i']):=by
    rw[<-List.countP_append,List.take_append_drop]
   omega
  omega
 ·rw[mem,List.mem_map]
  exact⟨fun⟨v,h1,h2⟩=>⟨v,h1,h2.symm⟩,fun⟨v,h1,h2⟩=>⟨v,h1,h2.symm⟩⟩
