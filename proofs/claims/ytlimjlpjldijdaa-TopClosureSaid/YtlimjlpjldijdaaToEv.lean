import Derived.Test.YtlimjlpjldijdaaToAc
import Derived.Test.YtlimjlpjldijdaaCyA
import Derived.Test.YtlimjlpjldijdaaSymD
import Derived.Test.YtlimjlpjldijdaaCyK
set_option linter.unusedSimpArgs false
set_option linter.unusedVariables false
namespace Go.Proofs.Ytlimjlpjldijdaa
open Go.Sim
set_option maxRecDepth 100000
structure Sk where
 k:Int
 st:Int
 fr:Int
 to:Int
 a:Int
 b:Int
 d:Int
 q:Int
instance:Inhabited Sk:=⟨⟨0,0,0,0,0,0,0,0⟩⟩
def Sk.cells(s:Sk):List Value:=[.int .u8 s.k,.int .i64 s.st,.int .i64 s.fr,.int .i64 s.to,.int .i64 s.a,.int .i64 s.b,.int .i64 s.d,.int .i64 s.q]
theorem sk_len(s:Sk):s.cells.length=8:=rfl
abbrev skV(s:Sk):Value:=.agg #[.int .u8 s.k,.int .i64 s.st,.int .i64 s.fr,.int .i64 s.to,.int .i64 s.a,.int .i64 s.b,.int .i64 s.d,.int .i64 s.q]
abbrev Ss(h:AHeap)(a:Option Addr)(n:Nat)(l:List Sk):Prop:=Rows Sk.cells 8 h a n l
theorem ss_at{h:AHeap}{a:Option Addr}{n:Nat}{l:List Sk}(p:Ss h a n l){i:Int}(h0:0<=i)(hi:i<n) :
  ∃b o k t f u x y z q,a=some ⟨b,o,none⟩/\b<h.next/\gt l i=⟨k,t,f,u,x,y,z,q⟩/\h.readG ⟨b,o+i.toNat*8,none⟩ 8=some [.int .u8 k,.int .i64 t,.int .i64 f,.int .i64 u,.int .i64 x,.int .i64 y,.int .i64 z,.int .i64 q]:=by
 obtain⟨b,o,h1,h2,h3⟩:=p.at h0 hi;exact⟨b,o,_,_,_,_,_,_,_,_,h1,h2,rfl,h3 0 8 (by omega) (by omega)⟩
def Sk.sky(s:Sk):Prop:=s.k=2/\s.st=1/\s.fr=0/\s.to=1/\s.a=0/\s.b=0/\s.d=0/\s.q=1
variable{F:Prims}{call head arith cmp scmp bnot bsame conv neg imax imin ofNat slen place inR nz geZ rd wr push next mkOK nat zeros sadd eqAgg cut slc sslc strAt part app cpy putAt fresh lowered bump wrote addN lt ne fpAll fpApp brk yn rng mget mput mnew bytes clr mrng ment:_}(hA:AP F ⟨call,head,arith,cmp,scmp,bnot,bsame,conv,neg,imax,imin,ofNat,slen,place,inR,nz,geZ,rd,wr,push,next,mkOK,nat,zeros,sadd,eqAgg,cut,slc,sslc,strAt,part,app,cpy,putAt,fresh,lowered,bump,wrote,addN,lt,ne,fpAll,fpApp,brk,yn,rng,mget,mput,mnew,bytes,clr,mrng,ment⟩)
include hA
theorem turn_ok{h:AHeap}(hlow:h.low<=h.next){a b d q:Int}{Q:Value->AHeap->Prop}(hQ:∀r e h',(okC a b d->q=1->e=0/\r=⟨neg .i64 b,a,d⟩)->Ext h h'->Q (.tuple #[ckV r,.int .i64 e]) h'):call 71 [.agg #[.int .i64 a,.int .i64 b,.int .i64 d],.int .i64 q] h Q:=by
 refine hA.bodyR Try.func71 r71_ok (hA.alike _ _ _ rfl) hlow (zc ?_);refine ccheck_ok hA hlow (fun e h1 ke x1=>⟨_,rfl,?_⟩);refine zc ?_;refine br (e≠0) (by rw[e_neq hA]) (fun c1=>?_) (fun c1=>?_)<;>refine zc ?_
 ·refine hQ ⟨0,0,0⟩ e h1 (fun k=>?_) x1
  rcases ke with ⟨z,_⟩|⟨_,z⟩
  ·exact absurd z c1
  ·exact absurd k z
 refine⟨nz_ok hA (by omega),?_⟩;have b1:-4<q.tmod 4/\q.tmod 4<4:=by
  have:=Int.natAbs_tmod q 4;have:=Nat.mod_lt q.natAbs (show(4:Int).natAbs>0 by decide);omega
 obtain⟨w,hw⟩:∃w,w=(q.tmod 4+4).tmod 4:=⟨_,rfl⟩;have b2:0<=w/\w<4:=by
  rw[hw,Int.tmod_eq_emod_of_nonneg (by omega)];omega
 have ew:arith .rem .i64 (arith .add .i64 (arith .rem .i64 q 4) 4) 4=w:=by rw[rem_tmod hA,rem_tmod hA,add64 hA (by omega) (by omega),hw]
 have e1:arith .add .i64 0 1=1:=add64 hA (by omega) (by omega);have e2:arith .add .i64 1 1=2:=add64 hA (by omega) (by omega);have e3:arith .add .i64 2 1=3:=add64 hA (by omega) (by omega);have hq1:q=1->w=1:=fun z=>by rw[hw,z];rfl
 refine zc ?_;refine⟨nz_ok hA (by omega),?_⟩;refine zc ?_;rw[ew];clear hw ew;have fin:∀(w':Int) (r:Ck),w=w'->(w'=1->r=⟨neg .i64 b,a,d⟩)->Q (.tuple #[ckV r,.int .i64 0]) h1:=fun w' r z1 z2=>hQ r 0 h1 (fun _ z=>⟨rfl,z2 (by rw[<-z1];exact hq1 z)⟩) x1
 rcases(by omega:w=0\/w=1\/w=2\/w=3)with rfl|rfl|rfl|rfl
 ·refine hA.roundR Try.func71 r71_ok (zc ?_)
  refine br False (by rw[e_lss hA];rfl) (fun q=>q.elim) (fun _=>?_)<;>refine zc ?_;exact fin 0 ⟨a,b,d⟩ rfl (fun z=>by omega)
 ·refine hA.roundR Try.func71 r71_ok (zc ?_)
  refine br True (by rw[e_lss hA];rfl) (fun _=>?_) (fun q=>absurd trivial q)<;>refine zc ?_;rw[e1];refine hA.roundR Try.func71 r71_ok (zc ?_);refine br False (by rw[e_lss hA];rfl) (fun q=>q.elim) (fun _=>?_)<;>refine zc ?_;exact fin 1 ⟨neg .i64 b,a,d⟩ rfl (fun _=>rfl)
 ·refine hA.roundR Try.func71 r71_ok (zc ?_)
  refine br True (by rw[e_lss hA];rfl) (fun _=>?_) (fun q=>absurd trivial q)<;>refine zc ?_;rw[e1];refine hA.roundR Try.func71 r71_ok (zc ?_);refine br True (by rw[e_lss hA];rfl) (fun _=>?_) (fun q=>absurd trivial q)<;>refine zc ?_;rw[e2];refine hA.roundR Try.func71 r71_ok (zc ?_);refine br False (by rw[e_lss hA];rfl) (fun q=>q.elim) (fun _=>?_)<;>refine zc ?_;exact fin 2 ⟨neg .i64 a,neg .i64 b,d⟩ rfl (fun z=>by omega)
 ·refine hA.roundR Try.func71 r71_ok (zc ?_)
  refine br True (by rw[e_lss hA];rfl) (fun _=>?_) (fun q=>absurd trivial q)<;>refine zc ?_;rw[e1];refine hA.roundR Try.func71 r71_ok (zc ?_);refine br True (by rw[e_lss hA];rfl) (fun _=>?_) (fun q=>absurd trivial q)<;>refine zc ?_;rw[e2];refine hA.roundR Try.func71 r71_ok (zc ?_);refine br True (by rw[e_lss hA];rfl) (fun _=>?_) (fun q=>absurd trivial q)<;>refine zc ?_;rw[e3];refine hA.roundR Try.func71 r71_ok (zc ?_);refine br False (by rw[e_lss hA];rfl) (fun q=>q.elim) (fun _=>?_)<;>refine zc ?_;exact fin 3 ⟨neg .i64 (neg .i64 b),neg .i64 a,d⟩ rfl (fun z=>by omega)
theorem svalid_ok{h:AHeap}(hlow:h.low<=h.next)(s:Sk){Q:Value->AHeap->Prop}(hQ:∀(r:Bool) h',(r=true->0<=s.st/\s.st<8)->(s.sky->r=true)->Ext h h'->Q (.bool r) h'):call 60 [skV s] h Q:=by
 obtain⟨k,t,f,u,a,b,d,q⟩:=s;unfold Sk.sky at hQ;simp only at hQ;refine hA.bodyR Try.func60 r60_ok (hA.alike _ _ _ rfl) hlow (zc ?_);refine br (t<0) (by rw[e_lss hA]) (fun c1=>?_) (fun c1=>?_)<;>refine zc ?_
 ·exact hQ false h (fun z=>by cases z) (fun z=>by omega) (.refl h)
 refine br (8<=t) (by rw[e_geq hA]) (fun c2=>?_) (fun c2=>?_)<;>refine zc ?_
 ·exact hQ false h (fun z=>by cases z) (fun z=>by omega) (.refl h)
 refine br (f<0) (by rw[e_lss hA]) (fun c3=>?_) (fun c3=>?_)<;>refine zc ?_
 ·exact hQ false h (fun z=>by cases z) (fun z=>by omega) (.refl h)
 refine br (u<f) (by rw[e_lss hA]) (fun c4=>?_) (fun c4=>?_)<;>refine zc ?_
 ·exact hQ false h (fun z=>by cases z) (fun z=>by omega) (.refl h)
 refine br (32<u) (by rw[e_gtr hA]) (fun c5=>?_) (fun c5=>?_)<;>refine zc ?_
 ·exact hQ false h (fun z=>by cases z) (fun z=>by omega) (.refl h)
 refine br (k=1) (by rw[e_eql hA]) (fun c6=>?_) (fun c6=>?_)<;>refine zc ?_
 ·refine br (q=0) (by rw[e_eql hA]) (fun c7=>?_) (fun c7=>?_)<;>refine zc ?_
  rotate_left
  ·exact hQ false h (fun z=>by cases z) (fun z=>by omega) (.refl h)
  refine ccheck_ok hA hlow (fun e h1 ke x1=>⟨_,rfl,?_⟩);refine zc ?_;refine br (e=0) (by rw[e_eql hA]) (fun c8=>?_) (fun c8=>?_)<;>refine zc ?_
  rotate_left
  ·exact hQ false h1 (fun z=>by cases z) (fun z=>by omega) x1
  refine br (a≠0) (by rw[e_neq hA]) (fun c9=>?_) (fun c9=>?_)<;>refine zc ?_
  ·exact hQ true h1 (fun _=>by omega) (fun z=>by omega) x1
  ·exact hQ _ h1 (fun _=>by omega) (fun z=>by omega) x1
 refine br (k=2) (by rw[e_eql hA]) (fun c7=>?_) (fun c7=>?_)<;>refine zc ?_
 ·refine br True (by rw[e_eql hA];simp[c7]) (fun _=>?_) (fun q=>absurd trivial q)<;>refine zc ?_
  obtain⟨r,hr1,hr2⟩:=eqC a b d 0 0 0;rw[e_eqAgg hA];refine⟨guardC,r,hr1,?_⟩;refine zc ?_;refine br (r=true) (by simp) (fun c8=>?_) (fun c8=>?_)<;>refine zc ?_
  rotate_left
  ·exact hQ false h (fun z=>by cases z) (fun z=>absurd (hr2.2 (by omega)) c8) (.refl h)
  refine br (0<=q) (by rw[e_geq hA]) (fun ca=>?_) (fun ca=>?_)<;>refine zc ?_
  rotate_left
  ·exact hQ false h (fun z=>by cases z) (fun z=>by omega) (.refl h)
  exact hQ _ h (fun _=>by omega) (fun z=>by rw[e_leq hA];simp;omega) (.refl h)
 ·refine br (k=3) (by rw[e_eql hA]) (fun c9=>?_) (fun c9=>?_)<;>refine zc ?_
  ·obtain⟨r,hr1,hr2⟩:=eqC a b d 0 0 0
   rw[e_eqAgg hA];refine⟨guardC,r,hr1,?_⟩;refine zc ?_;refine br (r=true) (by simp) (fun c8=>?_) (fun c8=>?_)<;>refine zc ?_
   rotate_left
   ·exact hQ false h (fun z=>by cases z) (fun z=>absurd (hr2.2 (by omega)) c8) (.refl h)
   refine br (0<=q) (by rw[e_geq hA]) (fun ca=>?_) (fun ca=>?_)<;>refine zc ?_
   rotate_left
   ·exact hQ false h (fun z=>by cases z) (fun z=>by omega) (.refl h)
   exact hQ _ h (fun _=>by omega) (fun z=>by rw[e_leq hA];simp;omega) (.refl h)
  ·exact hQ false h (fun z=>by cases z) (fun z=>by omega) (.refl h)
theorem number_ok{h:AHeap}(hlow:h.low<=h.next)(s:Sk){t:Int}{Q:Value->AHeap->Prop}(hQ:∀r e h',(s.sky->t=0->e=0/\r=⟨0,1,1⟩)->Ext h h'->Q (.tuple #[ckV r,.int .i64 e]) h'):call 61 [skV s,.int .i64 t] h Q:=by
 obtain⟨k,st,f,u,a,b,d,q⟩:=s;unfold Sk.sky at hQ;simp only at hQ;refine hA.bodyR Try.func61 r61_ok (hA.alike _ _ _ rfl) hlow (zc ?_);refine br (t<f) (by rw[e_lss hA]) (fun c1=>?_) (fun c1=>?_)<;>refine zc ?_
 ·exact hQ ⟨1,0,1⟩ 0 h (fun z=>by omega) (.refl h)
 refine br (u<=t) (by rw[e_geq hA]) (fun c2=>?_) (fun c2=>?_)<;>refine zc ?_
 ·exact hQ ⟨1,0,1⟩ 0 h (fun z=>by omega) (.refl h)
 refine br (k=1) (by rw[e_eql hA]) (fun c3=>?_) (fun c3=>?_)<;>refine zc ?_
 ·exact hQ ⟨a,b,d⟩ 0 h (fun z=>by omega) (.refl h)
 refine br (k=2) (by rw[e_eql hA]) (fun c4=>?_) (fun c4=>?_)<;>refine zc ?_
 ·refine turn_ok hA hlow (fun r e h1 k1 x1=>⟨_,_,_,_,rfl,?_⟩)
  refine zc ?_;refine hQ r e h1 (fun z _=>?_) x1;obtain⟨z1,z2⟩:=k1 ((okC_iff _ _ _).2 (by decide)) (by omega);refine⟨z1,?_⟩;rw[z2,e_neg hA,wrap64 (by omega) (by omega)];rfl
 ·refine turn_ok hA hlow (fun r e h1 k1 x1=>⟨_,_,_,_,rfl,?_⟩)
  refine zc ?_;exact hQ r e h1 (fun z _=>absurd z.1 c4) x1
end Go.Proofs.Ytlimjlpjldijdaa
namespace Go.Proofs.Ytlimjlpjldijdaa
open Go.Sim
set_option maxRecDepth 100000
theorem cellsI:Try.prog.cellsOf 3=1:=by kernel_rfl
theorem cellsL:Try.prog.cellsOf 2=1:=by kernel_rfl
theorem cellsC:Try.prog.cellsOf 30=3:=by kernel_rfl
theorem cellsV:Try.prog.cellsOf 43=6:=by kernel_rfl
theorem len3{l:List Value}(h:l.length=3):∃a b c,l=[a,b,c]:=by
 match l,h with
 | [a,b,c],_=>exact⟨a,b,c,rfl⟩
theorem len6{l:List Value}(h:l.length=6):∃a b c d e f,l=[a,b,c,d,e,f]:=by
 match l,h with
 | [a,b,c,d,e,f],_=>exact⟨a,b,c,d,e,f,rfl⟩
theorem int_dec{w:World}{base d:Nat}{l:List Value}(h:TS Try.prog w base d 3 l):∃x,l=[.int .i64 x]:=by
 cases d with
 |zero=>exact h.elim
 |succ d=>
  obtain⟨x,e1,w1⟩:=ts_int Try.underlying3 h;exact⟨x,e1⟩
theorem cx_dec{w:World}{base d:Nat}{l:List Value}(h:TS Try.prog w base d 30 l):∃x y z,l=[.int .i64 x,.int .i64 y,.int .i64 z]:=by
 cases d with
 |zero=>exact h.elim
 |succ d=>
  obtain⟨h1,h2⟩:=ts_struct Try.underlying30 h;rw[cellsC]at h1;obtain⟨a,b,c,rfl⟩:=len3 h1;simp only[List.forall_mem_cons,List.not_mem_nil,false_imp_iff,implies_true,and_true,cellsL,List.drop,List.take]at h2;obtain⟨g0,g1,g2⟩:=h2;cases d with
  |zero=>exact g0.elim
  |succ d=>
   obtain⟨x,e1,w1⟩:=ts_int Try.underlying2 g0;obtain⟨y,e2,w2⟩:=ts_int Try.underlying2 g1;obtain⟨z,e3,w3⟩:=ts_int Try.underlying2 g2;simp only[List.cons.injEq,and_true]at e1 e2 e3;subst e1 e2 e3;exact⟨x,y,z,rfl⟩
theorem vis_dec{w:World}{base d:Nat}{l:List Value}(h:TS Try.prog w base d 43 l):∃k:Vk,l.map (absV w)=k.cells/\True:=by
 cases d with
 |zero=>exact h.elim
 |succ d=>
  obtain⟨h1,h2⟩:=ts_struct Try.underlying43 h;rw[cellsV]at h1;obtain⟨a,b,c,e,f,g,rfl⟩:=len6 h1;simp only[List.forall_mem_cons,List.not_mem_nil,false_imp_iff,implies_true,and_true,cellsC,cellsI,List.drop,List.take]at h2;obtain⟨g0,g1,g2,g3⟩:=h2;obtain⟨x,e1⟩:=int_dec g0;obtain⟨y,e2⟩:=int_dec g1;obtain⟨z,u,v,e3⟩:=cx_dec g2;obtain⟨t,e4⟩:=int_dec g3;simp only[List.cons.injEq,and_true]at e1 e2 e3 e4;obtain rfl:=e1;obtain rfl:=e2;obtain⟨rfl,rfl,rfl⟩:=e3;obtain rfl:=e4;exact⟨⟨x,y,z,u,v,t⟩,rfl,trivial⟩
theorem vis_in{w:World}{h:AHeap}(hn:h.next=w.heap.size)(hm:∀b,b<w.heap.size->h.m.get b=absB w b){H:Type}{enc:TypeId×Value->H}{base fuel b0:Nat}{held:Bool}{r:Go.Reach}{v:Value}{x:DataW H×List MemPlace}
  (hval:Value.okWide Try.prog w r b0 22 v) (hf:DataW.trod enc Try.prog w base (fun _=>true) held fuel 22 v.cells.toList=some x) :
  ∃a n c l,v=.slice a n c/\repC w v=true/\n<=c/\c<=maxLen/\Vs h a n l:=by
 obtain⟨a,n,c,d,rfl,hr,hrep,rfl,hts⟩:=value_slice Try.underlying22 hval hf;obtain⟨xs,k1,k2,k3,k4,k5⟩:=slice_in hn hm Try.underlying22 hts hrep Vk.cells cellsV (by omega) (fun _=>rfl) (fun _=>True) (fun l hl=>vis_dec hl);exact⟨a,n,c,xs,rfl,hr,k2,k3,⟨k4,fun _=>rfl,by omega⟩⟩
end Go.Proofs.Ytlimjlpjldijdaa
namespace Go.Proofs.Ytlimjlpjldijdaa
open Go.Sim
set_option maxRecDepth 100000
theorem ints_in{w:World}{h:AHeap}(hn:h.next=w.heap.size)(hm:∀b,b<w.heap.size->h.m.get b=absB w b){H:Type}{enc:TypeId×Value->H}{base fuel b0:Nat}{held:Bool}{r:Go.Reach}{v:Value}{x:DataW H×List MemPlace}
  (hval:Value.okWide Try.prog w r b0 25 v) (hf:DataW.trod enc Try.prog w base (fun _=>true) held fuel 25 v.cells.toList=some x) :
  ∃a n c l,v=.slice a n c/\repC w v=true/\n<=c/\c<=maxLen/\Rows iC 1 h a n l:=by
 obtain⟨a,n,c,d,rfl,hr,hrep,rfl,hts⟩:=value_slice Try.underlying25 hval hf;obtain⟨xs,k1,k2,k3,k4,k5⟩:=slice_in hn hm Try.underlying25 hts hrep iC cellsI (by omega) (fun _=>rfl) (fun _=>True) (fun l hl=>by
  obtain⟨x,rfl⟩:=int_dec hl;exact⟨x,rfl,trivial⟩)
 exact⟨a,n,c,xs,rfl,hr,k2,k3,⟨k4,fun _=>rfl,by omega⟩⟩
end Go.Proofs.Ytlimjlpjldijdaa
namespace Go.Proofs.Ytlimjlpjldijdaa
open Go.Sim
set_option maxRecDepth 100000
theorem cellsU:Try.prog.cellsOf 5=1:=by kernel_rfl
theorem cellsS:Try.prog.cellsOf 32=8:=by kernel_rfl
theorem len8{l:List Value}(h:l.length=8):∃a b c d e f g i,l=[a,b,c,d,e,f,g,i]:=by
 match l,h with
 | [a,b,c,d,e,f,g,i],_=>exact⟨a,b,c,d,e,f,g,i,rfl⟩
theorem spoil_dec{w:World}{base d:Nat}{l:List Value}(h:TS Try.prog w base d 32 l):∃k:Sk,l.map (absV w)=k.cells/\True:=by
 cases d with
 |zero=>exact h.elim
 |succ d=>
  obtain⟨h1,h2⟩:=ts_struct Try.underlying32 h;rw[cellsS]at h1;obtain⟨a,b,c,e,f,g,i,j,rfl⟩:=len8 h1;simp only[List.forall_mem_cons,List.not_mem_nil,false_imp_iff,implies_true,and_true,cellsC,cellsI,cellsU,List.drop,List.take]at h2;obtain⟨g0,g1,g2,g3,g4,g5⟩:=h2;obtain⟨t,e1⟩:=int_dec g1;obtain⟨u,e2⟩:=int_dec g2;obtain⟨v,e3⟩:=int_dec g3;obtain⟨x,y,z,e4⟩:=cx_dec g4;obtain⟨q,e5⟩:=int_dec g5;cases d with
  |zero=>exact g0.elim
  |succ d=>
   obtain⟨k,e0,w0⟩:=ts_int Try.underlying5 g0;simp only[List.cons.injEq,and_true]at e0 e1 e2 e3 e4 e5;obtain rfl:=e0;obtain rfl:=e1;obtain rfl:=e2;obtain rfl:=e3;obtain⟨rfl,rfl,rfl⟩:=e4;obtain rfl:=e5;exact⟨⟨k,t,u,v,x,y,z,q⟩,rfl,trivial⟩
theorem spoils_in{w:World}{h:AHeap}(hn:h.next=w.heap.size)(hm:∀b,b<w.heap.size->h.m.get b=absB w b){H:Type}{enc:TypeId×Value->H}{base fuel b0:Nat}{held:Bool}{r:Go.Reach}{v:Value}{x:DataW H×List MemPlace}
  (hval:Value.okWide Try.prog w r b0 24 v) (hf:DataW.trod enc Try.prog w base (fun _=>true) held fuel 24 v.cells.toList=some x) :
  ∃a n c l,v=.slice a n c/\repC w v=true/\n<=c/\c<=maxLen/\Ss h a n l:=by
 obtain⟨a,n,c,d,rfl,hr,hrep,rfl,hts⟩:=value_slice Try.underlying24 hval hf;obtain⟨xs,k1,k2,k3,k4,k5⟩:=slice_in hn hm Try.underlying24 hts hrep Sk.cells cellsS (by omega) (fun _=>rfl) (fun _=>True) (fun l hl=>spoil_dec hl);exact⟨a,n,c,xs,rfl,hr,k2,k3,⟨k4,fun _=>rfl,by omega⟩⟩
theorem cxs_in{w:World}{h:AHeap}(hn:h.next=w.heap.size)(hm:∀b,b<w.heap.size->h.m.get b=absB w b){H:Type}{enc:TypeId×Value->H}{base fuel b0:Nat}{held:Bool}{r:Go.Reach}{v:Value}{x:DataW H×List MemPlace}
  (hval:Value.okWide Try.prog w r b0 23 v) (hf:DataW.trod enc Try.prog w base (fun _=>true) held fuel 23 v.cells.toList=some x) :
  ∃a n c l,v=.slice a n c/\repC w v=true/\n<=c/\c<=maxLen/\Cs h a n l:=by
 obtain⟨a,n,c,d,rfl,hr,hrep,rfl,hts⟩:=value_slice Try.underlying23 hval hf;obtain⟨xs,k1,k2,k3,k4,k5⟩:=slice_in hn hm Try.underlying23 hts hrep Ck.cells cellsC (by omega) (fun _=>rfl) (fun _=>True) (fun l hl=>by
  obtain⟨x,y,z,rfl⟩:=cx_dec hl;exact⟨⟨x,y,z⟩,rfl,trivial⟩)
 exact⟨a,n,c,xs,rfl,hr,k2,k3,⟨k4,fun _=>rfl,by omega⟩⟩
end Go.Proofs.Ytlimjlpjldijdaa
namespace Go.Proofs.Ytlimjlpjldijdaa
open Go.Sim
set_option maxRecDepth 100000
variable{F:Prims}{call head arith cmp scmp bnot bsame conv neg imax imin ofNat slen place inR nz geZ rd wr push next mkOK nat zeros sadd eqAgg cut slc sslc strAt part app cpy putAt fresh lowered bump wrote addN lt ne fpAll fpApp brk yn rng mget mput mnew bytes clr mrng ment:_}(hA:AP F ⟨call,head,arith,cmp,scmp,bnot,bsame,conv,neg,imax,imin,ofNat,slen,place,inR,nz,geZ,rd,wr,push,next,mkOK,nat,zeros,sadd,eqAgg,cut,slc,sslc,strAt,part,app,cpy,putAt,fresh,lowered,bump,wrote,addN,lt,ne,fpAll,fpApp,brk,yn,rng,mget,mput,mnew,bytes,clr,mrng,ment⟩)
include hA
theorem event_ok{h:AHeap}(hlow:h.low<=h.next)(s:Sk){Q:Value->AHeap->Prop}(hQ:∀(r:Bool) h',Ext h h'->Q (.bool r) h'):call 6 [skV s] h Q:=by
 obtain⟨k,t,f,u,a,b,d,q⟩:=s;refine hA.bodyR Try.func6 r6_ok (hA.alike _ _ _ rfl) hlow (zc ?_);refine br (t<0) (by rw[e_lss hA]) (fun c1=>?_) (fun c1=>?_)<;>refine zc ?_
 ·exact hQ _ h (.refl h)
 refine br (8<=t) (by rw[e_geq hA]) (fun c2=>?_) (fun c2=>?_)<;>refine zc ?_
 ·exact hQ _ h (.refl h)
 refine br (f<0) (by rw[e_lss hA]) (fun c3=>?_) (fun c3=>?_)<;>refine zc ?_
 ·exact hQ _ h (.refl h)
 refine br (u<f) (by rw[e_lss hA]) (fun c4=>?_) (fun c4=>?_)<;>refine zc ?_
 ·exact hQ _ h (.refl h)
 refine br (32<u) (by rw[e_gtr hA]) (fun c5=>?_) (fun c5=>?_)<;>refine zc ?_
 ·exact hQ _ h (.refl h)
 refine br (k=1) (by rw[e_eql hA]) (fun c6=>?_) (fun c6=>?_)<;>refine zc ?_
 ·refine br (q=0) (by rw[e_eql hA]) (fun c7=>?_) (fun c7=>?_)<;>refine zc ?_
  rotate_left
  ·exact hQ _ h (.refl h)
  refine rccheck_ok hA hlow (fun e h1 ke x1=>⟨_,rfl,?_⟩);refine zc ?_;refine br (e=0) (by rw[e_eql hA]) (fun c8=>?_) (fun c8=>?_)<;>refine zc ?_
  rotate_left
  ·exact hQ _ h1 x1
  refine rzero_ok hA (x1.lowOK hlow) (fun r kr=>⟨_,rfl,?_⟩);refine zc ?_;exact hQ _ h1 x1
 refine br (k=2) (by rw[e_eql hA]) (fun c7=>?_) (fun c7=>?_)<;>refine zc ?_
 ·refine br True (by rw[e_eql hA];simp[c7]) (fun _=>?_) (fun q=>absurd trivial q)<;>refine zc ?_
  obtain⟨r,hr1,hr2⟩:=eqC a b d 0 0 0;rw[e_eqAgg hA];refine⟨guardC,r,hr1,?_⟩;refine zc ?_;refine br (r=true) (by simp) (fun c8=>?_) (fun c8=>?_)<;>refine zc ?_
  rotate_left
  ·exact hQ _ h (.refl h)
  refine br (0<=q) (by rw[e_geq hA]) (fun ca=>?_) (fun ca=>?_)<;>refine zc ?_
  rotate_left
  ·exact hQ _ h (.refl h)
  exact hQ _ h (.refl h)
 ·refine br (k=3) (by rw[e_eql hA]) (fun c9=>?_) (fun c9=>?_)<;>refine zc ?_
  ·obtain⟨r,hr1,hr2⟩:=eqC a b d 0 0 0
   rw[e_eqAgg hA];refine⟨guardC,r,hr1,?_⟩;refine zc ?_;refine br (r=true) (by simp) (fun c8=>?_) (fun c8=>?_)<;>refine zc ?_
   rotate_left
   ·exact hQ _ h (.refl h)
   refine br (0<=q) (by rw[e_geq hA]) (fun ca=>?_) (fun ca=>?_)<;>refine zc ?_
   rotate_left
   ·exact hQ _ h (.refl h)
   exact hQ _ h (.refl h)
  ·exact hQ _ h (.refl h)
theorem sb_loop{h0:AHeap}(hlow0:h0.low<=h0.next){a:Option Addr}{n c:Nat}{l:List Vk}(hl:Vs h0 a n l)(hn:n<=1000){N:Int}(hN:N=n){Q:Exit->SS->Prop}(hQ:∀h',Ext h0 h'->Q (.exit 0) ⟨[],0,[],h'⟩) :
  ∀(m:Nat) (i:Int) (h:AHeap),(n-i).toNat<=m->0<=i->i<=n->Ext h0 h->
   head 59 4 0 ⟨[(1,.slice a n c),(12,.slice a n c),(13,.int .i64 N),(14,.int .i64 i)],0,[],h⟩ Q:=by
 refine upTo (fun m ih=>?_);intro i h hm i0 i1 he;by_cases ci:i<n
 rotate_left
 ·refine hA.roundR Try.func59 r59_ok (zc ?_)
  refine br (i<N) (by rw[e_lss hA]) (fun c1=>by omega) (fun c1=>?_)<;>refine zc ?_;exact hQ h he
 obtain⟨m,rfl⟩:∃k,m=k+1:=⟨m-1,by omega⟩
 replace ih:=ih m rfl
 obtain⟨h9,hh9⟩:∃z,z=bump h 18:=⟨_,rfl⟩;have e9:Ext h h9:=by rw[hh9];exact ext_bump hA _ _
 obtain⟨bb,o,x,y,re,im,d,w,rfl,hbb,hgt,r1,_⟩:=vs_at (hl.ext he) (i:=i) i0 ci;have q1:=rd_ok hA r1;obtain⟨_,_,_,_,_,_,_,_,ez,_,hgt',_,f⟩:=vs_at (hl.ext (he.trans e9)) (i:=i) i0 ci;cases ez;rw[hgt]at hgt' f;cases hgt';have f0:rd h9 bb (addN (place o i 6) 0) 1 [.int .i64 x]:=rd_fld hA (f 0 1 (by omega) (by omega));have f1:rd h9 bb (addN (place o i 6) 1) 1 [.int .i64 y]:=rd_fld hA (f 1 1 (by omega) (by omega));have e2:arith .add .i64 i 1=i+1:=add64 hA (by omega) (by omega);refine hA.roundR Try.func59 r59_ok (zc ?_);refine br (i<N) (by rw[e_lss hA]) (fun c1=>?_) (fun c1=>by omega)<;>refine zc ?_;refine zq ?_;refine⟨_,_,_,_,_,_,q1,?_⟩;refine zq ?_;rw[<-hh9];refine⟨x,f0,?_⟩;refine zq ?_;refine br (x≠x) (by rw[e_neq hA]) (fun q=>absurd rfl q) (fun _=>?_)<;>refine zc ?_;refine zq ?_;refine br (y≠y) (by rw[e_neq hA]) (fun q=>absurd rfl q) (fun _=>?_)<;>refine zc ?_;rw[e2];exact ih (i+1) h9 (by omega) (by omega) (by omega) (he.trans e9)
theorem sb_ok{h:AHeap}(hlow:h.low<=h.next){a:Option Addr}{n c:Nat}{l:List Vk}(hl:Vs h a n l)(hn:n<=1000){Q:Value->AHeap->Prop}(hQ:∀h',Ext h h'->Q (.bool true) h'):call 59 [.slice a n c,.slice a n c] h Q:=by
 refine hA.bodyR Try.func59 r59_ok (hA.alike _ _ _ rfl) hlow (zc ?_);refine br ((n:Int)≠n) (by rw[e_neq hA,e_ofNat hA]) (fun q=>absurd rfl q) (fun _=>?_)<;>refine zc ?_;refine sb_loop hA hlow hl hn (e_ofNat hA n) (fun h1 x1=>?_) n 0 h (by omega) (by omega) (by omega) (.refl h);refine zc ?_;exact hQ h1 x1
theorem cocheck_ok{h:AHeap}(hlow:h.low<=h.next){a:Option Addr}{n c:Nat}{l:List Vk}(hl:Vs h a n l)(ke:CkR l 0){sb:Nat}(hs:Rows Hd.cells 1 h (some ⟨sb,0,none⟩) 1 [⟨a,n,c⟩]){Q:Value->AHeap->Prop}(hQ:∀h',Ext h h'->Q (.int .i64 0) h'):call 48 [.slice (some ⟨sb,0,none⟩) 1 1] h Q:=by
 have hlen:=hl.len;have hn:n<=1000:=by have:=ke.ok0.1;omega
 have e1:arith .add .i64 0 1=1:=add64 hA (by omega) (by omega);have d1:∀{h'},Ext h h'->rd h' sb (place 0 0 1) 1 [.slice a n c]:=fun {h'} x=>by
  obtain⟨_,_,e,_,w⟩:=(hs.ext x).at (i:=0) (by omega) (by omega);cases e;exact rd_ok hA (w 0 1 (by omega) (by omega))
 refine hA.bodyR Try.func48 r48_ok (hA.alike _ _ _ rfl) hlow (zc ?_);refine br False (by rw[e_gtr hA,e_ofNat hA];rfl) (fun q=>q.elim) (fun _=>?_)<;>refine zc ?_;refine hA.roundR Try.func48 r48_ok (zc ?_);refine br True (by rw[e_lss hA,e_ofNat hA];rfl) (fun _=>?_) (fun q=>absurd trivial q)<;>refine zc ?_;have w0:=d1 (.refl h);refine zq ?_;refine clcheck_ok hA hlow hl hn (fun e h1 ke' x1=>⟨_,rfl,?_⟩);obtain rfl:=ke'.uniq ke;refine zc ?_;refine br False (by rw[e_neq hA];rfl) (fun q=>q.elim) (fun _=>?_)<;>refine zc ?_;rw[e1];refine hA.roundR Try.func48 r48_ok (zc ?_);refine br False (by rw[e_lss hA,e_ofNat hA];rfl) (fun q=>q.elim) (fun _=>?_)<;>refine zc ?_;refine hA.roundR Try.func48 r48_ok (zc ?_);refine br True (by rw[e_lss hA,e_ofNat hA];rfl) (fun _=>?_) (fun q=>absurd trivial q)<;>refine zc ?_;have w1:=d1 x1;refine zq ?_;refine sb_ok hA (x1.lowOK hlow) (hl.ext x1) hn (fun h2 x2=>⟨_,rfl,?_⟩);refine zc ?_;refine br False (by rw[e_bnot hA];rfl) (fun q=>q.elim) (fun _=>?_)<;>refine zc ?_;rw[e1];refine hA.roundR Try.func48 r48_ok (zc ?_);refine br False (by rw[e_lss hA,e_ofNat hA];rfl) (fun q=>q.elim) (fun _=>?_)<;>refine zc ?_;exact hQ h2 (x1.trans x2)
