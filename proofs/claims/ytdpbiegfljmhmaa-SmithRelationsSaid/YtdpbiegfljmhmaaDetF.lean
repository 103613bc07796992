import Derived.Test.YtdpbiegfljmhmaaDvA
import Derived.KernelRfl
set_option linter.unusedSimpArgs false
set_option linter.unusedVariables false
namespace Go.Proofs.Ytdpbiegfljmhmaa
open Go.Sim
set_option maxRecDepth 100000
variable{F:Prims}{call head arith cmp scmp bnot bsame conv neg imax imin ofNat slen place inR nz geZ rd wr push next mkOK nat zeros sadd eqAgg cut slc sslc strAt part app cpy putAt fresh lowered bump wrote addN lt ne fpAll fpApp brk yn rng mget mput mnew bytes clr:_}(hA:AP F ⟨call,head,arith,cmp,scmp,bnot,bsame,conv,neg,imax,imin,ofNat,slen,place,inR,nz,geZ,rd,wr,push,next,mkOK,nat,zeros,sadd,eqAgg,cut,slc,sslc,strAt,part,app,cpy,putAt,fresh,lowered,bump,wrote,addN,lt,ne,fpAll,fpApp,brk,yn,rng,mget,mput,mnew,bytes,clr⟩)
include hA
theorem sq_size{h0 h:AHeap}{b s:Nat}{M:Nat->Nat->Int}(t:Sq h0 h b s M){S:Int}(eS:S=s):rd h b (addN 0 0) 1 [.int .i64 S]:=rd_fld0 hA (by rw[eS];exact t.size)
theorem sq_el{h0 h:AHeap}{b s:Nat}{M:Nat->Nat->Int}(t:Sq h0 h b s M){i j:Nat}(hi:i<4)(hj:j<4){I J v:Int}(eI:I=i)(eJ:J=j)(ev:v=M i j):rd h b (place (place (addN 0 1) I 4) J 1) 1 [.int .i64 v]:=by
 rw[e_rd hA,e_place hA,e_place hA,e_addN hA,eI,eJ,ev];exact t.el hi hj
theorem sq_row{h0 h:AHeap}{b s:Nat}{M:Nat->Nat->Int}(t:Sq h0 h b s M){i:Nat}(hi:i<4){I:Int}(eI:I=i):rd h b (place (addN 0 1) I 4) 4 [.int .i64 (M i 0),.int .i64 (M i 1),.int .i64 (M i 2),.int .i64 (M i 3)]:=by
 rw[e_rd hA,e_place hA,e_addN hA,eI];exact t.row hi
theorem sq_set{h0 h:AHeap}{b s:Nat}{M:Nat->Nat->Int}(t:Sq h0 h b s M){i j:Nat}(hi:i<4)(hj:j<4){I J v:Int}(eI:I=i)(eJ:J=j):∃h',wr h b (place (place (addN 0 1) I 4) J 1) [.int .i64 v] h'/\Sq h0 h' b s (updV M i j v)/\Wrote h h' b:=by
 obtain⟨h',w1,w2,w3⟩:=t.set hi hj v;refine⟨h',?_,w2,w3⟩;rw[e_wr hA,e_place hA,e_place hA,e_addN hA,eI,eJ];exact w1
theorem sq_setRow{h0 h:AHeap}{b s:Nat}{M:Nat->Nat->Int}(t:Sq h0 h b s M){i:Nat}(hi:i<4){I:Int}(eI:I=i)(w:Nat->Int){a0 a1 a2 a3:Int}(e0:a0=w 0)(e1:a1=w 1)(e2:a2=w 2)(e3:a3=w 3):∃h',wr h b (place (addN 0 1) I 4) [.int .i64 a0,.int .i64 a1,.int .i64 a2,.int .i64 a3] h'/\Sq h0 h' b s (putM M i w)/\Wrote h h' b:=by
 obtain⟨h',w1,w2,w3⟩:=t.setRow hi w;refine⟨h',?_,w2,w3⟩;rw[e_wr hA,e_place hA,e_addN hA,eI,e0,e1,e2,e3];exact w1
theorem find_in{h0:AHeap}{b s k i:Nat}{M:Nat->Nat->Int}(hs:s<=4)(hi:i<s){K I S:Int}(eK:K=k)(eI:I=i)(eS:S=s){c0 c1:Int}{Q:Exit->SS->Prop}
  (hyes:∀(j:Nat) (J:Int) (h':AHeap),k<=j->j<s->J=j->M i j≠0->Sq h0 h' b s M->Q .ret ⟨[(5,.bool true),(37,.agg #[.int .i64 I,.int .i64 J]),(36,.int .i64 J),(35,.int .i64 I),(4,.pointer (some ⟨0,0,some 0⟩)),(6,.int .i64 I),(7,.int .i64 J)],1,[(0,[.int .i64 I,.int .i64 J]),(0,[.int .i64 c0,.int .i64 c1])],h'⟩)
  (hno:∀(h':AHeap),(∀j,k<=j->j<s->M i j=0)->Sq h0 h' b s M->Q (.exit 2) ⟨[(0,.pointer (some ⟨b,0,none⟩)),(1,.int .i64 K),(4,.pointer (some ⟨0,0,some 0⟩)),(6,.int .i64 I)],1,[(0,[.int .i64 c0,.int .i64 c1])],h'⟩) :
  ∀(d j:Nat) (J:Int) (h:AHeap),s-j<=d->k<=j->j<=s->J=j->(∀x,k<=x->x<j->M i x=0)->Sq h0 h b s M->
   head 97 5 1 ⟨[(0,.pointer (some ⟨b,0,none⟩)),(1,.int .i64 K),(4,.pointer (some ⟨0,0,some 0⟩)),(6,.int .i64 I),(7,.int .i64 J)],1,[(0,[.int .i64 c0,.int .i64 c1])],h⟩ Q:=by
 intro d
 induction d with
 |zero=>
  intro j J h hd kj hj eJ hz t;have r1:=sq_size hA t eS;refine hA.roundR Try.func97 r97_ok (zc ?_);refine zq ?_;refine br (J<S) (by rw[e_lss hA]) (fun q=>by omega) (fun _=>?_)<;>refine zc ?_;exact hno h (fun x x0 x1=>hz x x0 (by omega)) t
 |succ d ih=>
 intro j J h hd kj hj eJ hz t;have r1:=sq_size hA t eS;by_cases cj:j<s
 rotate_left
 ·refine hA.roundR Try.func97 r97_ok (zc ?_)
  refine zq ?_;refine br (J<S) (by rw[e_lss hA]) (fun q=>by omega) (fun _=>?_)<;>refine zc ?_;exact hno h (fun x x0 x1=>hz x x0 (by omega)) t
 obtain⟨v,ev⟩:∃z,z=M i j:=⟨_,rfl⟩;have r2:=sq_el hA t (i:=i) (j:=j) (by omega) (by omega) eI eJ ev;refine hA.roundR Try.func97 r97_ok (zc ?_);refine zq ?_;refine br (J<S) (by rw[e_lss hA]) (fun _=>?_) (fun q=>by omega)<;>refine zc ?_;refine zq ?_;refine br (v≠0) (by rw[e_neq hA]) (fun c=>?_) (fun c=>?_)<;>refine zc ?_
 ·refine zq ?_
  exact hyes j J h kj cj eJ (by rw[<-ev];exact c) t
 refine zq ?_;rw[add64 hA (by omega) (by omega)];refine ih (j+1) (J+1) h (by omega) (by omega) (by omega) (by omega) (fun x x0 x1=>?_) t;by_cases e:x=j
 ·rw[e,<-ev];omega
 ·exact hz x x0 (by omega)
theorem find_out{h0:AHeap}{b s k:Nat}{M:Nat->Nat->Int}(hs:s<=4){K S:Int}(eK:K=k)(eS:S=s){c0 c1:Int}{Q:Exit->SS->Prop}
  (hyes:∀(i j:Nat) (I J:Int) (h':AHeap),k<=i->i<s->k<=j->j<s->I=i->J=j->M i j≠0->Sq h0 h' b s M->Q .ret ⟨[(5,.bool true),(37,.agg #[.int .i64 I,.int .i64 J]),(36,.int .i64 J),(35,.int .i64 I),(4,.pointer (some ⟨0,0,some 0⟩)),(6,.int .i64 I),(7,.int .i64 J)],1,[(0,[.int .i64 I,.int .i64 J]),(0,[.int .i64 c0,.int .i64 c1])],h'⟩)
  (hno:∀(h':AHeap),(∀i j,k<=i->i<s->k<=j->j<s->M i j=0)->Sq h0 h' b s M->Q (.exit 0) ⟨[(4,.pointer (some ⟨0,0,some 0⟩))],1,[(0,[.int .i64 c0,.int .i64 c1])],h'⟩) :
  ∀(d i:Nat) (I:Int) (h:AHeap),s-i<=d->k<=i->i<=s->I=i->(∀x j,k<=x->x<i->k<=j->j<s->M x j=0)->Sq h0 h b s M->
   head 97 2 1 ⟨[(0,.pointer (some ⟨b,0,none⟩)),(1,.int .i64 K),(4,.pointer (some ⟨0,0,some 0⟩)),(6,.int .i64 I)],1,[(0,[.int .i64 c0,.int .i64 c1])],h⟩ Q:=by
 intro d
 induction d with
 |zero=>
  intro i I h hd ki hi eI hz t;have r1:=sq_size hA t eS;refine hA.roundR Try.func97 r97_ok (zc ?_);refine zq ?_;refine br (I<S) (by rw[e_lss hA]) (fun q=>by omega) (fun _=>?_)<;>refine zc ?_;exact hno h (fun x j x0 x1=>hz x j x0 (by omega)) t
 |succ d ih=>
 intro i I h hd ki hi eI hz t;have r1:=sq_size hA t eS;by_cases ci:i<s
 rotate_left
 ·refine hA.roundR Try.func97 r97_ok (zc ?_)
  refine zq ?_;refine br (I<S) (by rw[e_lss hA]) (fun q=>by omega) (fun _=>?_)<;>refine zc ?_;exact hno h (fun x j x0 x1=>hz x j x0 (by omega)) t
 refine hA.roundR Try.func97 r97_ok (zc ?_);refine zq ?_;refine br (I<S) (by rw[e_lss hA]) (fun _=>?_) (fun q=>by omega)<;>refine zc ?_;refine zq ?_;refine find_in hA hs ci eK eI eS (fun j J h' j0 j1 eJ nz t'=>?_) (fun h' hz' t'=>?_) (s-k) k K h (by omega) (by omega) (by omega) eK (fun x x0 x1=>by omega) t
 ·exact hyes i j I J h' ki ci j0 j1 eI eJ nz t'
 refine zq ?_;rw[add64 hA (by omega) (by omega)];refine ih (i+1) (I+1) h' (by omega) (by omega) (by omega) (by omega) (fun x j x0 x1 j0 j1=>?_) t';by_cases e:x=i
 ·rw[e];exact hz' j j0 j1
 ·exact hz x j x0 (by omega) j0 j1
theorem find_ok{h0 h:AHeap}(hlow:h.low<=h.next){b s k:Nat}{M:Nat->Nat->Int}(t:Sq h0 h b s M)(hs:s<=4)(hk:k<=s){K:Int}(eK:K=k){Q:Value->AHeap->Prop}
  (hyes:∀(i j:Nat) (I J:Int) (h':AHeap),k<=i->i<s->k<=j->j<s->I=i->J=j->M i j≠0->Sq h0 h' b s M->Q (.tuple #[.agg #[.int .i64 I,.int .i64 J],.bool true]) h')
  (hno:∀(h':AHeap),(∀i j,k<=i->i<s->k<=j->j<s->M i j=0)->Sq h0 h' b s M->Q (.tuple #[.agg #[.int .i64 0,.int .i64 0],.bool false]) h') :
  call 97 [.pointer (some ⟨b,0,none⟩),.int .i64 K] h Q:=by
 obtain⟨S,eS⟩:∃z:Int,z=s:=⟨_,rfl⟩;refine hA.bodyR Try.func97 r97_ok (hA.alike _ _ _ rfl) hlow (zc ?_);refine find_out hA (h0:=h0) hs eK eS (fun i j I J h' i0 i1 j0 j1 eI eJ nz t'=>?_) (fun h' hz t'=>?_) (s-k) k K h (by omega) (by omega) hk eK (fun x j x0 x1=>by omega) t
 ·refine zq ?_
  exact hyes i j I J h' i0 i1 j0 j1 eI eJ nz t'
 ·refine zq ?_
  exact hno h' hz t'
theorem swapRows_ok{h0 h:AHeap}(hlow:h.low<=h.next){b s x y:Nat}{M:Nat->Nat->Int}(t:Sq h0 h b s M)(hx:x<4)(hy:y<4){X Y:Int}(eX:X=x)(eY:Y=y){Q:Value->AHeap->Prop}
  (hQ:∀h',Sq h0 h' b s (fun i j=>M (Ext.sw x y i) j)->Only h h' b->Q (.tuple #[]) h') :
  call 95 [.pointer (some ⟨b,0,none⟩),.int .i64 X,.int .i64 Y] h Q:=by
 obtain⟨h9,eh9⟩:∃z,z=bump h 24:=⟨_,rfl⟩;have x9:Ext h h9:=by rw[eh9];exact ext_bump hA _ _
 have t9:=t.more x9;have r1:=sq_row hA t9 hx eX;have r2:=sq_row hA t9 hy eY;obtain⟨x0,ex0⟩:∃z,z=M x 0:=⟨_,rfl⟩;obtain⟨x1,ex1⟩:∃z,z=M x 1:=⟨_,rfl⟩;obtain⟨x2,ex2⟩:∃z,z=M x 2:=⟨_,rfl⟩;obtain⟨x3,ex3⟩:∃z,z=M x 3:=⟨_,rfl⟩;obtain⟨y0,ey0⟩:∃z,z=M y 0:=⟨_,rfl⟩;obtain⟨y1,ey1⟩:∃z,z=M y 1:=⟨_,rfl⟩;obtain⟨y2,ey2⟩:∃z,z=M y 2:=⟨_,rfl⟩;obtain⟨y3,ey3⟩:∃z,z=M y 3:=⟨_,rfl⟩;rw[<-ex0,<-ex1,<-ex2,<-ex3]at r1;rw[<-ey0,<-ey1,<-ey2,<-ey3]at r2;obtain⟨h1,w1,t1,v1⟩:=sq_setRow hA t9 hx eX (M y) ey0 ey1 ey2 ey3;obtain⟨h2,w2,t2,v2⟩:=sq_setRow hA t1 hy eY (M x) ex0 ex1 ex2 ex3;refine hA.bodyR Try.func95 r95_ok (hA.alike _ _ _ rfl) hlow (zc ?_);rw[<-eh9];refine zq ?_;refine hQ h2 (t2.congr (fun i j hi hj=>?_)) ((((Only.refl h b).ext x9).wrote v1).wrote v2);unfold putM Ext.sw;by_cases c:i=y
 ·rw[if_pos c]
  by_cases d:i=x
  ·rw[if_pos d,<-c,<-d]
  ·rw[if_neg d,if_pos c]
 ·rw[if_neg c]
  by_cases d:i=x
  ·rw[if_pos d,if_pos d]
  ·rw[if_neg d,if_neg d,if_neg c]
def swC(M:Nat->Nat->Int)(x y n:Nat):Nat->Nat->Int:=fun i j=>if i<n then M i (Ext.sw x y j)else M i j
theorem swapCols_loop{h0:AHeap}{b s x y:Nat}{M:Nat->Nat->Int}(hx:x<4)(hy:y<4){X Y:Int}(eX:X=x)(eY:Y=y){Q:Exit->SS->Prop}
  (hQ:∀h',Sq h0 h' b s (fun i j=>M i (Ext.sw x y j))->Q (.exit 0) ⟨[],0,[],h'⟩) :
  ∀(d i:Nat) (I:Int) (h:AHeap),4-i<=d->i<=4->I=i->Sq h0 h b s (swC M x y i)->
   head 96 1 0 ⟨[(0,.pointer (some ⟨b,0,none⟩)),(1,.int .i64 X),(2,.int .i64 Y),(7,.int .i64 I)],0,[],h⟩ Q:=by
 refine upTo (fun d ih=>?_);intro i I h hd hi eI t;by_cases ci:i<4
 rotate_left
 ·refine hA.roundR Try.func96 r96_ok (zc ?_)
  refine br (I<4) (by rw[e_lss hA]) (fun q=>by omega) (fun _=>?_)<;>refine zc ?_;exact hQ h (t.congr (fun i' j hi' hj=>by unfold swC;rw[if_pos (by omega)]))
 obtain⟨d,rfl⟩:∃k,d=k+1:=⟨d-1,by omega⟩
 replace ih:=ih d rfl
 obtain⟨h9,eh9⟩:∃z,z=bump h 32:=⟨_,rfl⟩;have t9:=t.more (show Ext h h9 by rw[eh9];exact ext_bump hA _ _);obtain⟨u,eu⟩:∃z,z=swC M x y i i x:=⟨_,rfl⟩;obtain⟨v,ev⟩:∃z,z=swC M x y i i y:=⟨_,rfl⟩;have r1:=sq_el hA t9 ci hx eI eX eu;have r2:=sq_el hA t9 ci hy eI eY ev;obtain⟨h1,w1,t1,_⟩:=sq_set hA t9 ci hx eI eX (v:=v);obtain⟨h2,w2,t2,_⟩:=sq_set hA t1 ci hy eI eY (v:=u);refine hA.roundR Try.func96 r96_ok (zc ?_);refine br (I<4) (by rw[e_lss hA]) (fun _=>?_) (fun q=>by omega)<;>refine zc ?_;rw[<-eh9];refine zq ?_;rw[add64 hA (by omega) (by omega)];refine ih (i+1) (I+1) h2 (by omega) (by omega) (by omega) (t2.congr (fun i' j hi' hj=>?_));rw[eu,ev];unfold updV swC Ext.sw;by_cases c:i'=i
 ·subst c
  simp only[Nat.lt_irrefl,if_false,true_and,Nat.lt_succ_self,if_true];by_cases c1:j=y
  ·rw[if_pos c1]
   by_cases c2:j=x
   ·rw[if_pos c2,<-c1,<-c2]
   ·rw[if_neg c2,if_pos c1]
  ·rw[if_neg c1]
   by_cases c2:j=x
   ·rw[if_pos c2,if_pos c2]
   ·rw[if_neg c2,if_neg c2,if_neg c1]
 ·rw[if_neg (by omega),if_neg (by omega)]
  by_cases c1:i'<i
  ·rw[if_pos c1,if_pos (show i'<i+1 by omega)]
  ·rw[if_neg c1,if_neg (show ¬i'<i+1 by omega)]
theorem swapCols_ok{h0 h:AHeap}(hlow:h.low<=h.next){b s x y:Nat}{M:Nat->Nat->Int}(t:Sq h0 h b s M)(hx:x<4)(hy:y<4){X Y:Int}(eX:X=x)(eY:Y=y){Q:Value->AHeap->Prop}
  (hQ:∀h',Sq h0 h' b s (fun i j=>M i (Ext.sw x y j))->Q (.tuple #[]) h') :
  call 96 [.pointer (some ⟨b,0,none⟩),.int .i64 X,.int .i64 Y] h Q:=by
 refine hA.bodyR Try.func96 r96_ok (hA.alike _ _ _ rfl) hlow (zc ?_);refine swapCols_loop hA hx hy eX eY (fun h' t'=>?_) 4 0 0 h (by omega) (by omega) rfl (t.congr (fun i j hi hj=>by unfold swC;rw[if_neg (by omega)]));refine zq ?_;exact hQ h' t'
end Go.Proofs.Ytdpbiegfljmhmaa
namespace Go.Proofs.Ytdpbiegfljmhmaa
open Go.Sim
set_option maxRecDepth 100000
def stE(s:Nat)(C:Nat->Nat->Int)(k:Nat)(last:Int)(i j:Nat):Nat->Nat->Int:=fun x y=>if k<x/\k<y/\y<s/\(x<i\/x=i/\y<j)then(C k k*C x y-C x k*C k y).tdiv last else C x y
theorem stE_start(s:Nat)(C:Nat->Nat->Int)(k:Nat)(last:Int)(x y:Nat):stE s C k last (k+1) (k+1) x y=C x y:=by unfold stE;rw[if_neg (by omega)]
theorem stE_row(s:Nat)(C:Nat->Nat->Int)(k:Nat)(last:Int)(i x y:Nat):stE s C k last i s x y=stE s C k last (i+1) (k+1) x y:=by
 unfold stE;by_cases c:k<x/\k<y/\y<s/\(x<i\/x=i/\y<s)
 ·rw[if_pos c,if_pos (by omega)]
 ·rw[if_neg c,if_neg (by omega)]
theorem guardP:Try.prog.eqGuardType Try.prog.depth 126=false:=by kernel_rfl
theorem eqP(a b c d:Int):∃r,eqA Try.prog 30 126 (.agg #[.int .i64 a,.int .i64 b]) (.agg #[.int .i64 c,.int .i64 d])=some r/\(r=true↔a=c/\b=d):=by
 have h3:Try.prog.underlying 3=some (.int .i64):=by kernel_rfl
 have h4:Try.prog.underlying 126=some (.array 2 3):=by kernel_rfl
 have i3:isAggB Try.prog 3=some false:=by kernel_rfl
 have s3:sizeT Try.prog 3=some 1:=by kernel_rfl
 have e3:∀(n:Nat) (x y:Int),eqA Try.prog (n+1) 3 (.int .i64 x) (.int .i64 y)=some (x == y):=by
  intro n x y;unfold eqA;rw[h3];simp
 have e4:eqA Try.prog (29+1) 126 (.agg #[.int .i64 a,.int .i64 b]) (.agg #[.int .i64 c,.int .i64 d])=some ((a == c) && (b == d)):=by
  unfold eqA;rw[h4];have e3':∀(x y:Int),eqA Try.prog 29 3 (.int .i64 x) (.int .i64 y)=some (x == y):=e3 28;simp only[s3,List.range,List.range.loop,List.foldr,partA,i3,List.getElem?_cons_zero,List.getElem?_cons_succ,e3',Nat.mul_one];cases a == c<;>cases b == d<;>rfl
 refine⟨_,e4,?_⟩;simp only[Bool.and_eq_true,beq_iff_eq]
variable{F:Prims}{call head arith cmp scmp bnot bsame conv neg imax imin ofNat slen place inR nz geZ rd wr push next mkOK nat zeros sadd eqAgg cut slc sslc strAt part app cpy putAt fresh lowered bump wrote addN lt ne fpAll fpApp brk yn rng mget mput mnew bytes clr:_}(hA:AP F ⟨call,head,arith,cmp,scmp,bnot,bsame,conv,neg,imax,imin,ofNat,slen,place,inR,nz,geZ,rd,wr,push,next,mkOK,nat,zeros,sadd,eqAgg,cut,slc,sslc,strAt,part,app,cpy,putAt,fresh,lowered,bump,wrote,addN,lt,ne,fpAll,fpApp,brk,yn,rng,mget,mput,mnew,bytes,clr⟩)
include hA
theorem me_in{h0:AHeap}{b s k i:Nat}{C:Nat->Nat->Int}{last:Int}(hs:s<=4)(hk:k<i)(hi:i<s){K I S:Int}(eK:K=k)(eI:I=i)(eS:S=s)(hb:∀x y,k<=x->x<s->k<=y->y<s->(C x y).natAbs<=157464)(lz:last≠0){Q:Exit->SS->Prop}
  (hQ:∀(h':AHeap),Sq h0 h' b s (stE s C k last i s)->Q (.exit 4) ⟨[(0,.pointer (some ⟨b,0,none⟩)),(3,.func (.func 95) #[.pointer (some ⟨b,0,none⟩)] #[]),(4,.func (.func 96) #[.pointer (some ⟨b,0,none⟩)] #[]),(5,.int .i64 last),(6,.int .i64 K),(9,.int .i64 I),(18,.int .i64 S),(19,.int .i64 K)],0,[],h'⟩) :
  ∀(d j:Nat) (J:Int) (h:AHeap),s-j<=d->k<j->j<=s->J=j->Sq h0 h b s (stE s C k last i j)->
   head 81 16 0 ⟨[(0,.pointer (some ⟨b,0,none⟩)),(3,.func (.func 95) #[.pointer (some ⟨b,0,none⟩)] #[]),(4,.func (.func 96) #[.pointer (some ⟨b,0,none⟩)] #[]),(5,.int .i64 last),(6,.int .i64 K),(9,.int .i64 I),(10,.int .i64 J),(18,.int .i64 S),(19,.int .i64 K)],0,[],h⟩ Q:=by
 intro d
 induction d with
 |zero=>
  intro j J h hd kj hj eJ t;have r1:=sq_size hA t eS;refine hA.roundR Try.func81 r81_ok (zc ?_);refine zq ?_;refine br (J<S) (by rw[e_lss hA]) (fun q=>by omega) (fun _=>?_)<;>refine zc ?_;obtain rfl:j=s:=by omega
  exact hQ h t
 |succ d ih=>
 intro j J h hd kj hj eJ t;have r1:=sq_size hA t eS;by_cases cj:j<s
 rotate_left
 ·refine hA.roundR Try.func81 r81_ok (zc ?_)
  refine zq ?_;refine br (J<S) (by rw[e_lss hA]) (fun q=>by omega) (fun _=>?_)<;>refine zc ?_;obtain rfl:j=s:=by omega
  exact hQ h t
 obtain⟨h9,eh9⟩:∃z,z=bump h 45:=⟨_,rfl⟩;have t9:=t.more (show Ext h h9 by rw[eh9];exact ext_bump hA _ _);obtain⟨p,ep⟩:∃z,z=C k k:=⟨_,rfl⟩;obtain⟨v,ev⟩:∃z,z=C i j:=⟨_,rfl⟩;obtain⟨u,eu⟩:∃z,z=C i k:=⟨_,rfl⟩;obtain⟨w,ew⟩:∃z,z=C k j:=⟨_,rfl⟩;have bp:=hb k k (by omega) (by omega) (by omega) (by omega);have bv:=hb i j (by omega) (by omega) (by omega) (by omega);have bu:=hb i k (by omega) (by omega) (by omega) (by omega);have bw:=hb k j (by omega) (by omega) (by omega) (by omega);rw[<-ep]at bp;rw[<-ev]at bv;rw[<-eu]at bu;rw[<-ew]at bw;have r2:=sq_el hA t9 (i:=k) (j:=k) (by omega) (by omega) eK eK (v:=p) (by unfold stE;rw[if_neg (by omega),ep]);have r3:=sq_el hA t9 (i:=i) (j:=j) (by omega) (by omega) eI eJ (v:=v) (by unfold stE;rw[if_neg (by omega),ev]);have r4:=sq_el hA t9 (i:=i) (j:=k) (by omega) (by omega) eI eK (v:=u) (by unfold stE;rw[if_neg (by omega),eu]);have r5:=sq_el hA t9 (i:=k) (j:=j) (by omega) (by omega) eK eJ (v:=w) (by unfold stE;rw[if_neg (by omega),ew]);have b1:=Ext.mul_le bp bv;have b2:=Ext.mul_le bu bw;obtain⟨x1,ex1⟩:∃z,z=p*v:=⟨_,rfl⟩;obtain⟨x2,ex2⟩:∃z,z=u*w:=⟨_,rfl⟩;rw[<-ex1]at b1;rw[<-ex2]at b2;have m1:arith .mul .i64 p v=x1:=by rw[ex1];exact mul64 hA (by omega) (by omega)
 have m2:arith .mul .i64 u w=x2:=by rw[ex2];exact mul64 hA (by omega) (by omega)
 obtain⟨x3,ex3⟩:∃z,z=x1-x2:=⟨_,rfl⟩;have m3:arith .sub .i64 x1 x2=x3:=by rw[ex3];exact sub64 hA (by omega) (by omega)
 obtain⟨g,eg⟩:∃z,z=x3.tdiv last:=⟨_,rfl⟩;have m4:arith .quo .i64 x3 last=g:=by
  rw[e_quo hA,<-eg];have:=Int.natAbs_tdiv_le_natAbs x3 last;rw[<-eg]at this;exact wrap64 (by omega) (by omega)
 obtain⟨h2,w1,t2,_⟩:=sq_set hA t9 (i:=i) (j:=j) (by omega) (by omega) eI eJ (v:=g);refine hA.roundR Try.func81 r81_ok (zc ?_);refine zq ?_;refine br (J<S) (by rw[e_lss hA]) (fun _=>?_) (fun q=>by omega)<;>refine zc ?_;rw[<-eh9]
 (refine zq ?_;repeat ((first|rw[m1]|rw[m2]|rw[m3]|rw[m4]);refine zq ?_))
 rw[add64 hA (by omega) (by omega)];refine ih (j+1) (J+1) h2 (by omega) (by omega) (by omega) (by omega) (t2.congr (fun x y hx hy=>?_));unfold updV stE;by_cases c:x=i/\y=j
 ·rw[if_pos c,if_pos (by omega),eg,ex3,ex1,ex2,ep,ev,eu,ew,c.1,c.2]
 ·rw[if_neg c]
  by_cases c2:k<x/\k<y/\y<s/\(x<i\/x=i/\y<j)
  ·rw[if_pos c2,if_pos (by omega)]
  ·rw[if_neg c2,if_neg (by omega)]
theorem me_out{h0:AHeap}{b s k:Nat}{C:Nat->Nat->Int}{last:Int}(hs:s<=4)(hk:k<s){K S:Int}(eK:K=k)(eS:S=s)(hb:∀x y,k<=x->x<s->k<=y->y<s->(C x y).natAbs<=157464)(lz:last≠0){Q:Exit->SS->Prop}
  (hQ:∀(h':AHeap),Sq h0 h' b s (stE s C k last s (k+1))->Q (.exit 2) ⟨[(0,.pointer (some ⟨b,0,none⟩)),(3,.func (.func 95) #[.pointer (some ⟨b,0,none⟩)] #[]),(4,.func (.func 96) #[.pointer (some ⟨b,0,none⟩)] #[]),(6,.int .i64 K),(18,.int .i64 S),(19,.int .i64 K)],0,[],h'⟩) :
  ∀(d i:Nat) (I:Int) (h:AHeap),s-i<=d->k<i->i<=s->I=i->Sq h0 h b s (stE s C k last i (k+1))->
   head 81 13 0 ⟨[(0,.pointer (some ⟨b,0,none⟩)),(3,.func (.func 95) #[.pointer (some ⟨b,0,none⟩)] #[]),(4,.func (.func 96) #[.pointer (some ⟨b,0,none⟩)] #[]),(5,.int .i64 last),(6,.int .i64 K),(9,.int .i64 I),(18,.int .i64 S),(19,.int .i64 K)],0,[],h⟩ Q:=by
 intro d
 induction d with
 |zero=>
  intro i I h hd ki hi eI t;have r1:=sq_size hA t eS;refine hA.roundR Try.func81 r81_ok (zc ?_);refine zq ?_;refine br (I<S) (by rw[e_lss hA]) (fun q=>by omega) (fun _=>?_)<;>refine zc ?_;obtain rfl:i=s:=by omega
  exact hQ h t
 |succ d ih=>
 intro i I h hd ki hi eI t;have r1:=sq_size hA t eS;by_cases ci:i<s
 rotate_left
 ·refine hA.roundR Try.func81 r81_ok (zc ?_)
  refine zq ?_;refine br (I<S) (by rw[e_lss hA]) (fun q=>by omega) (fun _=>?_)<;>refine zc ?_;obtain rfl:i=s:=by omega
  exact hQ h t
 refine hA.roundR Try.func81 r81_ok (zc ?_);refine zq ?_;refine br (I<S) (by rw[e_lss hA]) (fun _=>?_) (fun q=>by omega)<;>refine zc ?_;refine zq ?_;rw[add64 hA (by omega) (by omega)];refine me_in hA hs ki ci eK eI eS hb lz (fun h' t'=>?_) (s-(k+1)) (k+1) (K+1) h (by omega) (by omega) (by omega) (by omega) t;refine zq ?_;rw[add64 hA (by omega) (by omega)];exact ih (i+1) (I+1) h' (by omega) (by omega) (by omega) (by omega) (t'.congr (fun x y _ _=>stE_row s C k last i x y))
theorem pair_new{h0 h' X:AHeap}{b s nb:Nat}{C:Nat->Nat->Int}(t:Sq h0 h' b s C)(eX:X=push h' 2 [.int .i64 0,.int .i64 0])(en:nb=next h')(I J:Int):∃h2,wr X nb 0 [.int .i64 I,.int .i64 J] h2/\Sq h0 h2 b s C/\Own h2 nb 2 [.int .i64 I,.int .i64 J]/\nb<h2.next:=by
 rw[e_push hA]at eX;rw[e_next hA]at en;subst eX en;obtain⟨h2,w1,w2,w3⟩:=(Own.push h' 2 [.int .i64 0,.int .i64 0]).write (o:=0) (vs:=[.int .i64 I,.int .i64 J]) (by show 0+2<=2;omega);have t1:=t.more (Ext.push h' 2 [.int .i64 0,.int .i64 0]);have hlt:=t.lt;have n1:h2.next=h'.next+1:=w3.next;refine⟨h2,wr_at hA w1,⟨w3.ext t1.ext t.ext.next,w3.own t1.own (by omega),t.old,by omega⟩,w2,by omega⟩
set_option maxHeartbeats 1000000 in
theorem me_loop{h0:AHeap}(hl0:h0.low<=h0.next){b s:Nat}{P:Nat->Nat->Int}(hs:s<=4){S:Int}(eS:S=s){Q:Exit->SS->Prop}
  (hret:∀h' env kn T,(Ext.dt s P).natAbs=0->Ext h0 h'->Q .ret ⟨(2,.int .i64 0) :: env,kn,T,h'⟩)
  (hQ:∀(h':AHeap) (last:Int),last.natAbs=(Ext.dt s P).natAbs->last.natAbs<=157464->Ext h0 h'->Q (.exit 0) ⟨[(5,.int .i64 last)],0,[],h'⟩) :
  ∀(d k:Nat) (K last:Int) (h:AHeap) (C:Nat->Nat->Int),s-k<=d->k<=s->K=k->Ext.Bar s P k last C->Sq h0 h b s C->
   head 81 4 0 ⟨[(0,.pointer (some ⟨b,0,none⟩)),(3,.func (.func 95) #[.pointer (some ⟨b,0,none⟩)] #[]),(4,.func (.func 96) #[.pointer (some ⟨b,0,none⟩)] #[]),(5,.int .i64 last),(18,.int .i64 S),(19,.int .i64 K)],0,[],h⟩ Q:=by
 refine upTo (fun d ih=>?_);intro k K last h C hd hk eK B t;by_cases ck:k<s
 rotate_left
 ·refine hA.roundR Try.func81 r81_ok (zc ?_)
  refine br (K<S) (by rw[e_lss hA]) (fun q=>by omega) (fun _=>?_)<;>refine zc ?_;obtain rfl:k=s:=by omega
  exact hQ h last B.fin (B.last (Nat.le_refl _)).1 t.ext
 obtain⟨d,rfl⟩:∃k,d=k+1:=⟨d-1,by omega⟩
 replace ih:=ih d rfl
 refine hA.roundR Try.func81 r81_ok (zc ?_);refine br (K<S) (by rw[e_lss hA]) (fun _=>?_) (fun q=>by omega)<;>refine zc ?_;refine zq ?_;refine find_ok hA (t.ext.lowOK hl0) t hs hk eK (fun i j I J h' i0 i1 j0 j1 eI eJ nz t'=>⟨_,_,_,rfl,?_⟩) (fun h' hz t'=>⟨_,_,_,rfl,?_⟩)
 ·obtain⟨nb,enb⟩:∃z,z=next h':=⟨_,rfl⟩
  obtain⟨X,eX⟩:∃z,z=push h' 2 [.int .i64 0,.int .i64 0]:=⟨_,rfl⟩;obtain⟨h2,w1,t2,own2,n2⟩:=pair_new hA t' eX enb I J;have r2:=rd_at hA (own2.readG (o:=0) (n:=2) (by show 0+2<=2;omega));have r3:rd h2 nb (place 0 0 1) 1 [.int .i64 I]:=rd_ok hA (own2.readG (o:=0+(0:Int).toNat*1) (n:=1) (by show 0+0*1+1<=2;omega));refine zc ?_;rw[<-eX,<-enb];refine zq ?_;rw[show bnot true=false by rw[e_bnot hA];rfl];refine zq ?_;rw[e_eqAgg hA];obtain⟨r,er,hr⟩:=eqP I J K K;refine⟨guardP,r,er,?_⟩;refine zc ?_;refine br (¬(I=K/\J=K)) (by rw[e_bnot hA];cases r<;>simp_all) (fun c=>?_) (fun c=>?_)<;>refine zc ?_
  ·refine zq ?_
   refine swapRows_ok hA (t2.ext.lowOK hl0) t2 (show k<4 by omega) (show i<4 by omega) eK eI (fun h3 t3 o3=>?_);have own3:=own2.of_get (o3.get nb n2 (by have:=t'.lt;rw[enb,e_next hA];omega));have r4:rd h3 nb (place 0 1 1) 1 [.int .i64 J]:=rd_ok hA (own3.readG (o:=0+(1:Int).toNat*1) (n:=1) (by show 0+1*1+1<=2;omega));refine zq ?_;refine swapCols_ok hA (t3.ext.lowOK hl0) t3 (show k<4 by omega) (show j<4 by omega) eK eJ (fun h4 t4=>?_);obtain⟨C1,eC1⟩:∃z:Nat->Nat->Int,z=fun x y=>C (Ext.sw k i x) (Ext.sw k j y):=⟨_,rfl⟩
   have t1:Sq h0 h4 b s C1:=by rw[eC1];exact t4
   have B1:Ext.Bar s P k last C1:=by rw[eC1];exact B.swap ck i0 i1 j0 j1
   have nz1:C1 k k≠0:=by
    rw[eC1];show C (Ext.sw k i k) (Ext.sw k j k)≠0;unfold Ext.sw;rw[if_pos rfl,if_pos rfl];exact nz
   refine zq ?_;rw[add64 hA (by omega) (by omega)];refine me_out hA hs ck eK eS (fun x y x0 x1 y0 y1=>B1.le hk x0 x1 y0 y1) (B.last hk).2 (fun h5 t5=>?_) (s-(k+1)) (k+1) (K+1) _ (by omega) (by omega) (by omega) (by omega) (t1.congr (fun x y _ _=>(stE_start s C1 k last x y).symm));obtain⟨p,ep⟩:∃z,z=C1 k k:=⟨_,rfl⟩;have r5:=sq_el hA t5 (i:=k) (j:=k) (by omega) (by omega) eK eK (v:=p) (by unfold stE;rw[if_neg (by omega),ep]);have B2:=B1.step hs ck nz1 (D:=stE s C1 k last s (k+1)) (fun x y x0 x1 y0 y1=>by unfold stE;rw[if_pos (by omega)]);rw[<-ep]at B2;refine zq ?_;rw[add64 hA (by omega) (by omega)];exact ih (k+1) (K+1) p h5 _ (by omega) (by omega) (by omega) B2 t5
  ·obtain⟨C1,eC1⟩:∃z:Nat->Nat->Int,z=C:=⟨_,rfl⟩
   have t1:Sq h0 h2 b s C1:=by rw[eC1];exact t2
   have B1:Ext.Bar s P k last C1:=by rw[eC1];exact B
   have nz1:C1 k k≠0:=by
    have:I=K/\J=K:=Classical.byContradiction c;rw[eC1];rw[show i=k by omega,show j=k by omega]at nz;exact nz
   refine zq ?_;rw[add64 hA (by omega) (by omega)];refine me_out hA hs ck eK eS (fun x y x0 x1 y0 y1=>B1.le hk x0 x1 y0 y1) (B.last hk).2 (fun h5 t5=>?_) (s-(k+1)) (k+1) (K+1) _ (by omega) (by omega) (by omega) (by omega) (t1.congr (fun x y _ _=>(stE_start s C1 k last x y).symm));obtain⟨p,ep⟩:∃z,z=C1 k k:=⟨_,rfl⟩;have r5:=sq_el hA t5 (i:=k) (j:=k) (by omega) (by omega) eK eK (v:=p) (by unfold stE;rw[if_neg (by omega),ep]);have B2:=B1.step hs ck nz1 (D:=stE s C1 k last s (k+1)) (fun x y x0 x1 y0 y1=>by unfold stE;rw[if_pos (by omega)]);rw[<-ep]at B2;refine zq ?_;rw[add64 hA (by omega) (by omega)];exact ih (k+1) (K+1) p h5 _ (by omega) (by omega) (by omega) B2 t5
 ·obtain⟨nb,enb⟩:∃z,z=next h':=⟨_,rfl⟩
  obtain⟨X,eX⟩:∃z,z=push h' 2 [.int .i64 0,.int .i64 0]:=⟨_,rfl⟩;obtain⟨h2,w1,t2,own2,n2⟩:=pair_new hA t' eX enb 0 0;refine zc ?_;rw[<-eX,<-enb];refine zq ?_;rw[show bnot false=true by rw[e_bnot hA];rfl];refine zq ?_;exact hret h2 _ _ _ (B.none hs ck hz) t2.ext
theorem measure_ok{h0 h:AHeap}(hl0:h0.low<=h0.next){b s:Nat}{M:Nat->Nat->Int}(t:Sq h0 h b s M)(hs:s<=4)(h9:∀i j,i<s->j<s->(M i j).natAbs<=9){Q:Value->AHeap->Prop}
  (hQ:∀(v:Int) h',v=((Ext.dt s M).natAbs:Int)->v<=157464->Ext h0 h'->Q (.int .i64 v) h'):call 81 [.pointer (some ⟨b,0,none⟩)] h Q:=by
 have hlow:=t.ext.lowOK hl0;obtain⟨S,eS⟩:∃z:Int,z=s:=⟨_,rfl⟩;have r1:=sq_size hA t eS;refine hA.bodyR Try.func81 r81_ok (hA.alike _ _ _ rfl) hlow (zc ?_);refine zq ?_;refine me_loop hA hl0 hs eS (fun h' env kn T z x=>?_) (fun h' last e e2 x=>?_) s 0 0 1 h M (by omega) (by omega) rfl (Ext.Bar.start h9) t
 ·refine zq ?_
  exact hQ 0 h' (by rw[z];rfl) (by omega) x
 ·obtain⟨v,ev⟩:∃z:Int,z=(last.natAbs:Int):=⟨_,rfl⟩
  have m1:imax last (neg .i64 last)=v:=by rw[e_imax hA,e_neg hA,wrap64 (by omega) (by omega)];omega
  (refine zq ?_;repeat ((first|rw[m1]);refine zq ?_))
  exact hQ v h' (by rw[ev,e]) (by omega) x
