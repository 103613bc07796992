import Derived.Test.YtdpbiegfljmhmaaDetK
import Derived.Test.YtdpbiegfljmhmaaDetG
set_option linter.unusedSimpArgs false
set_option linter.unusedVariables false
namespace Go.Proofs.Ytdpbiegfljmhmaa
open Go.Sim
set_option maxRecDepth 100000
def chG(n k:Nat)(i:Nat):List (List Int):=(Ext.ch n k (i+1)).map (fun l=>(i:Int) :: l)
theorem flat_le{α β:Type}(G:α->List β)(B:Nat)(h:∀x,(G x).length<=B):∀l:List α,(l.flatMap G).length<=l.length*B
 | []=>by simp
 |x :: l=>by
  have:=flat_le G B h l;have:=h x;rw[List.flatMap_cons,List.length_append,List.length_cons,Nat.add_mul];omega
theorem ch_cnt{n:Nat}(hn:n<=4):∀k f,(Ext.ch n k f).length<=4 ^ k
 |0,f=>by simp[Ext.ch]
 |k+1,f=>by
  have h:=flat_le (chG n k) (4 ^ k) (fun x=>by unfold chG;rw[List.length_map];exact ch_cnt hn k (x+1)) (List.range' f (n-f));rw[List.length_range']at h;show((List.range' f (n-f)).flatMap (chG n k)).length<=_;have:(n-f)*4 ^ k<=4*4 ^ k:=Nat.mul_le_mul_right _ (by omega);rw[Nat.pow_succ];omega
theorem ch_step(n k f i:Nat)(hi:f<=i):(List.range' f (i+1-f)).flatMap (chG n k)=(List.range' f (i-f)).flatMap (chG n k)++chG n k i:=by
 rw[show i+1-f=i-f+1 by omega,List.range'_concat,List.flatMap_append,show f+1*(i-f)=i by omega];simp
variable{F:Prims}{call head arith cmp scmp bnot bsame conv neg imax imin ofNat slen place inR nz geZ rd wr push next mkOK nat zeros sadd eqAgg cut slc sslc strAt part app cpy putAt fresh lowered bump wrote addN lt ne fpAll fpApp brk yn rng mget mput mnew bytes clr:_}(hA:AP F ⟨call,head,arith,cmp,scmp,bnot,bsame,conv,neg,imax,imin,ofNat,slen,place,inR,nz,geZ,rd,wr,push,next,mkOK,nat,zeros,sadd,eqAgg,cut,slc,sslc,strAt,part,app,cpy,putAt,fresh,lowered,bump,wrote,addN,lt,ne,fpAll,fpApp,brk,yn,rng,mget,mput,mnew,bytes,clr⟩)
include hA
theorem ch_out{h0:AHeap}(hl0:h0.low<=h0.next){n k f:Nat}(hn:n<=4)(hk:k<=3){NI KI:Int}(eN:NI=n)(eK:KI=(k:Int)+1)
  (IH:∀(f:Nat) (h:AHeap),h.low<=h.next->∀(FI NI KI:Int) (Q:Value->AHeap->Prop),FI=f->NI=n->KI=k->(∀h' a N c hd,LLs h h' a N hd (Ext.ch n k f)->Q (.slice a N c) h')->call 82 [.int .i64 FI,.int .i64 NI,.int .i64 KI] h Q) {Q:Exit->SS->Prop}
  (hQ:∀(h':AHeap) a N c hd,LLo h0 h' a N c hd (Ext.ch n (k+1) f)->Q (.exit 0) ⟨[(7,.slice a N c)],0,[],h'⟩) :
  ∀(d i:Nat) (I:Int) (h:AHeap) (a:Option Addr) (N c:Nat) (hd:List Hd),n-i<=d->f<=i->(i<=n\/i=f)->I=i->LLo h0 h a N c hd ((List.range' f (i-f)).flatMap (chG n k))->
   head 82 5 0 ⟨[(1,.int .i64 NI),(2,.int .i64 KI),(7,.slice a N c),(8,.int .i64 I)],0,[],h⟩ Q:=by
 intro d;have k4:4 ^ k<=64:=Nat.pow_le_pow_right (n:=4) (by omega) hk;have fin:∀i,n<=i->(i<=n\/i=f)->(List.range' f (i-f)).flatMap (chG n k)=Ext.ch n (k+1) f:=fun i h1 h2=>by
  show _=(List.range' f (n-f)).flatMap (chG n k);rw[show i-f=n-f by omega]
 induction d with
 |zero=>
  intro i I h a N c hd hd' fi hi eI t;refine hA.roundR Try.func82 r82_ok (zc ?_);refine br (I<NI) (by rw[e_lss hA]) (fun q=>by omega) (fun _=>?_)<;>refine zc ?_;exact hQ h a N c hd (fin i (by omega) hi ▸ t)
 |succ d ih=>
 intro i I h a N c hd hd' fi hi eI t;by_cases ci:i<n
 rotate_left
 ·refine hA.roundR Try.func82 r82_ok (zc ?_)
  refine br (I<NI) (by rw[e_lss hA]) (fun q=>by omega) (fun _=>?_)<;>refine zc ?_;exact hQ h a N c hd (fin i (by omega) hi ▸ t)
 have hlow:=t.s.ext.lowOK hl0;obtain⟨I1,eI1⟩:∃z:Int,z=I+1:=⟨_,rfl⟩;have m1:arith .add .i64 I 1=I1:=by rw[eI1];exact add64 hA (by omega) (by omega)
 obtain⟨K1,eK1⟩:∃z:Int,z=KI-1:=⟨_,rfl⟩;have m2:arith .sub .i64 KI 1=K1:=by rw[eK1];exact sub64 hA (by omega) (by omega)
 have bl:((List.range' f (i-f)).flatMap (chG n k)).length<=4*64:=by
  have h:=flat_le (chG n k) (4 ^ k) (fun x=>by unfold chG;rw[List.length_map];exact ch_cnt hn k (x+1)) (List.range' f (i-f));rw[List.length_range']at h;have:(i-f)*4 ^ k<=4*64:=Nat.mul_le_mul (by omega) k4;omega
 have cl:=ch_cnt hn k (i+1);have al:∀ad,a=some ad->ad.block<h.next:=fun ad had=>t.apd.lt ad had
 refine hA.roundR Try.func82 r82_ok (zc ?_);refine br (I<NI) (by rw[e_lss hA]) (fun _=>?_) (fun q=>by omega)<;>refine zc ?_
 (refine zq ?_;repeat ((first|rw[m1]|rw[m2]);refine zq ?_))
 refine IH (i+1) h hlow I1 NI K1 _ (by omega) eN (by omega) (fun h1 la L lc lh ls=>⟨_,_,_,rfl,?_⟩);have t1:=t.more ls.ext;have gl:=ls.gr.len;obtain⟨LI,eL⟩:∃z:Int,z=L:=⟨_,rfl⟩;refine zq ?_;refine ch_in hA hl0 eL (base:=(List.range' f (i-f)).flatMap (chG n k)) (by omega) (fun y y0 y1=>?_) (fun h2 a2 N2 c2 hd2 t2=>?_) L 0 0 h1 a N c hd (by omega) (by omega) rfl (ls.back t.s.ext) (fun ad had=>⟨fun bd hbd=>?_,fun y y0 y1 bd hbd=>?_⟩) (by rw[List.take_zero,List.map_nil,List.append_nil];exact t1)
 ·have hy:y.toNat<(Ext.ch n k (i+1)).length:=by omega
  have:gt (Ext.ch n k (i+1)) y∈Ext.ch n k (i+1):=by
   unfold gt;rw[List.getD_eq_getElem?_getD,List.getElem?_eq_getElem hy];exact List.getElem_mem hy
  rw[Ext.ch_len n k (i+1) _ this];omega
 ·(refine zq ?_;repeat ((first|rw[m1]);refine zq ?_))
  refine ih (i+1) I1 h2 a2 N2 c2 hd2 (by omega) (by omega) (.inl (by omega)) (by omega) ?_;rw[ch_step n k f i fi];unfold chG at t2 ⊢;rw[<-eI];exact t2
 ·have:=al ad had;have:=ls.fr bd hbd;omega
 ·have:=al ad had;have:=ls.rfr y y0 y1 bd hbd;omega
theorem choices_ok{n:Nat}(hn:n<=4):∀(k:Nat),k<=4->∀(f:Nat) (h:AHeap),h.low<=h.next->∀(FI NI KI:Int) (Q:Value->AHeap->Prop),FI=f->NI=n->KI=k->(∀h' a N c hd,LLs h h' a N hd (Ext.ch n k f)->Q (.slice a N c) h')->call 82 [.int .i64 FI,.int .i64 NI,.int .i64 KI] h Q:=by
 intro k
 induction k with
 |zero=>
  intro hk f h hlow FI NI KI Q eF eN eK hQ;obtain⟨nb,enb⟩:∃z,z=next h:=⟨_,rfl⟩;obtain⟨X,eX⟩:∃z,z=push h 1 [.slice none 0 0]:=⟨_,rfl⟩;have eX':=eX;have enb':=enb;rw[e_push hA]at eX';rw[e_next hA]at enb';refine hA.bodyR Try.func82 r82_ok (hA.alike _ _ _ rfl) hlow (zc ?_);refine br (KI=0) (by rw[e_eql hA]) (fun _=>?_) (fun q=>by omega)<;>refine zc ?_;rw[<-enb,<-eX];refine zq ?_;refine hQ X (some ⟨nb,0,none⟩) 1 1 [⟨none,0,0⟩] ⟨by rw[eX'];exact Ext.push h 1 _,⟨?_,rfl,fun y y0 y1=>?_⟩,fun y y0 y1=>?_,fun ad had=>by cases had;show h.next<=nb;omega,fun y y0 y1=>?_⟩
  ·rw[eX',enb']
   exact Own.rows (l:=[(⟨none,0,0⟩:Hd)]) (Own.push h 1 _) hd_len (by omega) (by simp[AHeap.push])
  ·obtain rfl:y=0:=by omega
   exact Rows.nil X nC_len (by omega)
  ·obtain rfl:y=0:=by omega
   exact fun q=>by cases q
  ·obtain rfl:y=0:=by omega
   exact fun ad had=>by cases had
 |succ k ih=>
  intro hk f h hlow FI NI KI Q eF eN eK hQ;refine hA.bodyR Try.func82 r82_ok (hA.alike _ _ _ rfl) hlow (zc ?_);refine br (KI=0) (by rw[e_eql hA]) (fun q=>by omega) (fun _=>?_)<;>refine zc ?_;refine zq ?_;refine ch_out hA hlow (k:=k) hn (by omega) eN (by omega) (fun f' h' l' FI' NI' KI' Q' e1 e2 e3 q=>?_) (fun h' a N c hd t=>?_) (n-f) f FI h none 0 0 [] (by omega) (by omega) (.inr rfl) eF (by rw[Nat.sub_self];exact LLo.nil h)
  ·exact ih (by omega) f' h' l' FI' NI' KI' Q' e1 e2 e3 q
  ·refine zq ?_
   exact hQ h' a N c hd t.s
end Go.Proofs.Ytdpbiegfljmhmaa
namespace Go.Proofs.Ytdpbiegfljmhmaa
open Go.Sim
set_option maxRecDepth 100000
variable{F:Prims}{call head arith cmp scmp bnot bsame conv neg imax imin ofNat slen place inR nz geZ rd wr push next mkOK nat zeros sadd eqAgg cut slc sslc strAt part app cpy putAt fresh lowered bump wrote addN lt ne fpAll fpApp brk yn rng mget mput mnew bytes clr:_}(hA:AP F ⟨call,head,arith,cmp,scmp,bnot,bsame,conv,neg,imax,imin,ofNat,slen,place,inR,nz,geZ,rd,wr,push,next,mkOK,nat,zeros,sadd,eqAgg,cut,slc,sslc,strAt,part,app,cpy,putAt,fresh,lowered,bump,wrote,addN,lt,ne,fpAll,fpApp,brk,yn,rng,mget,mput,mnew,bytes,clr⟩)
include hA
theorem slc_fromB{t:TypeId}{e es:Nat}(hT:SliceT Try.prog t e es){h:AHeap}{a:Option Addr}{n c:Nat}(hn:n<=1000000)(hc:c=n\/c=someCap es n){cells:List Value}(hs:Cells h a n es cells){k:IntKind}{i:Nat}(hi:i<=n){C:Option Addr->Nat->Nat->Prop}
  (hC:∀a' c',(∀h',Ext h h'->Feed Try.prog h' e es a' (n-i) c' (cells.drop (i*es)))->(i<n->Cells h a' (n-i) es (cells.drop (i*es))/\(c'=n-i\/c'=someCap es (n-i)))->C a' (n-i) c'):slc t (.slice a n c) (some (.int k i)) none none C:=by
 have e_slc:slc t (.slice a n c) (some (.int k i)) none none C = ∃a' n' c',sliceA Try.prog t (.slice a n c) (some (.int k i)) none none=some (.slice a' n' c')/\C a' n' c':=by have:=hA.eq;injections;subst_vars;rfl
 have hlen:=hs.length;have part:∀h',Ext h h'->Cells h' (a.map (aadd · (i*es))) (n-i) es (cells.drop (i*es)):=fun h' x=>by
  have:=(hs.ext x).part (i:=i) (m:=n-i) (by omega)
  rwa [List.take_of_length_le (by rw[List.length_drop,hlen,Nat.sub_mul];omega)]at this
 rw[e_slc];unfold sliceA;simp only[hT.und,hT.size];unfold sliceS;simp only[boundMx,boundHi,boundLo,bound];have hsl:n<slack:=by unfold slack;omega
 rcases hc with rfl|rfl
 ·rw[show capLow c=c from Nat.mod_eq_of_lt hsl,if_pos ⟨by omega,by omega⟩]
  simp only[];rw[ble_true (Nat.le_refl _),blt_true hsl];simp only[cond_true,Bool.true_or,Int.toNat_natCast];by_cases c0:c=i
  ·subst c0
   rw[show Nat.beq c c=true by simp];simp only[cond_true];refine⟨_,_,_,rfl,hC _ _ (fun h' x=>?_) (fun q=>absurd q (Nat.lt_irrefl _))⟩;rw[Nat.sub_self,List.drop_of_length_le (by omega)];have:=(hs.ext x).head (m:=0) (Nat.zero_le _);rw[Nat.zero_mul,List.take_zero]at this;exact Feed.of _ this
  ·rw[nbeq c0]
   simp only[cond_false];exact⟨_,_,_,rfl,hC _ _ (fun h' x=>Feed.of _ (part h' x)) (fun _=>⟨part h (.refl h),.inl rfl⟩)⟩
 ·rw[if_pos ⟨by omega,by omega⟩]
  simp only[];rw[capLow_some hsl,ble_true (Nat.le_refl _),blt_false (someCap_ge es n),someCap_div hsl];simp only[cond_true,cond_false,Option.isSome_none,Bool.or_false,Int.toNat_natCast];by_cases c0:i=0
  ·subst c0
   rw[show Nat.beq 0 0=true from rfl];simp only[cond_true];refine⟨_,_,_,rfl,hC _ _ (fun h' x=>?_) (fun _=>⟨?_,.inr rfl⟩)⟩
   ·rw[Nat.zero_mul,List.drop_zero]
    exact Feed.of _ (hs.ext x)
   ·rw[Nat.zero_mul,List.drop_zero]
    exact hs
  rw[nbeq c0];simp only[cond_false];by_cases c1:i<n
  ·rw[blt_true c1]
   simp only[Bool.true_and,Nat.beq_refl,cond_true];exact⟨_,_,_,rfl,hC _ _ (fun h' x=>Feed.of _ (part h' x)) (fun _=>⟨part h (.refl h),.inr rfl⟩)⟩
  ·have e1:i=n:=by omega
   subst e1;rw[blt_false (Nat.le_refl _)];simp only[Bool.false_and,cond_false];rw[show Nat.beq i i=true by simp];simp only[cond_true];refine⟨_,_,_,rfl,?_⟩;have:=hC (some ⟨0,0,some 0⟩) slack (fun h' _=>by
    rw[Nat.sub_self,List.drop_of_length_le (by omega)];exact Feed.nothing _ _ _ _ _ _) (fun q=>absurd q (Nat.lt_irrefl _))
   rwa [Nat.sub_self]at this
structure Rw(h:AHeap)(a:Option Addr)(n c:Nat)(l:List Int):Prop where
 len:l.length=n
 rows:0<n->Rows nC 1 h a n l
 cap:0<n->c=n\/c=someCap 1 n
omit hA in
theorem sub_step{a b d:Nat}(h:a-b<=d+1):a-(b+1)<=d:=by omega
omit hA in
theorem sg_succ(k:Nat):Ext.sg (k+1)=- Ext.sg k:=by unfold Ext.sg;split<;>split<;>omega
def lapT(g:List (List Int))(r0:Int)(rs c:List Int)(x:Nat):Int:=Ext.sg x*Ext.el g r0 (gt c x)*Ext.lap (Ext.el g) rs (c.eraseIdx x)
theorem mulB{p w:Int}(bp:p.natAbs<=9)(wb:w.natAbs<=157464):arith .mul .i64 p w=p*w/\(p*w).natAbs<=1417176:=by
 have h:=Ext.mul_le bp wb;exact⟨mul64 hA (by omega) (by omega),by omega⟩
theorem addB{k:Nat}{s t:Int}(hk:k<=3)(hs:s.natAbs<=k*1417176)(ht:t.natAbs<=1417176):arith .add .i64 s t=s+t/\(s+t).natAbs<=(k+1)*1417176:=by
 exact⟨add64 hA (by omega) (by omega),by omega⟩
theorem negB{s:Int}(h:s=1\/s=-1):neg .i64 s=-s:=by
 rw[e_neg hA,wrap64 (by omega) (by omega)];omega
set_option maxHeartbeats 400000 in
theorem det_loop{h0:AHeap}(hl0:h0.low<=h0.next){m n ac s s1:Nat}{aa:Option Addr}{hds:List Hd}{g:List (List Int)}(hM:Mat g m n)(hg:GrR nC 1 h0 aa m hds g)(es1:s1=s+1)(h4:s1<=4){ra ca:Option Addr}{rc cc:Nat}{r0:Int}{rs c:List Int}(hr:Rw h0 ra s1 rc (r0 :: rs))(hc:Rw h0 ca s1 cc c)(lr:∀x∈r0 :: rs,0<=x/\x<m)(lc:∀x∈c,0<=x/\x<n){S:Int}(eS:S=s1)
  (IH:∀(h:AHeap),h.low<=h.next->GrR nC 1 h aa m hds g->∀(ra ca:Option Addr) (rc cc:Nat) (r c:List Int) (Q:Value->AHeap->Prop),Rw h ra s rc r->Rw h ca s cc c->(∀x∈r,0<=x/\x<m)->(∀x∈c,0<=x/\x<n)->(∀(v:Int) h',v=Ext.lap (Ext.el g) r c->v.natAbs<=157464->Ext h h'->Q (.int .i64 v) h')->call 84 [.slice aa m ac,.slice ra s rc,.slice ca s cc] h Q) {Q:Exit->SS->Prop}
  (hQ:∀(h':AHeap) (v:Int),v=Ext.smT (lapT g r0 rs c) s1->Ext h0 h'->Q (.exit 0) ⟨[(7,.int .i64 v)],0,[],h'⟩) :
  ∀(d k:Nat) (K sum sign:Int) (h:AHeap),s1-k<=d->k<=s1->K=k->sign=Ext.sg k->sum=Ext.smT (lapT g r0 rs c) k->sum.natAbs<=k*1417176->Ext h0 h->
   head 84 5 0 ⟨[(0,.slice aa m ac),(1,.slice ra s1 rc),(2,.slice ca s1 cc),(7,.int .i64 sum),(8,.int .i64 sign),(9,.int .i64 K)],0,[],h⟩ Q:=by
 intro d;have e0:ofNat s1=S:=by rw[eS];exact e_ofNat hA s1
 induction d with
 |zero=>
  intro k K sum sign h hd hk eK eg es hb x;refine hA.roundR Try.func84 r84_ok (zc ?_)
  (refine zq ?_;repeat ((first|rw[e0]);refine zq ?_))
  refine br (K<S) (by rw[e_lss hA]) (fun q=>by omega) (fun _=>?_)<;>refine zc ?_;obtain rfl:k=s1:=by omega
  exact hQ h sum es x
 |succ d ih=>
 intro k K sum sign h hd hk eK eg es hb x;by_cases ck:k<s1
 rotate_left
 ·refine hA.roundR Try.func84 r84_ok (zc ?_)
  (refine zq ?_;repeat ((first|rw[e0]);refine zq ?_))
  refine br (K<S) (by rw[e_lss hA]) (fun q=>by omega) (fun _=>?_)<;>refine zc ?_;obtain rfl:k=s1:=by omega
  exact hQ h sum es x
 obtain⟨h9,eh9⟩:∃z,z=bump h 11:=⟨_,rfl⟩;have x9:Ext h h9:=by rw[eh9];exact ext_bump hA _ _
 have n9:h9.next=h.next+11:=by rw[eh9,e_bump hA];rfl
 obtain⟨nb,enb⟩:∃z,z=addN (next h) 0:=⟨_,rfl⟩;have enb':nb=h.next:=by rw[enb,e_addN hA,e_next hA];rfl
 obtain⟨X0,eX0⟩:∃z,z=putAt h9 nb 1 []:=⟨_,rfl⟩;have y9:=x.trans x9;have hn0:=x.next;obtain⟨y0,o0,n0,g0⟩:=put_ext hA y9 (i:=nb) (es:=1) (by omega) [];rw[<-eX0]at y0 o0 n0 g0;have cap:=hc.cap (by omega);have hcl:capLow cc=s1:=by
  rcases cap with w|w
  ·rw[w];exact Nat.mod_eq_of_lt (by unfold slack;omega)
  ·rw[w];exact capLow_some (by unfold slack;omega)
 have ek:nat K=k:=by rw[e_nat hA];omega
 have cells:=(hc.rows (by omega)).cells;have cl:=(cells.ext y0).head (m:=k) (by omega);rw[flat_takeN nC_len]at cl;obtain⟨K1,eK1⟩:∃z:Int,z=((k+1:Nat):Int):=⟨_,rfl⟩;have m1:arith .add .i64 K 1=K1:=by rw[eK1,add64 hA (by omega) (by omega)];omega
 refine hA.roundR Try.func84 r84_ok (zc ?_)
 (refine zq ?_;repeat ((first|rw[e0]);refine zq ?_))
 refine br (K<S) (by rw[e_lss hA]) (fun _=>?_) (fun q=>by omega)<;>refine zc ?_;rw[<-eh9];refine zq ?_;rw[<-enb,<-eX0];refine⟨by rw[e_cut hA,hcl];exact⟨by omega,by omega⟩,?_⟩;refine zc ?_;rw[ek,m1,eK1];refine slc_fromB hA TI1 (h:=h0) (by omega) cap cells (by omega) (fun a9 c9 fd _=>?_);rw[flat_dropN nC_len]at fd;obtain⟨t9,et9⟩:∃z,z=s1-(k+1):=⟨_,rfl⟩;rw[<-et9]at fd ⊢;refine zc ?_;refine appFE_ok hA TI1 (show Own2 X0 1 nb 0 0 []from⟨o0,by omega,rfl,.inl ⟨rfl,rfl⟩⟩) rfl (Feed.of cc (cl.ext (.freshed _))) (all_flat nC_ok _) (by omega) (fun b1 c1 h1 o1 w1 g1=>?_);rw[Nat.zero_add,List.nil_append]at o1;rw[Nat.zero_add];obtain⟨g1',eg1⟩:∃z,z=lowered X0 h1:=⟨_,rfl⟩;rw[<-eg1]at o1 g1;obtain⟨y1,f1⟩:=g1 h0 y0 hl0 (by omega);refine zc ?_;rw[<-eg1];refine appFE_ok hA TI1 o1 (all_flat nC_ok _) (fd g1'.freshed (y1.trans (Ext.freshed _))) (all_flat nC_ok _) (by omega) (fun b2 c2 h2 o2 w2 g2=>?_);rw[<-List.flatMap_append,<-List.eraseIdx_eq_take_drop_succ,show k+t9=s by omega]at o2;rw[show k+t9=s by omega];obtain⟨g2',eg2⟩:∃z,z=lowered g1' h2:=⟨_,rfl⟩;rw[<-eg2]at o2 g2;obtain⟨y2,f2⟩:=g2 h0 y1 hl0 f1;obtain⟨h8,eh8⟩:∃z,z=bump g2' 23:=⟨_,rfl⟩;have x8:Ext g2' h8:=by rw[eh8];exact ext_bump hA _ _
 have y8:=y2.trans x8;have l8:=y8.lowOK hl0;have rr:=(hr.rows (by omega)).ext y8;obtain⟨rb,ro,era,hrb,w1⟩:=rr.at (i:=0) (by omega) (by omega);have w1:=w1 0 1 (by omega) (by omega);have cR:=(hr.rows (by omega)).cells;have capR:=hr.cap (by omega);have lenR:=hr.len;subst era;have q1:rd h8 rb (place ro 0 1) 1 [.int .i64 r0]:=rd_ok hA w1;obtain⟨R0a,R0b⟩:=lr r0 (List.mem_cons_self ..);obtain⟨ab,ao,rfl,hab,w2⟩:=(hg.ext y8).hdAt (i:=r0) R0a R0b;have row:=(hg.ext y8).row r0 R0a R0b;have hln:(gt g r0).length=n:=hM.row r0 R0a R0b;have hn2:=row.len;rw[hln]at hn2;rw[<-hn2]at w2 row;obtain⟨xa,exa⟩:∃z,z=(gt hds r0).a:=⟨_,rfl⟩;obtain⟨xc,exc⟩:∃z,z=(gt hds r0).c:=⟨_,rfl⟩;rw[<-exa,<-exc]at w2;rw[<-exa]at row;have q2:rd h8 ab (place ao r0 1) 1 [.slice xa n xc]:=rd_ok hA w2;obtain⟨cb,co,eca,hcb,w3⟩:=((hc.rows (by omega)).ext y8).at (i:=K) (by omega) (by omega);have w3:=w3 0 1 (by omega) (by omega);subst eca;obtain⟨cv,ecv⟩:∃z,z=gt c K:=⟨_,rfl⟩;rw[<-ecv]at w3;have q3:rd h8 cb (place co K 1) 1 [.int .i64 cv]:=rd_ok hA w3;have lenC:=hc.len;obtain⟨C0a,C0b⟩:=lc cv (by
  rw[ecv];unfold gt;rw[List.getD_eq_getElem?_getD,List.getElem?_eq_getElem (by omega)];exact List.getElem_mem _)
 obtain⟨xb,xo,exa2,hxb,w4⟩:=row.at (i:=cv) C0a C0b;have w4:=w4 0 1 (by omega) (by omega);cases xa with
 |none=>cases exa2
 |some xad=>
 cases exa2;obtain⟨v,ev⟩:∃z,z=gt (gt g r0) cv:=⟨_,rfl⟩;rw[<-ev]at w4;have q4:rd h8 xb (place xo cv 1) 1 [.int .i64 v]:=rd_ok hA w4;have bv:=hM.nine r0 cv;rw[<-ev]at bv;have sgn:sign=1\/sign=-1:=by rw[eg];unfold Ext.sg;split;exact .inl rfl;exact .inr rfl
 obtain⟨p,ep⟩:∃z,z=sign*v:=⟨_,rfl⟩;have bp:p.natAbs<=9:=by rw[ep];rcases sgn with e|e<;>rw[e]<;>omega
 have m2:arith .mul .i64 sign v=p:=by rw[ep];exact mul64 hA (by rw[<-ep];omega) (by rw[<-ep];omega)
 refine zc ?_;rw[<-eg2];rw[<-eh8]
 (refine zq ?_;repeat ((first|rw[m2]);refine zq ?_))
 refine slc_fromB hA TI1 (h:=h0) (i:=1) (by omega) capR cR (by omega) (fun a7 c7 _ fc=>?_);rw[show s1-1=s by omega]at fc ⊢;have xf:=ext_fresh hA h8;refine zq ?_;refine IH (fresh h8) (low_fresh hA h8) (hg.ext (y8.trans xf)) a7 (some ⟨b2,0,none⟩) c7 c2 rs (c.eraseIdx k) _ ⟨by simpa[es1]using lenR,fun q=>?_,fun q=>(fc (by omega)).2⟩ ⟨?_,fun q=>?_,fun q=>?_⟩ (fun x hx=>lr x (List.mem_cons_of_mem _ hx)) (fun x hx=>lc x (List.mem_of_mem_eraseIdx hx)) (fun w h3 ew wb x3=>⟨w,rfl,?_⟩)
 ·have:=(fc (by omega)).1
  rw[show((r0 :: rs).flatMap nC).drop (1*1)=rs.flatMap nC from rfl]at this;exact⟨this.ext (y8.trans xf),nC_len,by omega⟩
 ·rw[List.length_eraseIdx_of_lt (by omega)];omega
 ·exact⟨((show Cells g2' (some ⟨b2,0,none⟩) s 1 _ from⟨rfl,o2.2.1,by rw[o2.1.readG (by have:=o2.2.2.1;omega),List.drop_zero,List.take_of_length_le (by have:=o2.2.2.1;omega)]⟩).ext (x8.trans xf)),nC_len,by omega⟩
 ·rcases o2.2.2.2 with ⟨_,w⟩|w
  ·omega
  ·exact .inr w
 obtain⟨hX,ehX⟩:∃z,z=lowered h8 h3:=⟨_,rfl⟩;have yX:Ext h0 hX:=by rw[ehX];exact ext_low hA hl0 y8 x3
 obtain⟨t1,et1⟩:∃z,z=p*w:=⟨_,rfl⟩;obtain⟨m3,bt⟩:=mulB hA bp wb;rw[<-et1]at bt m3;obtain⟨t2,et2⟩:∃z,z=sum+t1:=⟨_,rfl⟩;obtain⟨m4,bt2⟩:=addB hA (show k<=3 by clear ew es;omega) hb bt;rw[<-et2]at bt2 m4;obtain⟨s2,es2⟩:∃z,z=-sign:=⟨_,rfl⟩;have m5:=negB hA sgn;rw[<-es2]at m5;have elim:addN (next g2') 23=h8.next:=by rw[e_addN hA,e_next hA,eh8,e_bump hA];rfl
 have nw:=wrote_no hA x3
 (refine zq ?_;repeat ((first|rw[m3]|rw[m4]|rw[m5]);refine zq ?_))
 refine⟨fp_old hA nw (by rw[elim];exact hrb),fp_old hA nw (by rw[elim];exact hab),fp_old hA nw (by rw[elim];exact hcb),fp_old hA nw (by rw[elim];exact hxb),?_⟩;rw[<-ehX]
 (refine zq ?_;repeat ((first|rw[m3]|rw[m4]|rw[m5]);refine zq ?_))
 rw[m1];refine ih (k+1) K1 t2 s2 hX (sub_step hd) (Nat.succ_le_of_lt ck) eK1 ?_ ?_ bt2 yX
 ·rw[es2,eg,sg_succ]
 ·show t2=Ext.smT (lapT g r0 rs c) k+lapT g r0 rs c k
  rw[et2,et1,ep,es,ew,ev,ecv,eK,eg];rfl
theorem det_ok{m n ac:Nat}{aa:Option Addr}{hds:List Hd}{g:List (List Int)}(hM:Mat g m n):∀(s:Nat) (h:AHeap),h.low<=h.next->GrR nC 1 h aa m hds g->s<=4->∀(ra ca:Option Addr) (rc cc:Nat) (r c:List Int) (Q:Value->AHeap->Prop),Rw h ra s rc r->Rw h ca s cc c->(∀x∈r,0<=x/\x<m)->(∀x∈c,0<=x/\x<n)->(∀(v:Int) h',v=Ext.lap (Ext.el g) r c->v.natAbs<=157464->Ext h h'->Q (.int .i64 v) h')->call 84 [.slice aa m ac,.slice ra s rc,.slice ca s cc] h Q:=by
 intro s
 induction s with
 |zero=>
  intro h hlow hg h4 ra ca rc cc r c Q hr hc lr lc hQ;refine hA.bodyR Try.func84 r84_ok (hA.alike _ _ _ rfl) hlow (zc ?_);refine br (ofNat 0=0) (by rw[e_eql hA]) (fun _=>?_) (fun q=>absurd (e_ofNat hA 0) q)<;>refine zc ?_;refine zq ?_;have:r=[]:=List.length_eq_zero_iff.1 hr.len;subst this;exact hQ 1 h rfl (by decide) (.refl h)
 |succ s ih=>
  intro h hlow hg h4 ra ca rc cc r c Q hr hc lr lc hQ;obtain⟨s1,es1⟩:∃z,z=s+1:=⟨_,rfl⟩;obtain⟨S,eS⟩:∃z:Int,z=s1:=⟨_,rfl⟩;have e0:ofNat s1=S:=by rw[eS];exact e_ofNat hA s1
  rw[<-es1]at hr hc ⊢;have hrl:=hr.len;have hcl:=hc.len
  match r,hrl with
  | [],q=>rw[es1]at q;cases q
  |r0 :: rs,hrl=>
  refine hA.bodyR Try.func84 r84_ok (hA.alike _ _ _ rfl) hlow (zc ?_)
  (refine zq ?_;repeat ((first|rw[e0]);refine zq ?_))
  refine br (S=0) (by rw[e_eql hA]) (fun q=>by omega) (fun _=>?_)<;>refine zc ?_;refine zq ?_;refine det_loop hA hlow hM hg es1 (by omega) hr hc lr lc eS (fun h' l' hg' ra' ca' rc' cc' r' c' Q' q1 q2 q3 q4 q5=>ih h' l' hg' (by omega) ra' ca' rc' cc' r' c' Q' q1 q2 q3 q4 q5) (fun h' v ev x=>?_) s1 0 0 0 1 h (by omega) (by omega) rfl rfl rfl (by decide) (.refl h);have el:Ext.lap (Ext.el g) (r0 :: rs) c=Ext.smT (lapT g r0 rs c) s1:=by
   show Ext.smT _ c.length=_;rw[hcl];rfl
  have bd:v.natAbs<=157464:=by
   rw[ev,<-el,Ext.lap_dt g (by omega) hrl hcl];exact Ext.mnr_le hM.nine _ _ _
  refine zq ?_;exact hQ v h' (ev.trans el.symm) bd x
