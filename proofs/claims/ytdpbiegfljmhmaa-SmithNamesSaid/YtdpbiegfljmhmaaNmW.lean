import Derived.Test.YtdpbiegfljmhmaaLsZ
import Derived.Test.YtdpbiegfljmhmaaAcB
import Derived.Test.YtdpbiegfljmhmaaFqD
set_option linter.unusedSimpArgs false
set_option linter.unusedVariables false
namespace Go.Proofs.Ytdpbiegfljmhmaa
open Go.cL
set_option maxRecDepth 100000
theorem TFr:fW Try.prog 23 45 2:=⟨by kernel_rfl,by kernel_rfl,⟨16,by kernel_rfl,om⟩,⟨.agg #[.int .i64 0,.int .i64 0],by kernel_rfl,rfl⟩⟩
theorem TLF:fW Try.prog 51 23 1:=⟨by kernel_rfl,by kernel_rfl,⟨24,by kernel_rfl,om⟩,⟨.slice none 0 0,by kernel_rfl,rfl⟩⟩
structure Lt(h0 h:af)(a:Option Addr)(N c:Nat)(hd:List Hd)(g:List (List Fc)):Prop where
 ext:Ext h0 h
 gr:rC fC 2 h a N hd g
 fr:jY h0.next a
 o8:nK h 1 a N c (hd.flatMap Hd.cells)
 Ll:∀ad,a=some ad->∀y:Int,0<=y->y<N->∀bd,(gt hd y).a=some bd->bd.block<ad.block
theorem Lt.more{h0 h h':af}{a:Option Addr}{N c:Nat}{hd:List Hd}{g:List (List Fc)}(t:Lt h0 h a N c hd g)(e:Ext h h'):Lt h0 h' a N c hd g:=⟨t.ext.trans e,t.gr.ext e,t.fr,t.o8.ext e,t.Ll⟩
theorem Lt.nil(h:af):Lt h h none 0 0 [] []:=
 ⟨.refl h,⟨Rows.nil h fF om,rfl,fun y y0 y1=>om⟩,.none _,.nil _ _,fun ad cW=>by cases cW⟩
theorem Lt.add{h0 h h':af}{a:Option Addr}{N c b':Nat}{hd:List Hd}{g:List (List Fc)}(t:Lt h0 h a N c hd g){k:Hd}{r:List Fc}(row:Rows fC 2 h k.a k.n r)(sk:∀ad,a=some ad->∀bd,k.a=some bd->bd.block≠ad.block)
  (a':nK h' 1 (some ⟨b',0,none⟩) (N+1) (au 1 (N+1)) ((hd++[k]).flatMap Hd.cells)) (xe:Ext h0 h') (n':h.next<h'.next) (UG:h.next<b') (k':∀i,i<h.next->(∀ad,a=some ad->ad.block≠i)->h'.m.get i=h.m.get i) :
  Lt h0 h' (some ⟨b',0,none⟩) (N+1) (au 1 (N+1)) (hd++[k]) (g++[r]):=by
 have hl:hd.length=N:=t.gr.hd.len;have gl:=t.gr.len;have xq:=t.ext.next;have eh:∀y:Int,0<=y->y<((N+1:Nat):Int)->gt (hd++[k]) y=if y<N then gt hd y else k:=fun y y0 y1=>by
  rw[wH hd k y0 om,hl]
 have eg:∀y:Int,0<=y->y<((N+1:Nat):Int)->gt (g++[r]) y=if y<N then gt g y else r:=fun y y0 y1=>by
  rw[wH g r y0 om,gl]
 refine⟨xe,⟨⟨a'.cells,fF,om⟩,by simp[gl],fun y y0 y1=>?_⟩,fun ad cW=>by cases cW;show h0.next<=b';omega,a',fun ad cW y y0 y1 bd mg=>?_⟩
 ·rw[eh y y0 y1,eg y y0 y1]
  by_cases c:y<N
  ·rw[if_pos c,if_pos c]
   have q:=t.gr.row y y0 c;exact q.dF (Nat.le_of_lt n') (fun bd mg=>k' _ (q.lt bd mg) (fun ad cW=>(Nat.ne_of_lt (t.Ll ad cW y y0 c bd mg)).symm))
  ·rw[if_neg c,if_neg c]
   exact row.dF (Nat.le_of_lt n') (fun bd mg=>k' _ (row.lt bd mg) (fun ad cW=>(sk ad cW bd mg).symm))
 ·cases cW
  rw[eh y y0 y1]at mg;show bd.block<b';by_cases c:y<N
  ·rw[if_pos c]at mg;have:=(t.gr.row y y0 c).lt bd mg;omega
  ·rw[if_neg c]at mg;have:=row.lt bd mg;omega
theorem OU{size:Int}{x:List Int}{i:Nat}{I:Int}(eI:I=i)(h:i<x.length):F9 size (x.take (i+1))=F9 size (x.take i)++[fr (gt x I) size]:=by
 rw[zv x eI h];unfold F9;rw[List.map_append];rfl
theorem bX{h:af}{b es i WG:Nat}{cs j6:List Value}(o:aJ h b es cs)(ne:b≠i):aJ (h.putAt i WG j6) b es cs:=o.gF (by
 show(h.m.set i _).get b=h.m.get b;exact cQ.aK _ _ om)
theorem wI{h X:af}{i es:Nat}{cs:List Value}(x:Ext h X)(hi:h.next<=i):Ext h (X.putAt i es cs):=⟨x.next,x.low,x.vK,fun j hj=>by
 show(X.m.set i _).get j=h.m.get j;rw[cQ.aK _ _ om];exact x.get j hj⟩
theorem bV{h:af}{b es WG:Nat}{cs j6:List Value}(o:aJ h b es cs)(lt:b<h.next):aJ (h.push WG j6) b es cs:=o.ext (.push h WG j6) lt
theorem zB{X:af}{b1 b2 n:Nat}{row:List Int}(o1:aJ X b1 1 (row.flatMap nC))(l1:b1<X.next)(o2:aJ X b2 1 [.slice (some ⟨b1,0,none⟩) n n])(l2:b2<X.next)(hn:row.length=n):rC nC 1 X (some ⟨b2,0,none⟩) 1 [⟨some ⟨b1,0,none⟩,n,n⟩] [row]:=by
 subst hn;refine⟨aJ.rows (l:=[(⟨some ⟨b1,0,none⟩,row.length,row.length⟩:Hd)]) o2 fF om l2,rfl,fun y y0 y1=>?_⟩;obtain rfl:y=0:=om
 exact aJ.rows o1 fv om l1
theorem Rt{X:af}{b1 b2 b3 n1 n2:Nat}{row OV:List Int}(o1:aJ X b1 1 (row.flatMap nC))(l1:b1<X.next)(o2:aJ X b2 1 (OV.flatMap nC))(l2:b2<X.next)(o3:aJ X b3 1 [.slice (some ⟨b1,0,none⟩) n1 n1,.slice (some ⟨b2,0,none⟩) n2 n2])(l3:b3<X.next)(hn:row.length=n1)(yV:OV.length=n2):rC nC 1 X (some ⟨b3,0,none⟩) 2 [⟨some ⟨b1,0,none⟩,n1,n1⟩,⟨some ⟨b2,0,none⟩,n2,n2⟩] [row,OV]:=by
 subst hn yV;refine⟨aJ.rows (l:=[(⟨some ⟨b1,0,none⟩,row.length,row.length⟩:Hd),⟨some ⟨b2,0,none⟩,OV.length,OV.length⟩]) o3 fF om l3,rfl,fun y y0 y1=>?_⟩;have:y=0\/y=1:=om
 rcases this with rfl|rfl
 ·exact aJ.rows o1 fv om l1
 ·exact aJ.rows o2 fv om l2
theorem OW{X:af}{b:Nat}{u:Fc}(o:aJ X b 2 (fC u))(l:b<X.next):Rows fC 2 X (some ⟨b,0,none⟩) 1 [u]:=aJ.rows (l:=[u]) (by show aJ X b 2 (fC u++[]);rw[List.append_nil];exact o) sj om l
theorem V6{X:af}{b:Nat}{u v:Fc}(o:aJ X b 2 (fC u++fC v))(l:b<X.next):Rows fC 2 X (some ⟨b,0,none⟩) 2 [u,v]:=aJ.rows (l:=[u,v]) (by show aJ X b 2 (fC u++(fC v++[]));rw[List.append_nil];exact o) sj om l
theorem jz{u:Fc}(h:i64 u.n/\i64 u.d)(i:Int)(i0:0<=i)(i1:i<(1:Nat)):i64 (gt [u] i).n/\i64 (gt [u] i).d:=by
 obtain rfl:i=0:=om
 exact h
theorem qC{u v:Fc}(h:i64 u.n/\i64 u.d)(k:i64 v.n/\i64 v.d)(i:Int)(i0:0<=i)(i1:i<(2:Nat)):i64 (gt [u,v] i).n/\i64 (gt [u,v] i).d:=by
 have:i=0\/i=1:=om
 rcases this with rfl|rfl
 ·exact h
 ·exact k
structure Ph where
 a:Option Addr
 n:Nat
 c:Nat
 a':Option Addr
 n':Nat
 c':Nat
 deriving Inhabited
def Ph.cells(p:Ph):List Value:=[.slice p.a p.n p.c,.slice p.a' p.n' p.c']
theorem U7(p:Ph):p.cells.length=2:=rfl
theorem Yx{f:FuncId}{args:List Value}{call:FuncId->List Value->af->(Value->af->Prop)->Prop}{H:af}{Q:Value->af->Prop}(k:∀X,X=H->call f args H Q):call f args H Q:=k H rfl
theorem Yy{f:FuncId}{args:List Value}{call:FuncId->List Value->af->(Value->af->Prop)->Prop}{fresh:af->af}{H:af}{Q:Value->af->Prop}(k:∀X,X=H->call f args (fresh X) Q):call f args (fresh H) Q:=k H rfl
theorem Yz{f key n:Nat}{head:FuncId->Nat->Nat->SS->(Exit->SS->Prop)->Prop}{env:List (Nat×Value)}{kn:Nat}{K:List (Nat×List Value)}{H:af}{Q:Exit->SS->Prop}(k:∀X,X=H->head f key n ⟨env,kn,K,X⟩ Q):head f key n ⟨env,kn,K,H⟩ Q:=k H rfl
variable{F:bg}{call head arith cmp a0 fP f0 g0 j0 k0 l0 ofNat m0 place o0 nz q0 rd wr push next r0 t0 u0 v0 w0 x0 z0 a1 f1 g1 j1 k1 putAt fresh aw aH u1 bZ lt ne v1 w1 z1 yn uE d2 g2 i2 j2 k2:_}(hA:AP F ⟨call,head,arith,cmp,a0,fP,f0,g0,j0,k0,l0,ofNat,m0,place,o0,nz,q0,rd,wr,push,next,r0,t0,u0,v0,w0,x0,z0,a1,f1,g1,j1,k1,putAt,fresh,aw,aH,u1,bZ,lt,ne,v1,w1,z1,yn,uE,d2,g2,i2,j2,k2⟩)
include hA
theorem YA{h0:af}(gq:h0.low<=h0.next){x:List Int}{n xc:Nat}{xa:Option Addr}(hx:Rows nC 1 h0 xa n x)(n4:n<=4){W many size NI:Int}(eN:NI=n)(m1:arith .mul .i64 W many=size)(s0:0<size)(s1:size<=829440000)(hr:∀j:Nat,j<n->0<=gt x (j:Int)/\gt x (j:Int)<size){oa fa:Option Addr}{on oc fn fc:Nat}{FN FI:Int}{c1:List Value}{Q:Exit->SS->Prop}
  (hQ:∀h' a c,nK h' 2 a n c ((F9 size x).flatMap fC)->jY h0.next a->Ext h0 h'->Q (.exit 2) ⟨[(4,.int .i64 many),(8,.int .i64 W),(11,.slice oa on oc),(14,.slice a n c),(48,.slice fa fn fc),(49,.int .i64 FN),(50,.int .i64 FI)],1,[(0,c1)],h'⟩) :
  ∀(d i:Nat) (I:Int) (h:af) (a:Option Addr) (c:Nat),n-i<=d->i<=n->I=i->nK h 2 a i c ((F9 size (x.take i)).flatMap fC)->jY h0.next a->Ext h0 h->
   head 21 16 1 ⟨[(4,.int .i64 many),(8,.int .i64 W),(11,.slice oa on oc),(14,.slice a i c),(48,.slice fa fn fc),(49,.int .i64 FN),(50,.int .i64 FI),(54,.slice xa n xc),(55,.int .i64 NI),(56,.int .i64 I)],1,[(0,c1)],h⟩ Q:=by
 intro d;have ln:=hx.len
 induction d with
 |zero=>
  intro i I h a c hd hi eI t fo x';refine hA.ar Try.func21 x21.2 (zc ?_);refine br (I<NI) (by rw[aB hA]) (fun q=>om) (fun _=>?_)<;>refine zc ?_;obtain rfl:i=n:=om
  rw[List.take_of_length_le om]at t;exact hQ h a c t fo x'
 |succ d ih=>
 intro i I h a c hd hi eI t fo x';by_cases ci:i<n
 rotate_left
 ·refine hA.ar Try.func21 x21.2 (zc ?_)
  refine br (I<NI) (by rw[aB hA]) (fun q=>om) (fun _=>?_)<;>refine zc ?_;obtain rfl:i=n:=om
  rw[List.take_of_length_le om]at t;exact hQ h a c t fo x'
 have aq:=x'.az gq;obtain⟨xb,xo,rfl,_,q1⟩:=(hx.ext x').at (i:=I) om om;have q1:=q1 0 1 om om;obtain⟨v,ev⟩:∃z,z=gt x I:=⟨_,rfl⟩;have hv:=hr i ci;rw[<-eI,<-ev]at hv;rw[<-ev]at q1;have r1:rd h xb (place xo I 1) 1 [.int .i64 v]:=aC hA q1;have et:=OU (size:=size) (x:=x) eI om;rw[<-ev]at et;refine hA.ar Try.func21 x21.2 (zc ?_);refine br (I<NI) (by rw[aB hA]) (fun _=>?_) (fun q=>om)<;>refine zc ?_
 (refine zq ?_;repeat ((first|rw[m1]);refine zq ?_))
 refine IS hA aq (n:=v) (d:=size) (by unfold i64;omega) (by unfold i64;omega) (fun n' d' e zY h1 x1=>⟨_,_,_,rfl,?_⟩);have B5:=x1.az aq;have y1:=x'.trans x1;have hf:fits (rq v size):=tM om om om;have YB:n'=(fr v size).n/\d'=(fr v size).d/\e=0:=by
  rcases zY with ⟨q,_⟩|⟨_,q⟩
  ·omega
  ·rcases q with ⟨_,q1,q2,q3⟩|⟨q,_⟩
   ·exact⟨q1,q2,q3⟩
   ·exact absurd hf q
 obtain⟨rfl,rfl,rfl⟩:=YB;obtain⟨u,eu⟩:∃z,z=fr v size:=⟨_,rfl⟩;rw[<-eu]at et ⊢;have t1:=t.ext x1;refine zq ?_;rw[show cmp .neq 0 0=false by rw[cD hA];rfl];refine zq ?_;refine PO hA TFr sj om XT (v:=u) t1 om (fun a' c' h2 t2 x2=>?_);rw[<-et]at t2;obtain⟨x3,f3⟩:=x2 h0 y1 fo;obtain⟨i1,NT⟩:∃z,z=i+1:=⟨_,rfl⟩;rw[<-NT]at t2 ⊢;refine zq ?_;rw[aF hA om om];exact ih i1 (I+1) h2 a' c' om om om t2 f3 x3
theorem U8{h0:af}(gq:h0.low<=h0.next){l:List (List Int)}{n N lc:Nat}{la:Option Addr}{lh:List Hd}(gl:rC nC 1 h0 la N lh l)(n4:n<=4)(N64:N<=64){W many size NL:Int}(eN:NL=N)(m1:arith .mul .i64 W many=size)(s0:0<size)(s1:size<=829440000)(hr:∀x,x∈l->x.length=n/\∀j:Nat,j<n->0<=gt x (j:Int)/\gt x (j:Int)<size){c1:List Value}{Q:Exit->SS->Prop}
  (hQ:∀h' a c hd,Lt h0 h' a N c hd (l.map (F9 size))->Q (.exit 0) ⟨[(11,.slice a N c)],1,[(0,c1)],h'⟩) :
  ∀(d i:Nat) (I:Int) (h:af) (a:Option Addr) (c:Nat) (hd:List Hd),N-i<=d->i<=N->I=i->Lt h0 h a i c hd ((l.take i).map (F9 size))->
   head 21 12 1 ⟨[(4,.int .i64 many),(8,.int .i64 W),(11,.slice a i c),(48,.slice la N lc),(49,.int .i64 NL),(50,.int .i64 I)],1,[(0,c1)],h⟩ Q:=by
 intro d;have ln:=gl.len
 induction d with
 |zero=>
  intro i I h a c hd xG hi eI t;refine hA.ar Try.func21 x21.2 (zc ?_);refine br (I<NL) (by rw[aB hA]) (fun q=>om) (fun _=>?_)<;>refine zc ?_;obtain rfl:i=N:=om
  rw[List.take_of_length_le om]at t;exact hQ h a c hd t
 |succ d ih=>
 intro i I h a c hd xG hi eI t;by_cases ci:i<N
 rotate_left
 ·refine hA.ar Try.func21 x21.2 (zc ?_)
  refine br (I<NL) (by rw[aB hA]) (fun q=>om) (fun _=>?_)<;>refine zc ?_;obtain rfl:i=N:=om
  rw[List.take_of_length_le om]at t;exact hQ h a c hd t
 have aq:=t.ext.az gq;have gl':=gl.ext t.ext;obtain⟨lb,lo,rfl,hlb,q1⟩:=gl'.uR (i:=I) om om;obtain⟨ra,era⟩:∃z,z=(gt lh I).a:=⟨_,rfl⟩;obtain⟨rc,KK⟩:∃z,z=(gt lh I).c:=⟨_,rfl⟩;have row:=gl'.row I om om;obtain⟨x,ex⟩:∃z,z=gt l I:=⟨_,rfl⟩;have xm:x∈l:=by
  rw[ex];unfold gt;rw[List.getD_eq_getElem?_getD,List.getElem?_eq_getElem om];exact List.getElem_mem _
 obtain⟨xl,xr⟩:=hr x xm;have rl:=row.len;rw[<-ex,xl]at rl;rw[<-ex,<-era,<-rl]at row;rw[<-era,<-KK,<-rl]at q1;have r1:rd h lb (place lo I 1) 1 [.slice ra n rc]:=aC hA q1;obtain⟨NI,eNI⟩:∃z:Int,z=n:=⟨_,rfl⟩;have e0:ofNat n=NI:=by rw[eNI];exact aR hA n
 have et:(l.take (i+1)).map (F9 size)=(l.take i).map (F9 size)++[F9 size x]:=by
  rw[zv l eI om,List.map_append,<-ex];rfl
 refine hA.ar Try.func21 x21.2 (zc ?_);refine br (I<NL) (by rw[aB hA]) (fun _=>?_) (fun q=>om)<;>refine zc ?_
 (refine zq ?_;repeat ((first|rw[e0]);refine zq ?_))
 refine YA hA aq row n4 eNI m1 s0 s1 xr (fun h2 a2 c2 t2 f2 x2=>?_) n 0 0 h none 0 om om rfl (.nil _ _) (.none _) (.refl h);have wz:=t.more x2;have hn:=t.o8.lt;have hN:=x2.next;refine zq ?_;refine wB hA TLF fF om I0 (v:=(⟨a2,n,c2⟩:Hd)) wz.o8 om (fun b' h3 a' x' n' UG k'=>?_);have t3:=wz.add (k:=⟨a2,n,c2⟩) (r:=F9 size x) (by
   refine⟨t2.cells,sj,om⟩) (fun ad cW bd mg=>by have:=f2 bd mg;have:=hn ad cW;omega) a' (x' h0 wz.ext wz.fr) n' UG k'
 rw[<-et]at t3;generalize au 1 (i+1)=cc at *;obtain⟨i1,NT⟩:∃z,z=i+1:=⟨_,rfl⟩;rw[<-NT]at t3 ⊢;refine zq ?_;rw[aF hA om om];exact ih i1 (I+1) h3 _ cc _ om om om t3
theorem zC (hI : sz F) {h : af} (aq : h.low ≤ h.next) {m ac k bc : Nat} {aa ba : Option Addr} {gA : List Hd} {g : List (List Int)} {B : List Fc} (hg : Da nC 1 h aa m gA g) (hB : Rows fC 2 h ba k B) (hi : ∀ i : Int, 0 ≤ i → i < k → i64 (gt B i).n ∧ i64 (gt B i).d) {Q : Value → af → Prop} 
   (UI : ∀ e h', dB g B e → e ≠ 0 → Ext h h' → Q (.tuple #[.slice none 0 0, .int .i64 e]) h')
   (QV : ∀ e h' n, dB g B 0 → oD g m n → OL g B m n e → Ext h h' → Q (.tuple #[.slice none 0 0, .int .i64 e]) h')
   (V3 : ∀ hs h' n N c a hd L, dB g B 0 → oD g m n → Fw g B m n L → Ext h hs → Lt hs h' a N c hd L → Q (.tuple #[.slice a N c, .int .i64 0]) h')
   : call 21 [.agg #[.slice aa m ac, .slice ba k bc]] h Q := by
  refine hA.aQ Try.func21 x21.2 (hA.alike _ _ _ rfl) aq (zc ?_)
  refine zq ?_
  refine zA hA hI aq hg hB hi (fun e h1 he ne x1 => ⟨_, _, _, rfl, ?_⟩) (fun h1 n he hM nr x1 => ⟨_, _, _, rfl, ?_⟩) (fun h1 n r c f he hM hR ir ec ef x1 => ⟨_, _, _, rfl, ?_⟩)
  · refine zq ?_
    rw [show cmp .neq e 0 = true by rw [cD hA]; simp [ne]]
    refine zq ?_
    exact UI e h1 he ne x1
  · refine zq ?_
    rw [show cmp .neq 6 0 = true by rw [cD hA]; rfl]
    refine zq ?_
    exact QV 6 h1 n he hM (.inl ⟨nr, rfl⟩) x1
  · refine zq ?_
    rw [show cmp .neq 0 0 = false by rw [cD hA]; rfl]
    refine zq ?_
    refine br (f > 0) (by rw [fg hA]) (fun cf => ?_) (fun cf => ?_) <;> refine zc ?_
    · refine zq ?_
      exact QV 24 h1 n he hM (.inr ⟨hR, r, ir, .inl ⟨om, rfl⟩⟩) x1
    obtain rfl : n = r := by have := ir.ln; omega
    refine zq ?_
    refine br (c > 64) (by rw [fg hA]) (fun cc => ?_) (fun cc => ?_) <;> refine zc ?_
    · refine zq ?_
      exact QV 4 h1 n he hM (.inr ⟨hR, n, ir, .inr ⟨rfl, by omega, rfl⟩⟩) x1
    obtain ⟨gd, nm⟩ := he.rz
    have B5 := x1.az aq
    have hgr := hg.full (fun y y0 y1 => by rw [hM.row y y0 y1]; exact hM.n1)
    have hkm : k = m := by have := gd.len; have := hB.len; have := hg.len; omega
    subst hkm
    have ht : ∀ i : Int, 0 ≤ i → i < k → cZ (gt B i) ∧ (gt B i).d ≤ 60 := fun i i0 i1 => gd.turn i i0 (by have := hB.len; omega)
    have k4 := hM.m4
    refine zq ?_
    refine Bh hA B5 (hB.ext x1) k4 ht (fun W h2 pa pc w t x2 => ⟨_, _, _, _, rfl, ?_⟩)
    have DT := x2.az B5
    refine zq ?_
    refine zh hA hI DT hM ((hgr.ext x1).ext x2) (fun h3 r s ra rc qa qc bs rb A st rw hd gd _ => ⟨_, _, _, _, _, _, rfl, ?_⟩)
    obtain rfl := (st.Ye hM).uniq ir
    have KT := st.KT (B := B) w.pos
    have x3 := rw.ext
    have Vq := x3.az DT
    have em : c = Ext.Mk A r := by rw [← st.Yt hM]; exact ec
    refine zq ?_
    refine OG hA Vq (size := W * c) (⟨hM, st, w, ht, ⟨hd.o8.cells, fF, by omega⟩, ⟨_, rw⟩, ⟨(t.ext x3).cells, fv, by omega⟩, em, by omega, rfl⟩ : F8 h3 g B k r s A W c (W * c) ra pa bs) (fun h4 b N c4 Yo l g4 pl sl x4 => ⟨_, _, _, rfl, ?_⟩)
    obtain ⟨NL, eNL⟩ : ∃ z : Int, z = N := ⟨_, rfl⟩
    have e0 : ofNat N = NL := by rw [eNL]; exact aR hA _
    have mp := qy (A := A) r (fun i hi => st.diag hi)
    have wf := w.gB k4
    have sp : 0 < W * c := Int.mul_pos w.pos om
    have s1 : W * c ≤ 12960000 * 64 := Int.mul_le_mul wf om om om
    obtain ⟨size, V7⟩ : ∃ z, z = W * c := ⟨_, rfl⟩
    have m1 : arith .mul .i64 W c = size := by rw [V7]; exact jh hA (by rw [← V7]; omega) (by rw [← V7]; omega)
    rw [← em, ← V7] at KT
    rw [← V7] at pl sp s1
    have run := Ext.uT KT r (Nat.le_refl r)
    have hr : ∀ x, x ∈ l → x.length = r ∧ ∀ j : Nat, j < r → 0 ≤ gt x (j : Int) ∧ gt x (j : Int) < size := fun x hx => by
      have := (run.1 x).1 (pl.mem_iff.1 hx)
      exact ⟨this.len, fun j hj => this.uE j om hj⟩
    have ag : Fw g B k r (l.map (F9 size)) := by
      have e1 : size = W * Ext.Mk A r := by rw [V7, em]
      rw [e1] at pl s1 ⊢
      exact Fw.of hM st hR ir om w ht om pl sl
    have lN : N ≤ 64 := by
      have h1 := ag.len
      rw [List.length_map] at h1
      have := g4.len
      omega
    (refine zq ?_; repeat ((first | rw [e0]); refine zq ?_))
    refine U8 hA (x4.az Vq) g4 hM.n4 lN eNL m1 sp om hr (fun h5 a5 c5 hd5 t5 => ?_) N 0 0 h4 none 0 [] om om rfl (Lt.nil h4)
    refine zq ?_
    exact V3 h4 h5 r N c5 a5 hd5 _ he hM ag (((x1.trans x2).trans x3).trans x4) t5
theorem ofX{H:af}{a b:Int}{Q:Value->af->Prop}(hQ:∀X,X=H->(H.low<=H.next)/\Q (.agg #[.int .i64 a,.int .i64 b]) (fresh H)):call 23 [.int .i64 a,.int .i64 b] (fresh H) Q:=by
 obtain⟨hl,h⟩:=hQ H rfl;have aq:=aA hA H;refine hA.aQ Try.func23 x23.2 (hA.alike _ _ _ rfl) aq (zc ?_);refine zq ?_;exact h
theorem mP{h:af}(aq:h.low<=h.next){a b:Int}{Q:Value->af->Prop}(hQ:Q (.agg #[.int .i64 a,.int .i64 b]) h):call 23 [.int .i64 a,.int .i64 b] h Q:=by
 refine hA.aQ Try.func23 x23.2 (hA.alike _ _ _ rfl) aq (zc ?_);refine zq ?_;exact hQ
theorem Ru(hI:sz F){h0:af}(gq:h0.low<=h0.next){bl:List Ph}{pa:Option Addr}(hp:Rows Ph.cells 2 h0 pa 9 bl)(hs:∀j:Nat,j<9->∃gA g B,Da nC 1 h0 (gt bl (j:Int)).a (gt bl (j:Int)).n gA g/\Rows fC 2 h0 (gt bl (j:Int)).a' (gt bl (j:Int)).n' B/\(∀i:Int,0<=i->i<(gt bl (j:Int)).n'->i64 (gt B i).n/\i64 (gt B i).d)/\dB g B 8){T T':List Value}{Q:Exit->SS->Prop}
  (hQ:∀h',Ext h0 h'->Q (.exit 0) ⟨[(1,.pointer (some ⟨0,0,some 0⟩))],44,[(0,T),(0,T')],h'⟩) :
  ∀(d j:Nat) (J:Int) (h:af),9-j<=d->j<=9->J=j->Ext h0 h->
   head 6 4 44 ⟨[(1,.pointer (some ⟨0,0,some 0⟩)),(2,.slice pa 9 9),(3,.int .i64 J)],44,[(0,T),(0,T')],h⟩ Q:=by
 intro d;have e0:ofNat 9=9:=aR hA 9
 induction d with
 |zero=>
  intro j J h hd hj eJ x;refine hA.ar Try.func6 Iz (zc ?_)
  (refine zq ?_;repeat ((first|rw[e0]);refine zq ?_))
  refine br (J<9) (by rw[aB hA]) (fun q=>om) (fun _=>?_)<;>refine zc ?_;exact hQ h x
 |succ d ih=>
 intro j J h hd hj eJ x;by_cases cj:j<9
 rotate_left
 ·refine hA.ar Try.func6 Iz (zc ?_)
  (refine zq ?_;repeat ((first|rw[e0]);refine zq ?_))
  refine br (J<9) (by rw[aB hA]) (fun q=>om) (fun _=>?_)<;>refine zc ?_;exact hQ h x
 have aq:=x.az gq;obtain⟨gA,g,B,hg,hB,hi,hc⟩:=hs j cj;obtain⟨b,o,rfl,_,q1⟩:=(hp.ext x).at (i:=J) om om;have q1:=q1 0 2 om om;rw[<-eJ]at hg hB hi;obtain⟨p,ep⟩:∃z,z=gt bl J:=⟨_,rfl⟩;rw[<-ep]at hg hB hi q1;obtain⟨a,n,c,a',n',c'⟩:=p;have r1:rd h b (place o J 2) 2 [.slice a n c,.slice a' n' c']:=aC hA q1;have Ei:∀i:Int,0<=i->i<n'->i64 (gt B i).n/\i64 (gt B i).d:=hi;have c8:cmp .neq (8:Int) 8=false:=by rw[cD hA];rfl
 refine hA.ar Try.func6 Iz (zc ?_)
 (refine zq ?_;repeat ((first|rw[e0]);refine zq ?_))
 refine br (J<9) (by rw[aB hA]) (fun _=>?_) (fun q=>om)<;>refine zc ?_;refine zq ?_;refine⟨a,n,c,Exists.intro a' (Exists.intro n' (Exists.intro c' ⟨r1,?_⟩))⟩;refine zq ?_;refine zC hA hI aq (aa:=a) (m:=n) (ac:=c) (ba:=a') (k:=n') (bc:=c') (hg.ext x) (hB.ext x) Ei (fun e h1 c1 ne x1=>⟨_,_,_,_,rfl,?_⟩) (fun e h1 n1 c1 _ _ _=>absurd (hc.uniq c1) (by decide)) (fun qL h1 n1 N1 c2 a2 Uh L2 c1 _ _ _ _=>absurd (hc.uniq c1) (by decide));obtain rfl:=hc.uniq c1;have y1:=x.trans x1;obtain⟨_,_,ee,_,q2⟩:=(hp.ext y1).at (i:=J) om om;cases ee;have q2:=q2 0 2 om om;rw[<-ep]at q2;have r2:rd h1 b (place o J 2) 2 [.slice a n c,.slice a' n' c']:=aC hA q2;refine zq ?_;refine⟨a,n,c,Exists.intro a' (Exists.intro n' (Exists.intro c' ⟨r2,?_⟩))⟩;refine zq ?_;refine lS hA (y1.az gq) (aa:=a) (m:=n) (ac:=c) (ba:=a') (k:=n') (bc:=c') (hg.ext y1) (hB.ext y1) Ei (fun e h2 c2 x2=>⟨_,rfl,?_⟩);obtain rfl:=hc.uniq c2
 (refine zq ?_;repeat ((first|rw[c8]);refine zq ?_))
 rw[aF hA om om];exact ih (j+1) (J+1) h2 om om om (y1.trans x2)
theorem U9{h:af}(aq:h.low<=h.next){n ca cb va vb:Nat}{a b ra rb:Option Addr}{l:List Int}(pa:Rows Hd.cells 1 h a 1 [⟨ra,n,va⟩])(pb:Rows Hd.cells 1 h b 1 [⟨rb,n,vb⟩])(ha:Rows nC 1 h ra n l)(hb:Rows nC 1 h rb n l)(abe:n<=1000){Q:Value->af->Prop}(hQ:∀h',Ext h h'->Q (.bool true) h'):call 15 [.slice a 1 ca,.slice b 1 cb] h Q:=by
 have e0:ofNat 1=1:=aR hA 1;obtain⟨h9,iB⟩:∃z,z=aH h 10:=⟨_,rfl⟩;have x9:Ext h h9:=by rw[iB];exact av hA _ _
 obtain⟨ab,ao,e1,_,r1⟩:=(pa.ext x9).at (i:=0) om om;obtain⟨bb,bo,e2,_,r2⟩:=(pb.ext x9).at (i:=0) om om;subst e1 e2;have r1:=r1 0 1 om om;have r2:=r2 0 1 om om;have r1:rd h9 ab (place ao 0 1) 1 [.slice ra n va]:=aC hA r1;have r2:rd h9 bb (place bo 0 1) 1 [.slice rb n vb]:=aC hA r2;have bt:fP true=false:=by rw[df hA];rfl
 refine hA.aQ Try.func15 x15.2 (hA.alike _ _ _ rfl) aq (zc ?_)
 (refine zq ?_;repeat ((first|rw[e0]);refine zq ?_))
 refine br ((1:Int)≠1) (by rw[cD hA]) (fun q=>absurd rfl q) (fun _=>?_)<;>refine zc ?_;refine zq ?_;refine hA.ar Try.func15 x15.2 (zc ?_)
 (refine zq ?_;repeat ((first|rw[e0]);refine zq ?_))
 refine br ((0:Int)<1) (by rw[aB hA]) (fun _=>?_) (fun q=>om)<;>refine zc ?_;rw[<-iB];refine zq ?_;refine AA hA (aA hA h9) ((ha.ext x9).ext (gK hA h9)) ((hb.ext x9).ext (gK hA h9)) abe (fun h' x'=>⟨_,rfl,?_⟩);obtain⟨h8,eh8⟩:∃z,z=aw h9 h':=⟨_,rfl⟩;have x8:Ext h h8:=by rw[eh8];exact cU hA aq x9 x'
 (refine zq ?_;repeat ((first|rw[bt]);refine zq ?_))
 rw[<-eh8,aF hA om om];refine hA.ar Try.func15 x15.2 (zc ?_)
 (refine zq ?_;repeat ((first|rw[e0]);refine zq ?_))
 refine br ((1:Int)<1) (by rw[aB hA]) (fun q=>om) (fun _=>?_)<;>refine zc ?_;refine zq ?_;exact hQ h8 x8
theorem C5{h:af}(aq:h.low<=h.next){Q:Value->af->Prop}(hQ:∀h' b f gA,rC nC 1 h' (some ⟨b,0,none⟩) 2 gA [[1,1],[1,-1]]->Rows fC 2 h' (some ⟨f,0,none⟩) 2 [⟨0,1⟩,⟨1,2⟩]->Ext h h'->Q (.agg #[.slice (some ⟨b,0,none⟩) 2 2,.slice (some ⟨f,0,none⟩) 2 2]) h'):call 26 [] h Q:=by
 refine hA.aQ Try.func26 x26.2 (hA.alike _ _ _ rfl) aq (zc ?_);refine zq ?_;obtain⟨S3,Rv⟩:∃z,z=next h:=⟨_,rfl⟩;obtain⟨Z6,K0⟩:∃z,z=push h 1 [.int .i64 1,.int .i64 1]:=⟨_,rfl⟩;rw[<-K0,<-Rv];obtain⟨Va,Rw⟩:∃z,z=next Z6:=⟨_,rfl⟩;obtain⟨YC,HI⟩:∃z,z=push Z6 1 [.int .i64 1,.int .i64 (-1)]:=⟨_,rfl⟩;rw[<-HI,<-Rw];obtain⟨Z7,Rx⟩:∃z,z=next YC:=⟨_,rfl⟩;obtain⟨S4,FC⟩:∃z,z=push YC 1 [.slice (some ⟨S3,0,none⟩) 2 2,.slice (some ⟨Va,0,none⟩) 2 2]:=⟨_,rfl⟩;rw[<-FC,<-Rx];have lp2:S4.low<=S4.next:=by rw[FC,aV hA,HI,aV hA,K0,aV hA];exact((((Ext.refl _).trans (.push _ _ _)).trans (.push _ _ _)).trans (.push _ _ _)).az aq
 refine mP hA lp2 ⟨_,_,rfl,?_⟩;refine zq ?_;refine mP hA lp2 ⟨_,_,rfl,?_⟩;refine zq ?_;obtain⟨pb3,Ry⟩:∃z,z=next S4:=⟨_,rfl⟩;obtain⟨Vb,FD⟩:∃z,z=push S4 2 [.int .i64 0,.int .i64 1,.int .i64 1,.int .i64 2]:=⟨_,rfl⟩;rw[<-FD,<-Ry];rw[aW hA]at Rv;rw[aV hA]at K0;have npP0:Z6.next=S3+1:=by rw[K0,Rv];rfl
 rw[aW hA]at Rw;rw[aV hA]at HI;have npP1:YC.next=Va+1:=by rw[HI,Rw];rfl
 rw[aW hA]at Rx;rw[aV hA]at FC;have npP2:S4.next=Z7+1:=by rw[FC,Rx];rfl
 rw[aW hA]at Ry;rw[aV hA]at FD;have npP3:Vb.next=pb3+1:=by rw[FD,Ry];rfl
 have HJ:aJ Z6 S3 1 (([1,1]:List Int).flatMap nC):=by rw[K0,Rv];exact aJ.push _ _ _
 replace HJ:aJ YC S3 1 (([1,1]:List Int).flatMap nC):=by rw[HI];exact bV HJ om
 replace HJ:aJ S4 S3 1 (([1,1]:List Int).flatMap nC):=by rw[FC];exact bV HJ om
 replace HJ:aJ Vb S3 1 (([1,1]:List Int).flatMap nC):=by rw[FD];exact bV HJ om
 have OX:aJ YC Va 1 (([1,-1]:List Int).flatMap nC):=by rw[HI,Rw];exact aJ.push _ _ _
 replace OX:aJ S4 Va 1 (([1,-1]:List Int).flatMap nC):=by rw[FC];exact bV OX om
 replace OX:aJ Vb Va 1 (([1,-1]:List Int).flatMap nC):=by rw[FD];exact bV OX om
 have Vc:aJ S4 Z7 1 [.slice (some ⟨S3,0,none⟩) 2 2,.slice (some ⟨Va,0,none⟩) 2 2]:=by rw[FC,Rx];exact aJ.push _ _ _
 replace Vc:aJ Vb Z7 1 [.slice (some ⟨S3,0,none⟩) 2 2,.slice (some ⟨Va,0,none⟩) 2 2]:=by rw[FD];exact bV Vc om
 have abf:aJ Vb pb3 2 (fC ⟨0,1⟩++fC ⟨1,2⟩):=by rw[FD,Ry];exact aJ.push _ _ _
 have xp:Ext h Vb:=by rw[FD,FC,HI,K0];exact((((Ext.refl _).trans (.push _ _ _)).trans (.push _ _ _)).trans (.push _ _ _)).trans (.push _ _ _)
 have lp:=xp.az aq;have yp:=(Ext.refl h).trans xp;exact hQ Vb Z7 pb3 _ (Rt HJ om OX om Vc om rfl rfl) (V6 abf om) yp
set_option maxHeartbeats 2000000 in
theorem K3(hF:∀h,F 16 [] h=some (.bool true,h))(hI:sz F){h:af}(aq:h.low<=h.next){Q:Value->af->Prop}
  (hQ:∀h',Ext h h'->Q (.bool true) h'):call 6 [] h Q:=by
 refine hA.aQ Try.func6 Iz (hA.alike _ _ _ rfl) aq (zc ?_);refine zq ?_;refine mP hA aq ⟨_,_,rfl,?_⟩;refine zq ?_;refine ofX hA (fun X1 tW=>?_);rw[<-tW];simp only[qE hA,cN hA,aW hA,kv hA]at tW;have l1:X1.low<=X1.next:=by rw[tW];show h.low<=h.next+43;omega
 refine⟨l1,_,_,rfl,?_⟩;refine zq ?_;rw[bS hA l1];refine zq ?_;refine ofX hA (fun X2 tX=>?_);rw[<-tX];simp only[qE hA,cN hA,aW hA,kv hA]at tX;have l2:X2.low<=X2.next:=by rw[tX];exact l1
 refine⟨l2,_,_,rfl,?_⟩;refine zq ?_;rw[bS hA l2];refine zq ?_;refine ofX hA (fun X3 tY=>?_);rw[<-tY];simp only[qE hA,cN hA,aW hA,kv hA]at tY;have l3:X3.low<=X3.next:=by rw[tY];exact l2
 refine⟨l3,_,_,rfl,?_⟩;refine zq ?_;rw[bS hA l3];refine zq ?_;repeat (first|refine⟨R0 hA (by rw[cN hA,cN hA];omega),?_⟩|refine⟨wO hA (.refl _),?_⟩)
 refine zq ?_;refine Yz (fun X4 ui=>?_);simp only[qE hA,cN hA,aW hA]at ui;rw[cN hA,aW hA];have o1:aJ X4 (h.next+1) 1 (([]:List Int).flatMap nC):=by rw[ui,tY,tX,tW];repeat (first|exact aJ.putAt _ _ _ _|refine bX ?_ om)
 have o2:aJ X4 (h.next+2) 1 [.slice (some ⟨h.next+1,0,none⟩) 0 0]:=by rw[ui,tY,tX,tW];repeat (first|exact aJ.putAt _ _ _ _|refine bX ?_ om)
 have o4:aJ X4 (h.next+4) 2 (fC ⟨0,1⟩):=by rw[ui,tY,tX,tW];repeat (first|exact aJ.putAt _ _ _ _|refine bX ?_ om)
 have o6:aJ X4 (h.next+6) 1 (([1]:List Int).flatMap nC):=by rw[ui,tY,tX,tW];repeat (first|exact aJ.putAt _ _ _ _|refine bX ?_ om)
 have o7:aJ X4 (h.next+7) 1 [.slice (some ⟨h.next+6,0,none⟩) 1 1]:=by rw[ui,tY,tX,tW];repeat (first|exact aJ.putAt _ _ _ _|refine bX ?_ om)
 have o9:aJ X4 (h.next+9) 1 (([1]:List Int).flatMap nC):=by rw[ui,tY,tX,tW];repeat (first|exact aJ.putAt _ _ _ _|refine bX ?_ om)
 have o10:aJ X4 (h.next+10) 1 (([1,2]:List Int).flatMap nC):=by rw[ui,tY,tX,tW];repeat (first|exact aJ.putAt _ _ _ _|refine bX ?_ om)
 have o11:aJ X4 (h.next+11) 1 [.slice (some ⟨h.next+9,0,none⟩) 1 1,.slice (some ⟨h.next+10,0,none⟩) 2 2]:=by rw[ui,tY,tX,tW];repeat (first|exact aJ.putAt _ _ _ _|refine bX ?_ om)
 have o14:aJ X4 (h.next+14) 2 (fC ⟨0,1⟩++fC ⟨0,1⟩):=by rw[ui,tY,tX,tW];repeat (first|exact aJ.putAt _ _ _ _|refine bX ?_ om)
 have o16:aJ X4 (h.next+16) 1 (([10]:List Int).flatMap nC):=by rw[ui,tY,tX,tW];repeat (first|exact aJ.putAt _ _ _ _|refine bX ?_ om)
 have o17:aJ X4 (h.next+17) 1 [.slice (some ⟨h.next+16,0,none⟩) 1 1]:=by rw[ui,tY,tX,tW];repeat (first|exact aJ.putAt _ _ _ _|refine bX ?_ om)
 have o19:aJ X4 (h.next+19) 2 (fC ⟨0,1⟩):=by rw[ui,tY,tX,tW];repeat (first|exact aJ.putAt _ _ _ _|refine bX ?_ om)
 have o21:aJ X4 (h.next+21) 1 (([1]:List Int).flatMap nC):=by rw[ui,tY,tX,tW];repeat (first|exact aJ.putAt _ _ _ _|refine bX ?_ om)
 have o22:aJ X4 (h.next+22) 1 [.slice (some ⟨h.next+21,0,none⟩) 1 1]:=by rw[ui,tY,tX,tW];repeat (first|exact aJ.putAt _ _ _ _|refine bX ?_ om)
 have o23:aJ X4 (h.next+23) 1 (([1]:List Int).flatMap nC):=by rw[ui,tY,tX,tW];repeat (first|exact aJ.putAt _ _ _ _|refine bX ?_ om)
 have o24:aJ X4 (h.next+24) 1 [.slice (some ⟨h.next+23,0,none⟩) 1 1]:=by rw[ui,tY,tX,tW];repeat (first|exact aJ.putAt _ _ _ _|refine bX ?_ om)
 have o25:aJ X4 (h.next+25) 1 (([1]:List Int).flatMap nC):=by rw[ui,tY,tX,tW];repeat (first|exact aJ.putAt _ _ _ _|refine bX ?_ om)
 have o26:aJ X4 (h.next+26) 1 [.slice (some ⟨h.next+25,0,none⟩) 1 1]:=by rw[ui,tY,tX,tW];repeat (first|exact aJ.putAt _ _ _ _|refine bX ?_ om)
 have o27:aJ X4 (h.next+27) 1 (([1]:List Int).flatMap nC):=by rw[ui,tY,tX,tW];repeat (first|exact aJ.putAt _ _ _ _|refine bX ?_ om)
 have o28:aJ X4 (h.next+28) 1 [.slice (some ⟨h.next+27,0,none⟩) 1 1]:=by rw[ui,tY,tX,tW];repeat (first|exact aJ.putAt _ _ _ _|refine bX ?_ om)
 have o30:aJ X4 (h.next+30) 2 (fC ⟨2,4⟩):=by rw[ui,tY,tX,tW];repeat (first|exact aJ.putAt _ _ _ _|refine bX ?_ om)
 have o33:aJ X4 (h.next+33) 2 (fC ⟨1,61⟩):=by rw[ui,tY,tX,tW];repeat (first|exact aJ.putAt _ _ _ _|refine bX ?_ om)
 have o36:aJ X4 (h.next+36) 2 (fC ⟨1,1⟩):=by rw[ui,tY,tX,tW];repeat (first|exact aJ.putAt _ _ _ _|refine bX ?_ om)
 have o39:aJ X4 (h.next+39) 2 (fC ⟨-1,2⟩):=by rw[ui,tY,tX,tW];repeat (first|exact aJ.putAt _ _ _ _|refine bX ?_ om)
 obtain⟨bl,ebl⟩:∃z:List Ph,z=[⟨none,0,0,none,0,0⟩,⟨some ⟨h.next+2,0,none⟩,1,1,some ⟨h.next+4,0,none⟩,1,1⟩,⟨some ⟨h.next+7,0,none⟩,1,1,none,0,0⟩,⟨some ⟨h.next+11,0,none⟩,2,2,some ⟨h.next+14,0,none⟩,2,2⟩,⟨some ⟨h.next+17,0,none⟩,1,1,some ⟨h.next+19,0,none⟩,1,1⟩,⟨some ⟨h.next+22,0,none⟩,1,1,some ⟨h.next+33,0,none⟩,1,1⟩,⟨some ⟨h.next+24,0,none⟩,1,1,some ⟨h.next+36,0,none⟩,1,1⟩,⟨some ⟨h.next+26,0,none⟩,1,1,some ⟨h.next+39,0,none⟩,1,1⟩,⟨some ⟨h.next+28,0,none⟩,1,1,some ⟨h.next+30,0,none⟩,1,1⟩]:=⟨_,rfl⟩;have o41:aJ X4 (h.next+41) 2 (bl.flatMap Ph.cells):=by rw[ebl,ui];exact aJ.putAt _ _ _ _
 have n4:X4.next=h.next+43:=by rw[ui,tY,tX,tW];rfl
 have e41:=aJ.rows o41 U7 om om;rw[show bl.length=9 by rw[ebl];rfl]at e41;have x4:Ext h X4:=by
  rw[ui,tY,tX,tW];repeat (first|exact .aH _ _|refine wI ?_ om)
 refine Ru hA hI (x4.az aq) e41 (fun j hj=>?_) (fun h5 x5=>?_) 9 0 0 X4 om om rfl (.refl X4)
 ·rw[ebl]
  have i0:i64 0/\i64 1:=by unfold i64;omega
  have cs:j=0\/j=1\/j=2\/j=3\/j=4\/j=5\/j=6\/j=7\/j=8:=om
  rcases cs with rfl|rfl|rfl|rfl|rfl|rfl|rfl|rfl|rfl
  ·exact⟨[],[],[],⟨Rows.nil _ fF om,rfl,fun y y0 y1=>absurd y1 (by show ¬y<0;omega)⟩,Rows.nil _ sj om,fun i i0 i1=>absurd i1 (by show ¬i<0;omega),aa3⟩
  ·exact⟨_,_,_,(zB o1 om o2 om rfl).oW,OW o4 om,jz i0,aa4⟩
  ·exact⟨_,_,_,(zB o6 om o7 om rfl).oW,Rows.nil _ sj om,fun i i0 i1=>absurd i1 (by show ¬i<0;omega),aa5⟩
  ·exact⟨_,_,_,(Rt o9 om o10 om o11 om rfl rfl).oW,V6 o14 om,qC i0 i0,aa6⟩
  ·exact⟨_,_,_,(zB o16 om o17 om rfl).oW,OW o19 om,jz i0,aa7⟩
  ·exact⟨_,_,_,(zB o21 om o22 om rfl).oW,OW o33 om,jz (by show i64 1/\i64 61;unfold i64;omega),aa8⟩
  ·exact⟨_,_,_,(zB o23 om o24 om rfl).oW,OW o36 om,jz (by show i64 1/\i64 1;unfold i64;omega),aa9⟩
  ·exact⟨_,_,_,(zB o25 om o26 om rfl).oW,OW o39 om,jz (by show i64 (-1)/\i64 2;unfold i64;omega),aba⟩
  ·exact⟨_,_,_,(zB o27 om o28 om rfl).oW,OW o30 om,jz (by show i64 2/\i64 4;unfold i64;omega),abb⟩
 have l5:=x5.az (x4.az aq);have y5:=x4.trans x5;refine zq ?_;refine⟨LM hA om om om,?_⟩;refine zq ?_;refine Yx (fun X6 YD=>?_);rw[<-YD,aW hA,AF hA];rw[aV hA,Bv hA]at YD;have x6:Ext h5 X6:=by rw[YD];exact .push _ _ _
 have l6:=x6.az l5;have o6:aJ X6 h5.next 1 (([⟨none,0,0⟩,⟨none,0,0⟩,⟨none,0,0⟩,⟨none,0,0⟩,⟨none,0,0⟩]:List Hd).flatMap Hd.cells):=by rw[YD];exact aJ.push _ _ _
 have n6:h5.next<X6.next:=by rw[YD];exact Nat.lt_succ_self _
 have Lu:i64 0/\i64 1:=by unfold i64;omega
 refine lS hA l6 (aa:=some ⟨h5.next,0,none⟩) (m:=5) (g:=[[],[],[],[],[]]) ⟨aJ.rows o6 fF om n6,rfl,fun y y0 y1=>?_⟩ (Rows.nil _ sj om) (fun i i0 i1=>absurd i1 (by show ¬i<0;omega)) (fun e h7 c7 x7=>⟨_,rfl,?_⟩)
 ·have cs:y=0\/y=1\/y=2\/y=3\/y=4:=om
  rcases cs with rfl|rfl|rfl|rfl|rfl<;>exact⟨rfl,fun q=>absurd q (by decide)⟩
 obtain rfl:=abc.uniq c7;have l7:=x7.az l6;have y7:=(y5.trans x6).trans x7;refine zq ?_;refine⟨LM hA om om om,?_⟩;refine zq ?_;refine Yy (fun X8 S5=>?_);rw[<-S5];obtain⟨b0,eb0⟩:∃z,z=bZ (next h7) 0:=⟨_,rfl⟩;obtain⟨b1,eb1⟩:∃z,z=bZ (next h7) 1:=⟨_,rfl⟩;obtain⟨b3,eb3⟩:∃z,z=bZ (next h7) 3:=⟨_,rfl⟩;rw[<-eb0,<-eb1,<-eb3]at S5;rw[<-eb0,<-eb1,<-eb3];rw[cN hA,aW hA]at eb0 eb1 eb3;simp only[qE hA,kv hA,Bv hA,AF hA]at S5;have p0:aJ X8 b0 1 (([0,0,0,0,0]:List Int).flatMap nC):=by rw[S5];exact bX (bX (aJ.putAt _ _ _ _) om) om
 have p1:aJ X8 b1 1 [.slice (some ⟨b0,0,none⟩) 5 5]:=by rw[S5];exact bX (aJ.putAt _ _ _ _) om
 have p3:aJ X8 b3 2 (fC ⟨0,1⟩):=by rw[S5];exact aJ.putAt _ _ _ _
 have n8:X8.next=h7.next+7:=by rw[S5];rfl
 have x8:Ext h7 X8:=by rw[S5];exact wI (wI (wI (.aH _ _) om) om) om
 have l8:=x8.az l7;have xf:=gK hA X8;refine lS hA (aA hA X8) ((zB p0 om p1 om rfl).oW.ext xf) ((OW p3 om).ext xf) (jz Lu) (fun e h9 c9 x9=>⟨_,rfl,?_⟩);obtain rfl:=wide.uniq c9;obtain⟨X9,eX9⟩:∃z,z=aw X8 h9:=⟨_,rfl⟩;have x9':Ext h7 X9:=by rw[eX9];exact cU hA l7 x8 x9
 have l9:=x9'.az l7;have y9:=y7.trans x9';refine zq ?_;rw[<-eX9];refine zq ?_;obtain⟨Vd,Rz⟩:∃z,z=next X9:=⟨_,rfl⟩;obtain⟨Z8,OY⟩:∃z,z=push X9 1 [.int .i64 0,.int .i64 0]:=⟨_,rfl⟩;rw[<-OY,<-Rz];obtain⟨ub1,RA⟩:∃z,z=next Z8:=⟨_,rfl⟩;obtain⟨YE,K4⟩:∃z,z=push Z8 1 [.slice (some ⟨Vd,0,none⟩) 2 2]:=⟨_,rfl⟩;rw[<-K4,<-RA];obtain⟨ub2,RB⟩:∃z,z=next YE:=⟨_,rfl⟩;obtain⟨YF,HK⟩:∃z,z=push YE 2 [.int .i64 0,.int .i64 1]:=⟨_,rfl⟩;rw[<-HK,<-RB];rw[aW hA]at Rz;rw[aV hA]at OY;have nuP0:Z8.next=Vd+1:=by rw[OY,Rz];rfl
 rw[aW hA]at RA;rw[aV hA]at K4;have nuP1:YE.next=ub1+1:=by rw[K4,RA];rfl
 rw[aW hA]at RB;rw[aV hA]at HK;have nuP2:YF.next=ub2+1:=by rw[HK,RB];rfl
 have OZ:aJ Z8 Vd 1 (([0,0]:List Int).flatMap nC):=by rw[OY,Rz];exact aJ.push _ _ _
 replace OZ:aJ YE Vd 1 (([0,0]:List Int).flatMap nC):=by rw[K4];exact bV OZ om
 replace OZ:aJ YF Vd 1 (([0,0]:List Int).flatMap nC):=by rw[HK];exact bV OZ om
 have Ve:aJ YE ub1 1 [.slice (some ⟨Vd,0,none⟩) 2 2]:=by rw[K4,RA];exact aJ.push _ _ _
 replace Ve:aJ YF ub1 1 [.slice (some ⟨Vd,0,none⟩) 2 2]:=by rw[HK];exact bV Ve om
 have abg:aJ YF ub2 2 (fC ⟨0,1⟩):=by rw[HK,RB];exact aJ.push _ _ _
 have xu:Ext X9 YF:=by rw[HK,K4,OY];exact(((Ext.refl _).trans (.push _ _ _)).trans (.push _ _ _)).trans (.push _ _ _)
 have lu:=xu.az l9;have yu:=y9.trans xu;have gu:=zB OZ om Ve om rfl;have bu:=OW abg om;have Z9:dB [[0,0]] [⟨0,1⟩] 0:=zx rR;refine Av hA lu gu.oW bu (jz Lu) (fun e' h' c' ne _=>absurd (Z9.uniq c').symm ne) (fun NB n' r qa qc c' m7 x11 ir ap=>⟨_,_,_,_,rfl,?_⟩);obtain⟨_,rfl⟩:=rR.uniq m7;obtain rfl:=qB ir;have VF:=x11.az lu;have y11:=yu.trans x11;refine zq ?_;refine CJ hA hI VF (gu.oW.ext x11) (bu.ext x11) (jz Lu) (fun e' h' c' ne _=>absurd (Z9.uniq c').symm ne) (fun FY Xy n' r s ra rca rb A c' m7 x12 st gd=>⟨_,_,_,_,rfl,?_⟩);obtain⟨_,rfl⟩:=rR.uniq m7;obtain⟨rfl,rfl,a02⟩:=OQ st;have x13:=x12.trans gd.rows.ext;have QH:=x13.az VF;have y13:=y11.trans x13;have z13:=x11.trans x13;refine zq ?_;refine zA hA hI QH (gu.oW.ext z13) (bu.ext z13) (jz Lu) (fun e' h' c' ne _=>absurd (Z9.uniq c').symm ne) (fun h' n' c' m7 nr _=>?_) (fun XF n' r' c f c' m7 hR ir' ec ef x14=>⟨_,_,_,rfl,?_⟩)
 ·obtain⟨_,rfl⟩:=rR.uniq m7
  exact absurd (rk rR) nr
 obtain⟨_,rfl⟩:=rR.uniq m7;obtain rfl:=qB ir';rw[Ext.Cs]at ec;obtain rfl:c=1:=om
 obtain rfl:f=2:=om
 have SG:=x14.az QH;have y14:=y13.trans x14;have z14:=z13.trans x14;refine zq ?_;refine zC hA hI SG (gu.oW.ext z14) (bu.ext z14) (jz Lu) (fun e' h' c' ne _=>absurd (Z9.uniq c').symm ne) (fun e VM n' c' m7 ae x15=>⟨_,_,_,_,rfl,?_⟩) (fun hs h' n' N c a hd L c' m7 ag _ _=>?_)
 rotate_left
 ·obtain⟨_,rfl⟩:=rR.uniq m7
  exact absurd (FA (.inl ⟨rfl,ag⟩)) (by decide)
 obtain⟨_,rfl⟩:=rR.uniq m7;obtain rfl:=FA (L:=[]) (.inr ae);have SH:=x15.az SG;have y15:=y14.trans x15;refine zq ?_;obtain⟨Vf,RC⟩:∃z,z=next VM:=⟨_,rfl⟩;obtain⟨vP0,K5⟩:∃z,z=push VM 1 [.int .i64 0]:=⟨_,rfl⟩;rw[<-K5,<-RC];obtain⟨vb1,RD⟩:∃z,z=next vP0:=⟨_,rfl⟩;obtain⟨YG,HL⟩:∃z,z=push vP0 1 [.slice (some ⟨Vf,0,none⟩) 1 1]:=⟨_,rfl⟩;rw[<-HL,<-RD];refine mP hA (by rw[HL,aV hA,K5,aV hA];exact(((Ext.refl _).trans (.push _ _ _)).trans (.push _ _ _)).az SH) ⟨_,_,rfl,?_⟩;refine zq ?_;obtain⟨vb2,RE⟩:∃z,z=next YG:=⟨_,rfl⟩;obtain⟨YH,HM⟩:∃z,z=push YG 2 [.int .i64 1,.int .i64 2]:=⟨_,rfl⟩;rw[<-HM,<-RE];rw[aW hA]at RC;rw[aV hA]at K5;have nvP0:vP0.next=Vf+1:=by rw[K5,RC];rfl
 rw[aW hA]at RD;rw[aV hA]at HL;have nvP1:YG.next=vb1+1:=by rw[HL,RD];rfl
 rw[aW hA]at RE;rw[aV hA]at HM;have nvP2:YH.next=vb2+1:=by rw[HM,RE];rfl
 have O0:aJ vP0 Vf 1 (([0]:List Int).flatMap nC):=by rw[K5,RC];exact aJ.push _ _ _
 replace O0:aJ YG Vf 1 (([0]:List Int).flatMap nC):=by rw[HL];exact bV O0 om
 replace O0:aJ YH Vf 1 (([0]:List Int).flatMap nC):=by rw[HM];exact bV O0 om
 have Vg:aJ YG vb1 1 [.slice (some ⟨Vf,0,none⟩) 1 1]:=by rw[HL,RD];exact aJ.push _ _ _
 replace Vg:aJ YH vb1 1 [.slice (some ⟨Vf,0,none⟩) 1 1]:=by rw[HM];exact bV Vg om
 have abh:aJ YH vb2 2 (fC ⟨1,2⟩):=by rw[HM,RE];exact aJ.push _ _ _
 have xv:Ext VM YH:=by rw[HM,HL,K5];exact(((Ext.refl _).trans (.push _ _ _)).trans (.push _ _ _)).trans (.push _ _ _)
 have lv:=xv.az SH;have yv:=y15.trans xv;have gv:=zB O0 om Vg om rfl;have bv:=OW abh om;have FY:i64 1/\i64 2:=by unfold i64;omega
 refine zA hA hI lv gv.oW bv (jz FY) (fun e' h' c' ne _=>absurd (Fx.uniq c').symm ne) (fun QJ n' c' m7 nr x16=>⟨_,_,_,rfl,?_⟩) (fun h' n' r' c f c' m7 hR _ _ _ _=>?_)
 rotate_left
 ·obtain⟨_,rfl⟩:=Jk.uniq m7
  exact absurd hR tV
 have XG:=x16.az lv;have y16:=yv.trans x16;refine zq ?_;obtain⟨Vh,RF⟩:∃z,z=next QJ:=⟨_,rfl⟩;obtain⟨wP0,K6⟩:∃z,z=push QJ 1 [.int .i64 0]:=⟨_,rfl⟩;rw[<-K6,<-RF];obtain⟨wb1,RG⟩:∃z,z=next wP0:=⟨_,rfl⟩;obtain⟨YI,HN⟩:∃z,z=push wP0 1 [.slice (some ⟨Vh,0,none⟩) 1 1]:=⟨_,rfl⟩;rw[<-HN,<-RG];refine mP hA (by rw[HN,aV hA,K6,aV hA];exact(((Ext.refl _).trans (.push _ _ _)).trans (.push _ _ _)).az XG) ⟨_,_,rfl,?_⟩;refine zq ?_;obtain⟨wb2,RH⟩:∃z,z=next YI:=⟨_,rfl⟩;obtain⟨YJ,HO⟩:∃z,z=push YI 2 [.int .i64 1,.int .i64 2]:=⟨_,rfl⟩;rw[<-HO,<-RH];rw[aW hA]at RF;rw[aV hA]at K6;have nwP0:wP0.next=Vh+1:=by rw[K6,RF];rfl
 rw[aW hA]at RG;rw[aV hA]at HN;have nwP1:YI.next=wb1+1:=by rw[HN,RG];rfl
 rw[aW hA]at RH;rw[aV hA]at HO;have nwP2:YJ.next=wb2+1:=by rw[HO,RH];rfl
 have O4:aJ wP0 Vh 1 (([0]:List Int).flatMap nC):=by rw[K6,RF];exact aJ.push _ _ _
 replace O4:aJ YI Vh 1 (([0]:List Int).flatMap nC):=by rw[HN];exact bV O4 om
 replace O4:aJ YJ Vh 1 (([0]:List Int).flatMap nC):=by rw[HO];exact bV O4 om
 have Vi:aJ YI wb1 1 [.slice (some ⟨Vh,0,none⟩) 1 1]:=by rw[HN,RG];exact aJ.push _ _ _
 replace Vi:aJ YJ wb1 1 [.slice (some ⟨Vh,0,none⟩) 1 1]:=by rw[HO];exact bV Vi om
 have abi:aJ YJ wb2 2 (fC ⟨1,2⟩):=by rw[HO,RH];exact aJ.push _ _ _
 have xw:Ext QJ YJ:=by rw[HO,HN,K6];exact(((Ext.refl _).trans (.push _ _ _)).trans (.push _ _ _)).trans (.push _ _ _)
 have lw:=xw.az XG;have yw:=y16.trans xw;have gw:=zB O4 om Vi om rfl;have bw:=OW abi om;refine zC hA hI lw gw.oW bw (jz FY) (fun e' h' c' ne _=>absurd (Fx.uniq c').symm ne) (fun e Lo n' c' m7 ae x17=>⟨_,_,_,_,rfl,?_⟩) (fun hs h' n' N c a hd L c' m7 ag _ _=>?_)
 rotate_left
 ·obtain⟨_,rfl⟩:=Jk.uniq m7
  exact absurd ag.rel tV
 obtain⟨_,rfl⟩:=Jk.uniq m7;obtain rfl:=OP (L:=[]) (.inr ae);have PC:=x17.az lw;have y17:=yw.trans x17;refine zq ?_;obtain⟨S6,RJ⟩:∃z,z=next Lo:=⟨_,rfl⟩;obtain⟨sP0,O5⟩:∃z,z=push Lo 1 [.int .i64 9,.int .i64 0]:=⟨_,rfl⟩;rw[<-O5,<-RJ];obtain⟨Vj,RK⟩:∃z,z=next sP0:=⟨_,rfl⟩;obtain⟨YK,K7⟩:∃z,z=push sP0 1 [.int .i64 0,.int .i64 9]:=⟨_,rfl⟩;rw[<-K7,<-RK];obtain⟨sb2,RL⟩:∃z,z=next YK:=⟨_,rfl⟩;obtain⟨V8,HP⟩:∃z,z=push YK 1 [.slice (some ⟨S6,0,none⟩) 2 2,.slice (some ⟨Vj,0,none⟩) 2 2]:=⟨_,rfl⟩;rw[<-HP,<-RL];obtain⟨sb3,RM⟩:∃z,z=next V8:=⟨_,rfl⟩;obtain⟨V9,FE⟩:∃z,z=push V8 2 [.int .i64 0,.int .i64 1,.int .i64 0,.int .i64 1]:=⟨_,rfl⟩;rw[<-FE,<-RM];rw[aW hA]at RJ;rw[aV hA]at O5;have nsP0:sP0.next=S6+1:=by rw[O5,RJ];rfl
 rw[aW hA]at RK;rw[aV hA]at K7;have nsP1:YK.next=Vj+1:=by rw[K7,RK];rfl
 rw[aW hA]at RL;rw[aV hA]at HP;have nsP2:V8.next=sb2+1:=by rw[HP,RL];rfl
 rw[aW hA]at RM;rw[aV hA]at FE;have nsP3:V9.next=sb3+1:=by rw[FE,RM];rfl
 have HQ:aJ sP0 S6 1 (([9,0]:List Int).flatMap nC):=by rw[O5,RJ];exact aJ.push _ _ _
 replace HQ:aJ YK S6 1 (([9,0]:List Int).flatMap nC):=by rw[K7];exact bV HQ om
 replace HQ:aJ V8 S6 1 (([9,0]:List Int).flatMap nC):=by rw[HP];exact bV HQ om
 replace HQ:aJ V9 S6 1 (([9,0]:List Int).flatMap nC):=by rw[FE];exact bV HQ om
 have O6:aJ YK Vj 1 (([0,9]:List Int).flatMap nC):=by rw[K7,RK];exact aJ.push _ _ _
 replace O6:aJ V8 Vj 1 (([0,9]:List Int).flatMap nC):=by rw[HP];exact bV O6 om
 replace O6:aJ V9 Vj 1 (([0,9]:List Int).flatMap nC):=by rw[FE];exact bV O6 om
 have Vk:aJ V8 sb2 1 [.slice (some ⟨S6,0,none⟩) 2 2,.slice (some ⟨Vj,0,none⟩) 2 2]:=by rw[HP,RL];exact aJ.push _ _ _
 replace Vk:aJ V9 sb2 1 [.slice (some ⟨S6,0,none⟩) 2 2,.slice (some ⟨Vj,0,none⟩) 2 2]:=by rw[FE];exact bV Vk om
 have abj:aJ V9 sb3 2 (fC ⟨0,1⟩++fC ⟨0,1⟩):=by rw[FE,RM];exact aJ.push _ _ _
 have xs:Ext Lo V9:=by rw[FE,HP,K7,O5];exact((((Ext.refl _).trans (.push _ _ _)).trans (.push _ _ _)).trans (.push _ _ _)).trans (.push _ _ _)
 have ls:=xs.az PC;have ys:=y17.trans xs;have gs:=Rt HQ om O6 om Vk om rfl rfl;have bs:=V6 abj om;have cks:dB [[9,0],[0,9]] [⟨0,1⟩,⟨0,1⟩] 0:=zx Jl;refine zC hA hI ls gs.oW bs (qC Lu Lu) (fun e' h' c' ne _=>absurd (cks.uniq c').symm ne) (fun e h18 n' c' m7 ae x18=>⟨_,_,_,_,rfl,?_⟩) (fun hs h' n' N c a hd L c' m7 ag _ _=>?_)
 rotate_left
 ·obtain⟨_,rfl⟩:=Jl.uniq m7
  exact absurd (Fz (.inl ⟨rfl,ag⟩)) (by decide)
 obtain⟨_,rfl⟩:=Jl.uniq m7;obtain rfl:=Fz (L:=[]) (.inr ae);have l18:=x18.az ls;have y18:=ys.trans x18;refine zq ?_;obtain⟨S7,RN⟩:∃z,z=next h18:=⟨_,rfl⟩;obtain⟨kP0,O7⟩:∃z,z=push h18 1 [.int .i64 8,.int .i64 0]:=⟨_,rfl⟩;rw[<-O7,<-RN];obtain⟨Vl,RO⟩:∃z,z=next kP0:=⟨_,rfl⟩;obtain⟨YL,K8⟩:∃z,z=push kP0 1 [.int .i64 0,.int .i64 8]:=⟨_,rfl⟩;rw[<-K8,<-RO];obtain⟨kb2,RP⟩:∃z,z=next YL:=⟨_,rfl⟩;obtain⟨Wa,HS⟩:∃z,z=push YL 1 [.slice (some ⟨S7,0,none⟩) 2 2,.slice (some ⟨Vl,0,none⟩) 2 2]:=⟨_,rfl⟩;rw[<-HS,<-RP];obtain⟨kb3,RQ⟩:∃z,z=next Wa:=⟨_,rfl⟩;obtain⟨Wb,FF⟩:∃z,z=push Wa 2 [.int .i64 0,.int .i64 1,.int .i64 0,.int .i64 1]:=⟨_,rfl⟩;rw[<-FF,<-RQ];rw[aW hA]at RN;rw[aV hA]at O7;have nkP0:kP0.next=S7+1:=by rw[O7,RN];rfl
 rw[aW hA]at RO;rw[aV hA]at K8;have nkP1:YL.next=Vl+1:=by rw[K8,RO];rfl
 rw[aW hA]at RP;rw[aV hA]at HS;have nkP2:Wa.next=kb2+1:=by rw[HS,RP];rfl
 rw[aW hA]at RQ;rw[aV hA]at FF;have nkP3:Wb.next=kb3+1:=by rw[FF,RQ];rfl
 have HT:aJ kP0 S7 1 (([8,0]:List Int).flatMap nC):=by rw[O7,RN];exact aJ.push _ _ _
 replace HT:aJ YL S7 1 (([8,0]:List Int).flatMap nC):=by rw[K8];exact bV HT om
 replace HT:aJ Wa S7 1 (([8,0]:List Int).flatMap nC):=by rw[HS];exact bV HT om
 replace HT:aJ Wb S7 1 (([8,0]:List Int).flatMap nC):=by rw[FF];exact bV HT om
 have O8:aJ YL Vl 1 (([0,8]:List Int).flatMap nC):=by rw[K8,RO];exact aJ.push _ _ _
 replace O8:aJ Wa Vl 1 (([0,8]:List Int).flatMap nC):=by rw[HS];exact bV O8 om
 replace O8:aJ Wb Vl 1 (([0,8]:List Int).flatMap nC):=by rw[FF];exact bV O8 om
 have Vm:aJ Wa kb2 1 [.slice (some ⟨S7,0,none⟩) 2 2,.slice (some ⟨Vl,0,none⟩) 2 2]:=by rw[HS,RP];exact aJ.push _ _ _
 replace Vm:aJ Wb kb2 1 [.slice (some ⟨S7,0,none⟩) 2 2,.slice (some ⟨Vl,0,none⟩) 2 2]:=by rw[FF];exact bV Vm om
 have abk:aJ Wb kb3 2 (fC ⟨0,1⟩++fC ⟨0,1⟩):=by rw[FF,RQ];exact aJ.push _ _ _
 have xk:Ext h18 Wb:=by rw[FF,HS,K8,O7];exact((((Ext.refl _).trans (.push _ _ _)).trans (.push _ _ _)).trans (.push _ _ _)).trans (.push _ _ _)
 have lk:=xk.az l18;have yk:=y18.trans xk;have gk:=Rt HT om O8 om Vm om rfl rfl;have bk:=V6 abk om;have ckk:dB [[8,0],[0,8]] [⟨0,1⟩,⟨0,1⟩] 0:=zx C4;refine zC hA hI lk gk.oW bk (qC Lu Lu) (fun e' h' c' ne _=>absurd (ckk.uniq c').symm ne) (fun e h' n' c' m7 ae _=>?_) (fun hs h19 n' N c a hd L c' m7 ag xs9 L1=>⟨_,_,_,_,rfl,?_⟩)
 ·obtain⟨_,rfl⟩:=C4.uniq m7
  exact(KW ae).elim
 obtain⟨_,rfl⟩:=C4.uniq m7;have x19:=xs9.trans L1.ext;have l19:=x19.az lk;have y19:=yk.trans x19;obtain rfl:N=64:=by have h1:=L1.gr.len;have h2:=ag.len;rw[uZ]at h2;omega
 refine zq ?_;refine C5 hA l19 (fun Ah Ab Af Ahd Ag AB Ax=>⟨_,_,_,_,_,_,rfl,?_⟩);have Al:=Ax.az l19;have Ay:=y19.trans Ax;refine zq ?_;refine mP hA Al ⟨_,_,rfl,?_⟩;refine zq ?_;obtain⟨Ac,eAc⟩:∃z,z=next Ah:=⟨_,rfl⟩;obtain⟨AP,YM⟩:∃z,z=push Ah 2 [.int .i64 1,.int .i64 4]:=⟨_,rfl⟩;rw[<-YM,<-eAc];rw[aW hA]at eAc;rw[aV hA]at YM;have YN:Ext Ah AP:=by rw[YM];exact .push _ _ _
 have Ao:aJ AP Ac 2 (fC ⟨1,4⟩):=by rw[YM,eAc];exact aJ.push _ _ _
 have An:Ac<AP.next:=by rw[YM,eAc];exact Nat.lt_succ_self _
 have AlP:=YN.az Al;refine u5 hA AlP zz Jm (Ag.ext YN) (AB.ext YN) (qC Lu FY) (OW Ao An) (jz (show i64 1/\i64 4 by unfold i64;omega)) (fun q _=>absurd q (by decide)) (fun b Ah2 hb Ax2=>⟨_,_,rfl,?_⟩);obtain rfl:b=false:=by cases b with|false=>rfl|true=>exact absurd (hb.1 rfl) U5
 have XN:=Ax2.az AlP;have y20:=Ay.trans (YN.trans Ax2);refine zq ?_;refine C5 hA XN (fun Ch Cb Cf Chd Cg CB Cx=>⟨_,_,_,_,_,_,rfl,?_⟩);have Cl:=Cx.az XN;have Cy:=y20.trans Cx;refine zq ?_;refine mP hA Cl ⟨_,_,rfl,?_⟩;refine zq ?_;refine mP hA Cl ⟨_,_,rfl,?_⟩;refine zq ?_;obtain⟨Cc,eCc⟩:∃z,z=next Ch:=⟨_,rfl⟩;obtain⟨CP,YO⟩:∃z,z=push Ch 2 [.int .i64 3,.int .i64 4,.int .i64 1,.int .i64 4]:=⟨_,rfl⟩;rw[<-YO,<-eCc];rw[aW hA]at eCc;rw[aV hA]at YO;have YP:Ext Ch CP:=by rw[YO];exact .push _ _ _
 have Co:aJ CP Cc 2 (fC ⟨3,4⟩++fC ⟨1,4⟩):=by rw[YO,eCc];exact aJ.push _ _ _
 have Cn:Cc<CP.next:=by rw[YO,eCc];exact Nat.lt_succ_self _
 have ClP:=YP.az Cl;refine u5 hA ClP zz Jm (Cg.ext YP) (CB.ext YP) (qC Lu FY) (V6 Co Cn) (qC (show i64 3/\i64 4 by unfold i64;omega) (show i64 1/\i64 4 by unfold i64;omega)) (fun _ _=>⟨4,_,Jo⟩) (fun b Ch2 hb Cx2=>⟨_,_,rfl,?_⟩);obtain rfl:b=true:=hb.2 Rn;have l21:=Cx2.az ClP;have y21:=Cy.trans (YP.trans Cx2);refine zq ?_;refine C5 hA l21 (fun Dh Db Df Dhd Dg DB Dx=>⟨_,_,_,_,_,_,rfl,?_⟩);have Dl:=Dx.az l21;have Dy:=y21.trans Dx;refine zq ?_;refine mP hA Dl ⟨_,_,rfl,?_⟩;refine zq ?_;refine mP hA Dl ⟨_,_,rfl,?_⟩;refine zq ?_;obtain⟨Dc,eDc⟩:∃z,z=next Dh:=⟨_,rfl⟩;obtain⟨DP,YQ⟩:∃z,z=push Dh 2 [.int .i64 7,.int .i64 4,.int .i64 1,.int .i64 4]:=⟨_,rfl⟩;rw[<-YQ,<-eDc];rw[aW hA]at eDc;rw[aV hA]at YQ;have YR:Ext Dh DP:=by rw[YQ];exact .push _ _ _
 have Do:aJ DP Dc 2 (fC ⟨7,4⟩++fC ⟨1,4⟩):=by rw[YQ,eDc];exact aJ.push _ _ _
 have Dn:Dc<DP.next:=by rw[YQ,eDc];exact Nat.lt_succ_self _
 have DlP:=YR.az Dl;refine u5 hA DlP zz Jm (Dg.ext YR) (DB.ext YR) (qC Lu FY) (V6 Do Dn) (qC (show i64 7/\i64 4 by unfold i64;omega) (show i64 1/\i64 4 by unfold i64;omega)) (fun _ q=>absurd (q 0 (by decide)) Jp) (fun b Dh2 hb Dx2=>⟨_,_,rfl,?_⟩);obtain rfl:b=false:=by cases b with|false=>rfl|true=>exact absurd (hb.1 rfl) Rp
 have l22:=Dx2.az DlP;have y22:=Dy.trans (YR.trans Dx2);refine zq ?_;refine hA.M4 (hF _) ⟨_,rfl,?_⟩;have c4:cmp .eql (4:Int) 4=true:=by rw[dg hA];rfl
 have c0:cmp .eql (0:Int) 0=true:=by rw[dg hA];rfl
 have c1:cmp .eql (1:Int) 1=true:=by rw[dg hA];rfl
 have c2:cmp .eql (2:Int) 2=true:=by rw[dg hA];rfl
 have c6:cmp .eql (6:Int) 6=true:=by rw[dg hA];rfl
 have c24:cmp .eql (24:Int) 24=true:=by rw[dg hA];rfl
 have c64:cmp .eql (64:Int) 64=true:=by rw[dg hA];rfl
 have n0:ofNat 0=0:=aR hA 0;have n64:ofNat 64=64:=aR hA 64;have bf:fP false=true:=by rw[df hA];rfl
 (refine zq ?_;repeat ((first|rw[c4]|rw[c0]|rw[c1]|rw[c2]|rw[c6]|rw[c24]|rw[n0]);refine zq ?_))
 obtain⟨d0,ed0⟩:∃z,z=next Dh2:=⟨_,rfl⟩;obtain⟨E0,YS⟩:∃z,z=push Dh2 1 [.int .i64 1]:=⟨_,rfl⟩;rw[<-YS,<-ed0];obtain⟨d1,ed1⟩:∃z,z=next E0:=⟨_,rfl⟩;obtain⟨E1,Wc⟩:∃z,z=push E0 1 [.slice (some ⟨d0,0,none⟩) 1 1]:=⟨_,rfl⟩;rw[<-Wc,<-ed1];rw[aW hA]at ed0 ed1;rw[aV hA]at YS Wc;have nE0:E0.next=d0+1:=by rw[YS,ed0];rfl
 have nE1:E1.next=d1+1:=by rw[Wc,ed1];rfl
 have wd0:aJ E1 d0 1 (([1]:List Int).flatMap nC):=by rw[Wc];exact bV (by rw[YS,ed0];exact aJ.push _ _ _) om
 have wd1:aJ E1 d1 1 (([⟨some ⟨d0,0,none⟩,1,1⟩]:List Hd).flatMap Hd.cells):=by rw[Wc,ed1];exact aJ.push _ _ _
 have xE:Ext Dh2 E1:=by rw[Wc,YS];exact((Ext.refl _).trans (.push _ _ _)).trans (.push _ _ _)
 have lE:=xE.az l22;have yE:=y22.trans xE;have ND:Ext Xy E1:=(x14.trans (x15.trans (xv.trans (x16.trans (xw.trans (x17.trans (xs.trans (x18.trans (xk.trans (x19.trans (Ax.trans (YN.trans (Ax2.trans (Cx.trans (YP.trans (Cx2.trans (Dx.trans (YR.trans (Dx2))))))))))))))))))).trans xE;have ra1:Rows Hd.cells 1 E1 ra 1 [⟨some ⟨rb 0,0,none⟩,1,au 1 1⟩]:=⟨gd.o8.cells.ext ND,fF,om⟩;have rw1:=gd.rows.jB (y:=0) om;have er:kM (fun j=>A (0+0) (2+j)) 1=[1]:=by show [A 0 2]=[1];rw[a02]
 have rw2:Rows nC 1 E1 (some ⟨rb 0,0,none⟩) 1 [1]:=by
  have:=rw1.ext ND;rw[er]at this;exact this
 refine U9 hA lE ra1 (aJ.rows wd1 fF om om) rw2 (aJ.rows wd0 fv om om) om (fun h23 x23=>⟨_,rfl,?_⟩);have y23:=yE.trans x23
 (refine zq ?_;repeat ((first|rw[c4]|rw[c0]|rw[c1]|rw[c2]|rw[c6]|rw[c24]|rw[n0]|rw[n64]|rw[c64]|rw[bf]);refine zq ?_))
 exact hQ h23 y23
