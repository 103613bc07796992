import Derived.Test.YtdpbiegfljmhmaaSlBp
import Derived.Test.YtdpbiegfljmhmaaAcB
set_option linter.unusedSimpArgs false
set_option linter.unusedVariables false
namespace Go.Proofs.Ytdpbiegfljmhmaa
open Go.cL
set_option maxRecDepth 100000
theorem aE.next{α:Type}[Inhabited α]{le:α->α->Prop}(hp:Lh le){L:List α}{a i:Int}(h:aE le L a i)(ai:a<i)(w:le (gt L (i-1)) (gt L i)):aE le L a (i+1):=by
 intro p q p0 pq q1;by_cases e:q=i
 ·rw[e]
  by_cases e2:p=i-1
  ·rw[e2];exact w
  ·exact hp.trans _ _ _ (h p (i-1) p0 om om) w
 ·exact h p q p0 pq om
theorem aE.less{α:Type}[Inhabited α]{le:α->α->Prop}{L:List α}{a b a' b':Int}(h:aE le L a b)(ha:a<=a')(hb:b'<=b):aE le L a' b':=fun p q p0 pq q1=>h p q om pq om
theorem aE.same{α:Type}[Inhabited α]{le:α->α->Prop}{L M:List α}{a b:Int}(h:aE le L a b)(e:∀k:Int,a<=k->k<b->gt M k=gt L k):aE le M a b:=fun p q p0 pq q1=>by rw[e p p0 om,e q om q1];exact h p q p0 pq q1
def tP(L:List LE)(A B:Int):Prop:=A=0\/∀k:Int,A<=k->k<B->gJ (gt L (A-1)) (gt L k)
theorem tP.perm{L M:List LE}{A B:Int}(a0:0<=A)(h:tP L A B)(k:aG A B L M):tP M A B:=by
 rcases h with h|h
 ·exact .inl h
 ·by_cases c:A=0
  ·exact .inl c
  ·refine .inr (fun j j0 j1=>?_)
   rw[k.out (A-1) om om];exact k.all (fun x=>gJ (gt L (A-1)) x) h j j0 j1
theorem wN.over{L:List LE}{A B a b:Int}(h:wN gJ L A B a b)(o:tP L A B):tP L a b:=by
 have r0:=h.r0;have r2:=h.r2;by_cases e:a=A
 ·subst e
  rcases o with o|o
  ·exact .inl o
  ·exact .inr (fun k k0 k1=>o k k0 om)
 ·exact .inr (fun k k0 k1=>h.c1 (a-1) k om om k0 om)
def oE(h:af)(b:Nat):af:=⟨b,Nat.min h.low b,h.m⟩
theorem HG{h:af}{b:Nat}(hb:b<=h.next)(hl:h.low<=h.next):Ext (oE h b) h:=
 ⟨hb,fun _=>hl,by
  show Nat.min (Nat.min h.low b) b<=h.low;exact Nat.le_trans (Nat.min_le_left _ _) (Nat.min_le_left _ _),fun i hi=>rfl⟩
theorem KS{h0 h:af}{b:Nat}(e:Ext h0 h)(hb:h0.next<=b):Ext h0 (oE h b):=
 ⟨hb,fun _=>Nat.min_le_right _ _,Nat.le_min.2 ⟨e.vK,Nat.le_trans (Nat.min_le_right _ _) hb⟩,fun i hi=>e.get i hi⟩
theorem Rows.below{α:Type}{enc:α->List Value}{es:Nat}{h:af}{a:Option Addr}{n b:Nat}{l:List α}(p:Rows enc es h a n l)(hb:∀ad,a=some ad->ad.block<b):Rows enc es (oE h b) a n l:=by
 refine⟨?_,p.each,p.pos⟩;cases a with
 |none=>exact p.cells
 |some ad=>
  obtain⟨h1,h2,h3⟩:=p.cells;exact⟨h1,hb ad rfl,h3⟩
def CY(hd:List Hd)(g:List (List Int)):List LE:=List.zipWith LE.mk hd g
theorem Fs{hd:List Hd}{g:List (List Int)}(e:hd.length=g.length):(CY hd g).length=g.length:=by unfold CY;rw[List.length_zipWith];omega
theorem zm:∀{hd:List Hd} {g:List (List Int)},hd.length=g.length->(CY hd g).flatMap LE.cells=hd.flatMap Hd.cells
 | [],[],_=>rfl
 | [],_ :: _,h=>by simp at h
 |_ :: _,[],h=>by simp at h
 |a :: hd,r :: g,h=>by
  show LE.cells ⟨a,r⟩++(CY hd g).flatMap LE.cells=Hd.cells a++hd.flatMap Hd.cells;rw[zm (by simpa using h)];rfl
theorem zn:∀{hd:List Hd} {g:List (List Int)},hd.length=g.length->(CY hd g).map (·.row)=g
 | [],[],_=>rfl
 | [],_ :: _,h=>by simp at h
 |_ :: _,[],h=>by simp at h
 |a :: hd,r :: g,h=>by
  show r :: (CY hd g).map (·.row)=r :: g;rw[zn (by simpa using h)]
theorem Rf{hd:List Hd}{g:List (List Int)}(e:hd.length=g.length){i:Int}(i0:0<=i)(i1:i<g.length):gt (CY hd g) i=⟨gt hd i,gt g i⟩:=by
 unfold CY gt;rw[List.getD_eq_getElem?_getD,List.getElem?_zipWith,List.getElem?_eq_getElem om,List.getElem?_eq_getElem om,List.getD_eq_getElem?_getD,List.getD_eq_getElem?_getD,List.getElem?_eq_getElem om,List.getElem?_eq_getElem om];rfl
theorem CZ.dat{h0 h:af}{b N c:Nat}{hd:List Hd}{g:List (List Int)}(t:CZ h0 h (some ⟨b,0,none⟩) N c hd g)(hl:h.low<=h.next)(gB:N<=100000)(fr:∀y:Int,0<=y->y<N->(gt hd y).n<=100000):bB (oE h b) h b N (CY hd g):=by
 have l1:=t.s.gr.hd.len;have l2:=t.s.gr.len;have hb:=t.o8.lt _ rfl;rcases t.o8 with ⟨q,_⟩|⟨b',e,_,_,_,ho⟩
 ·cases q
 cases e;refine⟨HG (Nat.le_of_lt hb) hl,?_,Nat.le_refl _,hb,by rw[Fs om];exact l2,Nat.min_le_right _ _,fun i i0 i1=>?_,gB⟩
 ·rw[zm om];exact ho
 ·rw[Rf om i0 om]
  exact⟨(t.s.gr.row i i0 i1).below (fun ad cW=>t.Ll _ rfl i i0 i1 ad cW),fr i i0 i1⟩
theorem bB.aaW{h0 h:af}{b n:Nat}{L:List LE}(t:bB h0 h b n L):rC nC 1 h (some ⟨b,0,none⟩) n (L.map (·.hd)) (L.map (·.row)):=by
 have ln:=t.len;refine⟨?_,by rw[List.length_map];exact ln,fun y y0 y1=>?_⟩
 ·have r:Rows LE.cells 1 h (some ⟨b,0,none⟩) L.length L:=aJ.rows t.own HH om t.lt
  rw[ln]at r;refine⟨?_,fF,om⟩;rw[List.flatMap_map];exact r.cells
 ·have hy:y.toNat<L.length:=om
  have e1:gt (L.map (·.hd)) y=(gt L y).hd:=by unfold gt;rw[List.getD_eq_getElem?_getD,List.getElem?_map,List.getElem?_eq_getElem hy,List.getD_eq_getElem?_getD,List.getElem?_eq_getElem hy];rfl
  have e2:gt (L.map (·.row)) y=(gt L y).row:=by unfold gt;rw[List.getD_eq_getElem?_getD,List.getElem?_map,List.getElem?_eq_getElem hy,List.getD_eq_getElem?_getD,List.getElem?_eq_getElem hy];rfl
  rw[e1,e2];exact(t.ok y y0 y1).1.ext t.ext
theorem zo{L L':List LE}{n:Nat}(hn:L.length=n)(p:aG 0 n L L')(s:aE gJ L' 0 n)(nd:(L.map (·.row)).Nodup):(L'.map (·.row)).Perm (L.map (·.row))/\(L'.map (·.row)).Pairwise LL.lt:=by
 have hp:(L'.map (·.row)).Perm (L.map (·.row)):=by
  rw[List.perm_iff_count];intro x;have h:=p.sH (fun e=>e.row == x);unfold List.count;rw[List.countP_map,List.countP_map];exact h
 refine⟨hp,?_⟩;have nd':(L'.map (·.row)).Nodup:=hp.nodup_iff.2 nd;have hl:L'.length=n:=by rw[p.len];exact hn
 rw[List.pairwise_iff_getElem];intro i j hi hj Zi;rw[List.length_map]at hi hj;have h1:=s i j om om om;have g1:gt L' (i:Int)=L'[i]:=by unfold gt;rw[List.getD_eq_getElem?_getD,show((i:Int)).toNat=i from rfl,List.getElem?_eq_getElem hi];rfl
 have g2:gt L' (j:Int)=L'[j]:=by unfold gt;rw[List.getD_eq_getElem?_getD,show((j:Int)).toNat=j from rfl,List.getElem?_eq_getElem hj];rfl
 rw[g1,g2]at h1;rw[List.getElem_map,List.getElem_map];have h2:LL.le (L'[i]).row (L'[j]).row:=h1;refine Classical.byContradiction fun q=>?_
 have e:(L'[i]).row=(L'[j]).row:=LL.le_antisymm h2 (LL.not_lt.1 q);have h3:=(List.pairwise_iff_getElem.1 nd') i j (by rw[List.length_map];exact hi) (by rw[List.length_map];exact hj) Zi;rw[List.getElem_map,List.getElem_map]at h3;exact h3 e
theorem F8.run{h:af}{g:List (List Int)}{B:List Fc}{m n s:Nat}{A:Nat->Ext.aN}{W many size:Int}{pa qa:Option Addr}{bs:Nat->Nat}(t:F8 h g B m n s A W many size pa qa bs){d:Nat}(hd:d<=n):(Ext.nA A (gC A B W m n) size n d).length<=64:=by
 obtain⟨_,_,_,h4⟩:=Ext.uT t.KT d hd;rw[<-t.em]at h4;have h5:=qy (A:=A) (n-d) (fun i hi=>t.st.diag om);have h6:=t.m64;refine Classical.byContradiction fun q=>?_
 have:=Int.mul_le_mul (show(65:Int)<=((Ext.nA A (gC A B W m n) size n d).length:Int) by omega) (show(1:Int)<=Ext.Mk A (n-d) by omega) om om;omega
theorem vJ:∀n,bF [.int .i64 0] n=(List.replicate n (0:Int)).flatMap nC
 |0=>rfl
 |n+1=>by rw[List.replicate_succ,List.flatMap_cons,<-vJ n];rfl
theorem Ls.one(h:af)(n:Nat)(hn:1<=n):Ls h ((h.push 1 (bF [.int .i64 0] n)).push 1 [.slice (some ⟨h.next,0,none⟩) n n]) (some ⟨(h.push 1 (bF [.int .i64 0] n)).next,0,none⟩) 1 [⟨some ⟨h.next,0,none⟩,n,n⟩] [List.replicate n 0]:=by
 have x1:Ext h (h.push 1 (bF [.int .i64 0] n)):=Ext.push ..;have x2:Ext (h.push 1 (bF [.int .i64 0] n)) ((h.push 1 (bF [.int .i64 0] n)).push 1 [.slice (some ⟨h.next,0,none⟩) n n]):=Ext.push ..;have n1:(h.push 1 (bF [.int .i64 0] n)).next=h.next+1:=rfl;have o1:aJ ((h.push 1 (bF [.int .i64 0] n))) h.next 1 (bF [.int .i64 0] n):=aJ.push ..;have o2:aJ ((h.push 1 (bF [.int .i64 0] n)).push 1 [.slice (some ⟨h.next,0,none⟩) n n]) (h.push 1 (bF [.int .i64 0] n)).next 1 [.slice (some ⟨h.next,0,none⟩) n n]:=aJ.push ..;have ZJ:=o1.ext x2 om;have n2:((h.push 1 (bF [.int .i64 0] n)).push 1 [.slice (some ⟨h.next,0,none⟩) n n]).next=h.next+2:=rfl;have hz:∀y:Int,0<=y->y<(1:Nat)->gt [(⟨some ⟨h.next,0,none⟩,n,n⟩:Hd)] y=⟨some ⟨h.next,0,none⟩,n,n⟩:=fun y y0 y1=>by
  obtain rfl:y=0:=om
  rfl
 refine⟨x1.trans x2,⟨?_,rfl,fun y y0 y1=>?_⟩,fun y y0 y1=>?_,fun ad cW=>?_,fun y y0 y1 ad cW=>?_⟩
 ·have:=aJ.rows (enc:=Hd.cells) (es:=1) (l:=[(⟨some ⟨h.next,0,none⟩,n,n⟩:Hd)]) o2 fF om om
  exact this
 ·rw[hz y y0 y1]
  obtain rfl:y=0:=om
  rw[show aJ ((h.push 1 (bF [.int .i64 0] n)).push 1 [.slice (some ⟨h.next,0,none⟩) n n]) h.next 1 (bF [.int .i64 0] n)=aJ ((h.push 1 (bF [.int .i64 0] n)).push 1 [.slice (some ⟨h.next,0,none⟩) n n]) h.next 1 ((List.replicate n (0:Int)).flatMap nC) by rw[<-vJ]]at ZJ;have:=aJ.rows (enc:=nC) (es:=1) (l:=List.replicate n (0:Int)) ZJ fv om om;rw[List.length_replicate]at this;exact this
 ·rw[hz y y0 y1];exact fun _=>.inl rfl
 ·cases cW;show h.next<=h.next+1;omega
 ·rw[hz y y0 y1]at cW;cases cW;exact Nat.le_refl _
variable{F:bg}{call head arith b0 c0 d0 f0 g0 o0 t0 u0 ofNat w0 place z0 nz b1 rd wr push next d1 nat f1 z1 d2 j2 p2 s2 y2 part z2 b3 d3 f3 aw aH j3 k3 lt ne m3 n3 o3 yn q3 r3 s3 v3 w3 x3:_}(hA:AP F ⟨call,head,arith,b0,c0,d0,f0,g0,o0,t0,u0,ofNat,w0,place,z0,nz,b1,rd,wr,push,next,d1,nat,f1,z1,d2,j2,p2,s2,y2,part,z2,b3,d3,f3,aw,aH,j3,k3,lt,ne,m3,n3,o3,yn,q3,r3,s3,v3,w3,x3⟩)
include hA
theorem aaX{h0:af}(aq:h0.low<=h0.next){b n c:Nat}{L:List LE}{A B j:Int}(a0:0<=A)(bn:B<=n){Q:Exit->SS->Prop}
  (hQ:∀h' i,bB h0 h' b n L->A+1<=i->i<=B->aE gJ L A i->Q (.exit 2) ⟨[(0,.slice (some ⟨b,0,none⟩) n c),(1,.int .i64 A),(2,.int .i64 B),(3,.func (.func 70) #[] #[]),(9,.int .i64 i),(10,.int .i64 j)],18,[],h'⟩) :
  ∀(m:Nat) (i:Int) (h:af),(B-i).toNat<=m->A+1<=i->i<=B->bB h0 h b n L->aE gJ L A i->
   head 106 5 0 ⟨[(0,.slice (some ⟨b,0,none⟩) n c),(1,.int .i64 A),(2,.int .i64 B),(3,.func (.func 70) #[] #[]),(9,.int .i64 i),(10,.int .i64 j)],0,[],h⟩ Q:=by
 intro m
 induction m with
 |zero=>
  intro i h hm i0 i1 t hs;refine hA.ar Try.func106 ju (zc ?_);refine br (i<B) (by rw[aB hA]) (fun q=>om) (fun q=>?_)<;>refine zc ?_;exact hQ _ i (t.more (av hA _ _)) i0 i1 hs
 |succ m ih=>
  intro i h hm i0 i1 t hs;have gB:=t.gB;refine hA.ar Try.func106 ju (zc ?_);refine br (i<B) (by rw[aB hA]) (fun ci=>?_) (fun q=>?_)<;>refine zc ?_
  rotate_left
  ·exact hQ _ i (t.more (av hA _ _)) i0 i1 hs
  obtain⟨i',Ei⟩:∃z,z=i-1:=⟨_,rfl⟩;have e1:arith .sub .i64 i 1=i':=by rw[Ei];exact bR hA om om
  have e2:arith .add .i64 i 1=i+1:=aF hA om om;obtain⟨h2,lV⟩:∃z,z=aH h 18:=⟨_,rfl⟩;have x2:Ext h h2:=by rw[lV];exact av hA _ _
  have t2:=t.more x2;obtain⟨HB,HC,HD,b2,g2,f2,r2⟩:=t2.read (i:=i) om om;obtain⟨sC,sD,sE,AZ,Az,uh,rE⟩:=t2.read (i:=i') om om;have q2:=aC hA r2;have F7:=aC hA rE;rw[<-lV]
  (refine zq ?_;repeat ((first|rw[e1]);refine zq ?_))
  refine fw hA (aA hA h2) (dC hA f2) (dC hA uh) (fun u vW hu x2a=>⟨_,rfl,?_⟩);have pe:=dE hA aq t2 x2a;refine zc ?_;generalize aw h2 vW=pg at *;refine br (0<=u) (by rw[df hA,aB hA];by_cases z:u<0<;>simp[z]<;>omega) (fun cu=>?_) (fun cu=>?_)<;>refine zc ?_
  ·rw[hu]at cu
   rw[e2];exact ih (i+1) pg om om om pe (hs.next dL om (by rw[<-Ei];exact LL.not_lt.1 (fun w=>by have:=cP.2 w;omega)))
  ·exact hQ pg i pe i0 i1 hs
theorem OA{h0:af}(aq:h0.low<=h0.next){b n c:Nat}{L0:List LE}{A B i j:Int}(a0:0<=A)(bn:B<=n)(ai:A+2<=i)(ib:i<B)(ov:tP L0 A B){Q:Exit->SS->Prop}
  (hQ:∀h' L kn,kn=36\/kn=49->bB h0 h' b n L->aG A B L0 L->aE gJ L A i->Q (.exit 4) ⟨[(0,.slice (some ⟨b,0,none⟩) n c),(1,.int .i64 A),(2,.int .i64 B),(3,.func (.func 70) #[] #[]),(9,.int .i64 i),(10,.int .i64 j)],kn,[],h'⟩) {h:af} {L:List LE} (t:bB h0 h b n L) (hp:aG A B L0 L) (hI:oH gJ L A (i-1) A) :
   head 106 14 36 ⟨[(0,.slice (some ⟨b,0,none⟩) n c),(1,.int .i64 A),(2,.int .i64 B),(3,.func (.func 70) #[] #[]),(9,.int .i64 i),(10,.int .i64 j),(11,.int .i64 A)],36,[],h⟩ Q:=by
  obtain⟨k,hk⟩:∃z,z=A:=⟨_,rfl⟩;have gB:=t.gB;show head 106 14 36 ⟨[(0,.slice (some ⟨b,0,none⟩) n c),(1,.int .i64 A),(2,.int .i64 B),(3,.func (.func 70) #[] #[]),(9,.int .i64 i),(10,.int .i64 j),(11,.int .i64 A)],36,[],h⟩ Q;rw[show((11,Value.int .i64 A):Nat×Value)=(11,.int .i64 k) by rw[hk]];rw[<-hk]at hI;have k0:A<=k:=om
  refine hA.ar Try.func106 ju (zc ?_);refine br (1<=k) (by rw[cA hA]) (fun ck=>?_) (fun q=>?_)<;>refine zc ?_
  rotate_left
  ·exact hQ _ _ _ (.inl rfl) t hp (by subst hk;have:=hI.first;rwa [show i-1+1=i by omega]at this)
  obtain⟨k',EL⟩:∃z,z=k-1:=⟨_,rfl⟩;have e1:arith .sub .i64 k 1=k':=by rw[EL];exact bR hA om om
  obtain⟨h2,lV⟩:∃z,z=aH h 13:=⟨_,rfl⟩;have x2:Ext h h2:=by rw[lV];exact av hA _ _
  have t2:=t.more x2;obtain⟨HB,HC,HD,b2,g2,f2,r2⟩:=t2.read (i:=k) om om;obtain⟨sC,sD,sE,AZ,Az,uh,rE⟩:=t2.read (i:=k') om om;have q2:=aC hA r2;have F7:=aC hA rE;rw[<-lV]
  (refine zq ?_;repeat ((first|rw[e1]);refine zq ?_))
  refine fw hA (aA hA h2) (dC hA f2) (dC hA uh) (fun u vW hu x2a=>⟨_,rfl,?_⟩);have pe:=dE hA aq t2 x2a;refine zc ?_;generalize aw h2 vW=pg at *;refine br (0<=u) (by rw[df hA,aB hA];by_cases z:u<0<;>simp[z]<;>omega) (fun cu=>?_) (fun cu=>?_)<;>refine zc ?_
  rotate_left
  ·exfalso
   have:=(ov.perm a0 hp).resolve_left om k om om;rw[show A-1=k' by omega]at this;rw[hu]at cu;exact absurd (cP.1 (show fR (gt L k).q (gt L k').q<0 by omega)) (LL.not_lt.2 this)
  ·exact hQ _ _ _ (.inr rfl) pe hp (by subst hk;have:=hI.first;rwa [show i-1+1=i by omega]at this)
theorem Ym{h0:af}(aq:h0.low<=h0.next){b n c:Nat}{L0:List LE}{A B i j:Int}(a0:0<=A)(bn:B<=n)(ai:A+2<=i)(ib:i<B)(ov:tP L0 A B){Q:Exit->SS->Prop}
  (hQ:∀h' L kn,kn=36\/kn=49->bB h0 h' b n L->aG A B L0 L->aE gJ L A i->Q (.exit 4) ⟨[(0,.slice (some ⟨b,0,none⟩) n c),(1,.int .i64 A),(2,.int .i64 B),(3,.func (.func 70) #[] #[]),(9,.int .i64 i),(10,.int .i64 j)],kn,[],h'⟩) :
  ∀(m:Nat) (k:Int) (h:af) (L:List LE),(k-A).toNat<=m->A<=k->k<=i-1->bB h0 h b n L->aG A B L0 L->oH gJ L A (i-1) k->
   head 106 14 36 ⟨[(0,.slice (some ⟨b,0,none⟩) n c),(1,.int .i64 A),(2,.int .i64 B),(3,.func (.func 70) #[] #[]),(9,.int .i64 i),(10,.int .i64 j),(11,.int .i64 k)],36,[],h⟩ Q:=by
 intro m
 induction m with
 |zero=>
  intro k h L hm k0 k1 t hp hI;obtain rfl:k=A:=om
  exact OA hA aq a0 bn ai ib ov hQ t hp hI
 |succ m ih=>
  intro k h L hm k0 k1 t hp hI;have gB:=t.gB;by_cases ck:A<k
  rotate_left
  ·obtain rfl:k=A:=om
   exact OA hA aq a0 bn ai ib ov hQ t hp hI
  refine hA.ar Try.func106 ju (zc ?_);refine br (1<=k) (by rw[cA hA]) (fun _=>?_) (fun q=>om)<;>refine zc ?_;obtain⟨k',EL⟩:∃z,z=k-1:=⟨_,rfl⟩;have e1:arith .sub .i64 k 1=k':=by rw[EL];exact bR hA om om
  obtain⟨h2,lV⟩:∃z,z=aH h 13:=⟨_,rfl⟩;have x2:Ext h h2:=by rw[lV];exact av hA _ _
  have t2:=t.more x2;obtain⟨HB,HC,HD,b2,g2,f2,r2⟩:=t2.read (i:=k) om om;obtain⟨sC,sD,sE,AZ,Az,uh,rE⟩:=t2.read (i:=k') om om;have q2:=aC hA r2;have F7:=aC hA rE;rw[<-lV]
  (refine zq ?_;repeat ((first|rw[e1]);refine zq ?_))
  refine fw hA (aA hA h2) (dC hA f2) (dC hA uh) (fun u vW hu x2a=>⟨_,rfl,?_⟩);have pe:=dE hA aq t2 x2a;refine zc ?_;generalize aw h2 vW=pg at *;refine br (0<=u) (by rw[df hA,aB hA];by_cases z:u<0<;>simp[z]<;>omega) (fun cu=>?_) (fun cu=>?_)<;>refine zc ?_
  ·rw[hu]at cu
   exact hQ _ _ _ (.inr rfl) pe hp (by have:=hI.stop dL ck (by rw[<-EL];exact LL.not_lt.1 (fun w=>by have:=cP.2 w;omega));rwa [show i-1+1=i by omega]at this)
  ·rw[hu]at cu
   have w:¬gJ (gt L (k-1)) (gt L k):=by rw[<-EL];exact LL.not_le.2 (cP.1 (show fR (gt L k).q (gt L k').q<0 by omega))
   obtain⟨h5,sF⟩:∃z,z=aH pg 18:=⟨_,rfl⟩;have x5:Ext pg h5:=by rw[sF];exact av hA _ _
   have t5:=pe.more x5;obtain⟨Q6,Q7,Q8,b5,g5,f5,r5⟩:=t5.read (i:=k) om om;obtain⟨CU,CV,CW,Q9,Dd,PF,CX⟩:=t5.read (i:=k') om om;have q5:=aC hA r5;have Mu:=aC hA CX;rw[<-sF];obtain⟨SX,De,p5,SY,Di⟩:=dc hA t5 (i:=k) (j:=k') om om om om g5 Dd
   (refine zq ?_;repeat ((first|rw[e1]);refine zq ?_))
   refine ih k' De _ om om om Di (hp.trans (aG.swap L om (by rw[t.len];exact bn) om om om om)) ?_;have:=hI.step dL om (by rw[t.len];omega) ck k1 w;rw[<-EL]at this;exact this
theorem OB{h0:af}(aq:h0.low<=h0.next){b n c:Nat}{L0:List LE}{A B i j:Int}(a0:0<=A)(bn:B<=n)(ai:A<i)(ib:i<B){Q:Exit->SS->Prop}
  (hQ:∀h' L kn,bB h0 h' b n L->aG i B L0 L->Q (.exit 6) ⟨[(0,.slice (some ⟨b,0,none⟩) n c),(1,.int .i64 A),(2,.int .i64 B),(3,.func (.func 70) #[] #[]),(9,.int .i64 i),(10,.int .i64 j)],kn,[],h'⟩) :
  ∀(m:Nat) (k:Int) (h:af) (L:List LE),(B-k).toNat<=m->i+1<=k->bB h0 h b n L->aG i B L0 L->
   head 106 20 36 ⟨[(0,.slice (some ⟨b,0,none⟩) n c),(1,.int .i64 A),(2,.int .i64 B),(3,.func (.func 70) #[] #[]),(9,.int .i64 i),(10,.int .i64 j),(12,.int .i64 k)],36,[],h⟩ Q:=by
 intro m
 induction m with
 |zero=>
  intro k h L hm k0 t hp;refine hA.ar Try.func106 ju (zc ?_);refine br (k<B) (by rw[aB hA]) (fun q=>om) (fun q=>?_)<;>refine zc ?_;exact hQ _ _ _ t hp
 |succ m ih=>
  intro k h L hm k0 t hp;have gB:=t.gB;refine hA.ar Try.func106 ju (zc ?_);refine br (k<B) (by rw[aB hA]) (fun ck=>?_) (fun q=>?_)<;>refine zc ?_
  rotate_left
  ·exact hQ _ _ _ t hp
  obtain⟨k',EL⟩:∃z,z=k-1:=⟨_,rfl⟩;have e1:arith .sub .i64 k 1=k':=by rw[EL];exact bR hA om om
  have e2:arith .add .i64 k 1=k+1:=aF hA om om;obtain⟨k1,FW⟩:∃z,z=k+1:=⟨_,rfl⟩;rw[<-FW]at e2;obtain⟨h2,lV⟩:∃z,z=aH h 13:=⟨_,rfl⟩;have x2:Ext h h2:=by rw[lV];exact av hA _ _
  have t2:=t.more x2;obtain⟨HB,HC,HD,b2,g2,f2,r2⟩:=t2.read (i:=k) om om;obtain⟨sC,sD,sE,AZ,Az,uh,rE⟩:=t2.read (i:=k') om om;have q2:=aC hA r2;have F7:=aC hA rE;rw[<-lV]
  (refine zq ?_;repeat ((first|rw[e1]);refine zq ?_))
  refine fw hA (aA hA h2) (dC hA f2) (dC hA uh) (fun u vW hu x2a=>⟨_,rfl,?_⟩);have pe:=dE hA aq t2 x2a;refine zc ?_;generalize aw h2 vW=pg at *;refine br (0<=u) (by rw[df hA,aB hA];by_cases z:u<0<;>simp[z]<;>omega) (fun cu=>?_) (fun cu=>?_)<;>refine zc ?_
  ·exact hQ _ _ _ pe hp
  ·skip
   obtain⟨h5,sF⟩:∃z,z=aH pg 18:=⟨_,rfl⟩;have x5:Ext pg h5:=by rw[sF];exact av hA _ _
   have t5:=pe.more x5;obtain⟨Q6,Q7,Q8,b5,g5,f5,r5⟩:=t5.read (i:=k) om om;obtain⟨CU,CV,CW,Q9,Dd,PF,CX⟩:=t5.read (i:=k') om om;have q5:=aC hA r5;have Mu:=aC hA CX;rw[<-sF];obtain⟨SX,De,p5,SY,Di⟩:=dc hA t5 (i:=k) (j:=k') om om om om g5 Dd
   (refine zq ?_;repeat ((first|rw[e1]|rw[e2]);refine zq ?_))
   exact ih k1 De _ om om Di (hp.trans (aG.swap L om (by rw[t.len];exact bn) om om om om))
theorem UW{h0:af}(aq:h0.low<=h0.next){b n c:Nat}{L0:List LE}{A B i j:Int}(a0:0<=A)(bn:B<=n)(ai:A<i)(ib:i<B){Q:Exit->SS->Prop}
  (hQ:∀h' L kn,bB h0 h' b n L->aG i B L0 L->Q (.exit 6) ⟨[(0,.slice (some ⟨b,0,none⟩) n c),(1,.int .i64 A),(2,.int .i64 B),(3,.func (.func 70) #[] #[]),(9,.int .i64 i),(10,.int .i64 j)],kn,[],h'⟩) :
  ∀(m:Nat) (k:Int) (h:af) (L:List LE),(B-k).toNat<=m->i+1<=k->bB h0 h b n L->aG i B L0 L->
   head 106 20 49 ⟨[(0,.slice (some ⟨b,0,none⟩) n c),(1,.int .i64 A),(2,.int .i64 B),(3,.func (.func 70) #[] #[]),(9,.int .i64 i),(10,.int .i64 j),(12,.int .i64 k)],49,[],h⟩ Q:=by
 intro m
 induction m with
 |zero=>
  intro k h L hm k0 t hp;refine hA.ar Try.func106 ju (zc ?_);refine br (k<B) (by rw[aB hA]) (fun q=>om) (fun q=>?_)<;>refine zc ?_;exact hQ _ _ _ t hp
 |succ m ih=>
  intro k h L hm k0 t hp;have gB:=t.gB;refine hA.ar Try.func106 ju (zc ?_);refine br (k<B) (by rw[aB hA]) (fun ck=>?_) (fun q=>?_)<;>refine zc ?_
  rotate_left
  ·exact hQ _ _ _ t hp
  obtain⟨k',EL⟩:∃z,z=k-1:=⟨_,rfl⟩;have e1:arith .sub .i64 k 1=k':=by rw[EL];exact bR hA om om
  have e2:arith .add .i64 k 1=k+1:=aF hA om om;obtain⟨k1,FW⟩:∃z,z=k+1:=⟨_,rfl⟩;rw[<-FW]at e2;obtain⟨h2,lV⟩:∃z,z=aH h 13:=⟨_,rfl⟩;have x2:Ext h h2:=by rw[lV];exact av hA _ _
  have t2:=t.more x2;obtain⟨HB,HC,HD,b2,g2,f2,r2⟩:=t2.read (i:=k) om om;obtain⟨sC,sD,sE,AZ,Az,uh,rE⟩:=t2.read (i:=k') om om;have q2:=aC hA r2;have F7:=aC hA rE;rw[<-lV]
  (refine zq ?_;repeat ((first|rw[e1]);refine zq ?_))
  refine fw hA (aA hA h2) (dC hA f2) (dC hA uh) (fun u vW hu x2a=>⟨_,rfl,?_⟩);have pe:=dE hA aq t2 x2a;refine zc ?_;generalize aw h2 vW=pg at *;refine br (0<=u) (by rw[df hA,aB hA];by_cases z:u<0<;>simp[z]<;>omega) (fun cu=>?_) (fun cu=>?_)<;>refine zc ?_
  ·exact hQ _ _ _ pe hp
  ·skip
   obtain⟨h5,sF⟩:∃z,z=aH pg 18:=⟨_,rfl⟩;have x5:Ext pg h5:=by rw[sF];exact av hA _ _
   have t5:=pe.more x5;obtain⟨Q6,Q7,Q8,b5,g5,f5,r5⟩:=t5.read (i:=k) om om;obtain⟨CU,CV,CW,Q9,Dd,PF,CX⟩:=t5.read (i:=k') om om;have q5:=aC hA r5;have Mu:=aC hA CX;rw[<-sF];obtain⟨SX,De,p5,SY,Di⟩:=dc hA t5 (i:=k) (j:=k') om om om om g5 Dd
   (refine zq ?_;repeat ((first|rw[e1]|rw[e2]);refine zq ?_))
   exact ih k1 De _ om om Di (hp.trans (aG.swap L om (by rw[t.len];exact bn) om om om om))
theorem aaY{h0:af}(aq:h0.low<=h0.next){b n c:Nat}{L0:List LE}{A B:Int}(a0:0<=A)(ab:A+12<B)(bn:B<=n)(ov:tP L0 A B){Q:Exit->SS->Prop}
  (hQ:∀h' L u e kn,bB h0 h' b n L->aG A B L0 L->(u=true->aE gJ L A B)->Q .ret ⟨(8,.bool u) :: e,kn,[],h'⟩) (V3:∀h' L kn,bB h0 h' b n L->aG A B L0 L->Q (.exit 0) ⟨[],kn,[],h'⟩) :
  ∀(m:Nat) (j i:Int) (h:af) (L:List LE),(5-j).toNat<=m->0<=j->A+1<=i->i<=B->bB h0 h b n L->aG A B L0 L->aE gJ L A i->
   head 106 3 0 ⟨[(0,.slice (some ⟨b,0,none⟩) n c),(1,.int .i64 A),(2,.int .i64 B),(3,.func (.func 70) #[] #[]),(9,.int .i64 i),(10,.int .i64 j)],0,[],h⟩ Q:=by
 intro m
 induction m with
 |zero=>
  intro j i h L hm j0 i0 i1 t hp hs;refine hA.ar Try.func106 ju (zc ?_);refine br (j<5) (by rw[aB hA]) (fun q=>om) (fun q=>?_)<;>refine zc ?_;exact V3 _ _ _ t hp
 |succ m ih=>
  intro j i h L hm j0 i0 i1 t hp hs;have gB:=t.gB;refine hA.ar Try.func106 ju (zc ?_);refine br (j<5) (by rw[aB hA]) (fun cj=>?_) (fun q=>?_)<;>refine zc ?_
  rotate_left
  ·exact V3 _ _ _ t hp
  refine aaX hA aq a0 bn (fun h1 i' t1 i2 i3 gi=>?_) (B-i).toNat i h (Nat.le_refl _) i0 i1 t hs;refine zc ?_;refine br (i'=B) (by rw[dg hA]) (fun ci=>?_) (fun ci=>?_)<;>refine zc ?_
  ·subst ci
   exact hQ _ _ true _ _ t1 hp (fun _=>gi)
  have e1:arith .sub .i64 B A=B-A:=bR hA om om;rw[e1];refine br (B-A<50) (by rw[aB hA]) (fun cb=>?_) (fun cb=>?_)<;>refine zc ?_
  ·exact hQ _ _ false _ _ t1 hp (fun z=>by cases z)
  obtain⟨k',EL⟩:∃z,z=i'-1:=⟨_,rfl⟩;have e2:arith .sub .i64 i' 1=k':=by rw[EL];exact bR hA om om
  obtain⟨h5,sF⟩:∃z,z=aH h1 18:=⟨_,rfl⟩;have x5:Ext h1 h5:=by rw[sF];exact av hA _ _
  have t5:=t1.more x5;obtain⟨Q6,Q7,Q8,b5,g5,f5,r5⟩:=t5.read (i:=i') om om;obtain⟨CU,CV,CW,Q9,Dd,PF,CX⟩:=t5.read (i:=k') om om;have q5:=aC hA r5;have Mu:=aC hA CX;rw[<-sF];obtain⟨SX,De,p5,SY,Di⟩:=dc hA t5 (i:=i') (j:=k') om om om om g5 Dd
  (refine zq ?_;repeat ((first|rw[e2]);refine zq ?_))
  have e3:arith .sub .i64 i' A=i'-A:=bR hA om om;have e4:arith .sub .i64 B i'=B-i':=bR hA om om;have e5:arith .add .i64 i' 1=i'+1:=aF hA om om;have e6:arith .add .i64 j 1=j+1:=aF hA om om;have hp5:aG A B L0 (dy L i' k'):=hp.trans (aG.swap L a0 (by rw[t.len];exact bn) om om om om);have hs5:aE gJ (dy L i' k') A k':=(gi.less (Int.le_refl _) om).same (fun q q0 q1=>by rw[je L om (by have:=t.len;omega) om (by have:=t.len;omega) om,if_neg om,if_neg om]);generalize dy L i' k'=L5 at *;have go:∀h' L',bB h0 h' b n L'->aG A B L0 L'->aE gJ L' A i'->head 106 3 0 ⟨[(0,.slice (some ⟨b,0,none⟩) n c),(1,.int .i64 A),(2,.int .i64 B),(3,.func (.func 70) #[] #[]),(9,.int .i64 i'),(10,.int .i64 (j+1))],0,[],h'⟩ Q:=fun h' L' t' sI qL=>ih (j+1) i' h' L' om om i2 i3 t' sI qL
  rw[e3];refine br (2<=i'-A) (by rw[cA hA]) (fun c2=>?_) (fun c2=>?_)<;>refine zc ?_
  ·rw[e2]
   refine Ym hA aq (L0:=L0) a0 bn om om ov (fun h6 L6 kn hk t6 C0 UX=>?_) (k'-A).toNat k' De L5 (Nat.le_refl _) om om Di hp5 (by rw[<-EL];exact .start hs5);refine zc ?_;rw[e4];rcases hk with rfl|rfl
   ·refine br (2<=B-i') (by rw[cA hA]) (fun c3=>?_) (fun c3=>?_)<;>refine zc ?_
    ·rw[e5]
     refine OB hA aq (L0:=L6) (A:=A) (j:=j) a0 bn om om (fun h7 L7 kn t7 Jd=>?_) (B-(i'+1)).toNat (i'+1) h6 L6 (Nat.le_refl _) om t6 (.refl _ _ _);refine zc ?_;rw[e6];exact go h7 L7 t7 (C0.trans (Jd.wide a0 om om)) (UX.same (fun q q0 q1=>Jd.out q om om))
    ·rw[e6]
     exact go h6 L6 t6 C0 UX
   ·refine br (2<=B-i') (by rw[cA hA]) (fun c3=>?_) (fun c3=>?_)<;>refine zc ?_
    ·rw[e5]
     refine UW hA aq (L0:=L6) (A:=A) (j:=j) a0 bn om om (fun h7 L7 kn t7 Jd=>?_) (B-(i'+1)).toNat (i'+1) h6 L6 (Nat.le_refl _) om t6 (.refl _ _ _);refine zc ?_;rw[e6];exact go h7 L7 t7 (C0.trans (Jd.wide a0 om om)) (UX.same (fun q q0 q1=>Jd.out q om om))
    ·rw[e6]
     exact go h6 L6 t6 C0 UX
  ·rw[e4]
   obtain⟨h6,Z3⟩:∃z,z=De:=⟨_,rfl⟩;obtain⟨L6,hL6⟩:∃z,z=L5:=⟨_,rfl⟩;have t6:=Di;have C0:=hp5;have UX:aE gJ L5 A i':=.one om;rw[<-Z3,<-hL6]at *;refine br (2<=B-i') (by rw[cA hA]) (fun c3=>?_) (fun c3=>?_)<;>refine zc ?_
   ·rw[e5]
    refine OB hA aq (L0:=L6) (A:=A) (j:=j) a0 bn om om (fun h7 L7 kn t7 Jd=>?_) (B-(i'+1)).toNat (i'+1) h6 L6 (Nat.le_refl _) om t6 (.refl _ _ _);refine zc ?_;rw[e6];exact go h7 L7 t7 (C0.trans (Jd.wide a0 om om)) (UX.same (fun q q0 q1=>Jd.out q om om))
   ·rw[e6]
    exact go h6 L6 t6 C0 UX
theorem Yn{h0 h:af}(aq:h0.low<=h0.next){b n c:Nat}{L:List LE}{A B:Int}(a0:0<=A)(ab:A+12<B)(bn:B<=n)(ov:tP L A B)(t:bB h0 h b n L){Q:Value->af->Prop}
  (hQ:∀h' L' u,bB h0 h' b n L'->aG A B L L'->(u=true->aE gJ L' A B)->Q (.bool u) h'):call 106 [.slice (some ⟨b,0,none⟩) n c,.int .i64 A,.int .i64 B,.func (.func 70) #[] #[]] h Q:=by
 have da:=aq
 replace aq:=t.ext.az aq
 have gB:=t.gB;have e1:arith .add .i64 A 1=A+1:=aF hA om om;refine hA.aQ Try.func106 ju (hA.alike _ _ _ rfl) aq (zc ?_);rw[e1];refine aaY hA da (L0:=L) a0 ab bn ov (fun h' L' u e kn t' hp hs=>?_) (fun h' L' kn t' hp=>?_) 5 0 (A+1) h L om om om om t (.refl _ _ _) (.one om)
 ·refine zc ?_
  exact hQ h' L' u t' hp hs
 ·refine zc ?_
  exact hQ h' L' false t' hp (fun z=>by cases z)
set_option maxHeartbeats 4000000 in
theorem OC {h0 : af} (aq : h0.low ≤ h0.next) {b n c : Nat} {L0 : List LE} {A B : Int} (A0 : 0 ≤ A) (bn : B ≤ n) (ov : tP L0 A B)
    (rec : ∀ (h : af) (L : List LE) (x y dR : Int) (Q : Value → af → Prop), 0 ≤ x → x ≤ y → y ≤ n → (y - x).toNat < (B - A).toNat → 0 ≤ dR → dR ≤ 100 → tP L x y → bB h0 h b n L → (∀ h' L', bB h0 h' b n L' → aG x y L L' → aE gJ L' x y → Q (.tuple #[]) h') → call 86 [.slice (some ⟨b, 0, none⟩) n c, .int .i64 x, .int .i64 y, .int .i64 dR, .func (.func 70) #[] #[]] h Q) {Q : Exit → SS → Prop}
    (hQ : ∀ h' L e kn, bB h0 h' b n L → aG A B L0 L → aE gJ L A B → Q .ret ⟨e, kn, [], h'⟩) :
    ∀ (m : Nat) (x y dR : Int) (wb wp : Bool) (h : af) (L : List LE), (y - x).toNat ≤ m → 0 ≤ dR → dR ≤ 100 → bB h0 h b n L → aG A B L0 L → wN gJ L A B x y →
      head 86 2 0 ⟨[(0, .slice (some ⟨b, 0, none⟩) n c), (1, .int .i64 x), (2, .int .i64 y), (3, .int .i64 dR), (4, .func (.func 70) #[] #[]), (10, .bool wb), (11, .bool wp)], 0, [], h⟩ Q := by
  intro m
  induction m with
  | zero =>
    intro x y dR wb wp h L hm l0 l1 t hp hd
    have gB := t.gB
    have r0 := hd.r0
    have r1 := hd.r1
    have r2 := hd.r2
    have e1 : arith .sub .i64 y x = y - x := bR hA om om
    refine hA.ar Try.func86 G4 (zc ?_)
    rw [e1]
    refine br (y - x ≤ 12) (by rw [jE hA]) (fun _ => ?_) (fun q => by omega) <;> refine zc ?_
    refine ze hA aq om om om t (fun h1 L1 t1 uO gi => ?_)
    refine zc ?_
    exact hQ _ _ _ _ t1 (hp.trans (uO.wide A0 r0 r2)) ((hd.perm A0 uO).done gi)
  | succ m ih =>
    intro x y dR wb wp h L hm l0 l1 t hp hd
    have gB := t.gB
    have r0 := hd.r0
    have r1 := hd.r1
    have r2 := hd.r2
    have e1 : arith .sub .i64 y x = y - x := bR hA om om
    obtain ⟨l, hl⟩ : ∃ z, z = y - x := ⟨_, rfl⟩
    rw [← hl] at e1
    refine hA.ar Try.func86 G4 (zc ?_)
    rw [e1]
    refine br (l ≤ 12) (by rw [jE hA]) (fun _ => ?_) (fun q => ?_) <;> refine zc ?_
    · refine ze hA aq om om om t (fun h1 L1 t1 uO gi => ?_)
      refine zc ?_
      exact hQ _ _ _ _ t1 (hp.trans (uO.wide A0 r0 r2)) ((hd.perm A0 uO).done gi)
    refine br (dR = 0) (by rw [dg hA]) (fun _ => ?_) (fun q2 => ?_) <;> refine zc ?_
    · refine Q5 hA aq om om om t (fun h1 L1 t1 uO gi => ?_)
      refine zc ?_
      exact hQ _ _ _ _ t1 (hp.trans (uO.wide A0 r0 r2)) ((hd.perm A0 uO).done gi)
    have Xm : ∀ (x' y' OD : Int) (wb wp : Bool) (h : af) (L : List LE), (y' - x').toNat < (y - x).toNat → 0 ≤ OD → OD ≤ 100 → bB h0 h b n L → aG A B L0 L → wN gJ L A B x' y' →
      head 86 2 0 ⟨[(0, .slice (some ⟨b, 0, none⟩) n c), (1, .int .i64 x'), (2, .int .i64 y'), (3, .int .i64 OD), (4, .func (.func 70) #[] #[]), (10, .bool wb), (11, .bool wp)], 0, [], h⟩ Q := fun x' y' OD wb wp h L w => ih x' y' OD wb wp h L om
    clear ih
    refine br (wb = false) (by rw [df hA]; cases wb <;> rfl) (fun qb => ?_) (fun qb => ?_) <;> refine zc ?_
    focus
      refine Oz hA aq om om om t (fun h1 L1 t1 uO => ?_)
      refine zc ?_
      obtain ⟨C2, B5⟩ : ∃ z, z = dR - 1 := ⟨_, rfl⟩
      have e2 : arith .sub .i64 dR 1 = C2 := by rw [B5]; exact bR hA om om
      rw [e2]
      have II := hd.perm A0 uO
      have uO := hp.trans (uO.wide A0 r0 r2)
      have l2 : 0 ≤ C2 := by omega
      have l3 : C2 ≤ 100 := by omega
      clear B5 e2 t hp hd
    rotate_left
    focus
      have t1 := t
      have uO := hp
      have II := hd
      have l2 := l0
      have l3 := l1
      obtain ⟨h1, hh1⟩ : ∃ z, z = h := ⟨_, rfl⟩
      obtain ⟨L1, Lk⟩ : ∃ z, z = L := ⟨_, rfl⟩
      obtain ⟨C2, B5⟩ : ∃ z, z = dR := ⟨_, rfl⟩
      rw [← hh1, ← Lk] at t1
      rw [← hh1, ← B5]
      rw [← Lk] at uO II
      rw [← B5] at l2 l3
      clear B5 hh1 Lk t hp hd
    all_goals
      refine Ov hA aq om om om t1 (fun h2 p k t2 p0 p1 => ⟨_, _, rfl, ?_⟩)
      refine zc ?_
      refine br (k = 2) (by rw [dg hA]) (fun qk => ?_) (fun qk => ?_) <;> refine zc ?_
      focus
        refine UU hA aq om om om t2 (fun h3 L3 t3 PG => ?_)
        refine zc ?_
        have UZ := II.perm A0 PG
        have PG := uO.trans (PG.wide A0 r0 r2)
        obtain ⟨p3, hp⟩ : ∃ z, z = (y - 1) - (p - x) := ⟨_, rfl⟩
        have g1 : arith .sub .i64 y 1 = y - 1 := bR hA om om
        have g2 : arith .sub .i64 p x = p - x := bR hA om om
        have g3 : arith .sub .i64 (y - 1) (p - x) = p3 := by rw [hp]; exact bR hA om om
        have p4 : x ≤ p3 := by omega
        have p5 : p3 < y := by omega
        rw [g1, g2, g3]
        clear hp g1 g2 g3 p0 p1 t1 t2 uO II
      rotate_left
      focus
        obtain ⟨h3, hh⟩ : ∃ z, z = h2 := ⟨_, rfl⟩; subst hh
        obtain ⟨L3, hh⟩ : ∃ z, z = L1 := ⟨_, rfl⟩; subst hh
        obtain ⟨p3, hh⟩ : ∃ z, z = p := ⟨_, rfl⟩; subst hh
        have t3 := t2
        have UZ := II
        have PG := uO
        have p4 := p0
        have p5 := p1
        clear p0 p1 t2 uO II
      all_goals
        cases wb <;> cases wp <;> first | exact absurd qb (by decide) | exact absurd rfl qb | refine zc ?_
      all_goals first
        | (refine br (k = 1) (dg hA k 1) (fun _ => ?_) (fun _ => ?_) <;> refine zc ?_)
        | (refine br ((1 : Int) = 1) (dg hA 1 1) (fun _ => ?_) (fun q => absurd rfl q); refine zc ?_)
        | skip
      all_goals first
        | (refine Yn hA aq om om om (UZ.over (ov.perm A0 PG)) t3 (fun h4 L4 u t4 Rh zM => ⟨_, rfl, ?_⟩)
           cases u
           focus
             refine zc ?_
             have Yo := UZ.perm A0 Rh
             have Rh := PG.trans (Rh.wide A0 r0 r2)
             clear t3 PG UZ zM
           rotate_left
           focus
             refine zc ?_
             exact hQ _ _ _ _ t4 (PG.trans (Rh.wide A0 r0 r2)) ((UZ.perm A0 Rh).done (zM rfl)))
        | (obtain ⟨h4, hh⟩ : ∃ z, z = h3 := ⟨_, rfl⟩; subst hh
           obtain ⟨L4, hh⟩ : ∃ z, z = L3 := ⟨_, rfl⟩; subst hh
           have t4 := t3
           have Yo := UZ
           have Rh := PG
           clear t3 PG UZ)
      all_goals
        have hv4 := Yo.over (ov.perm A0 Rh)
        obtain ⟨h5, sF⟩ : ∃ z, z = aH h4 17 := ⟨_, rfl⟩
        have x5 : Ext h4 h5 := by rw [sF]; exact av hA _ _
        have t5 := t4.more x5
        refine br (0 < x) (by rw [fg hA]) (fun cx => ?_) (fun cx => ?_) <;> refine zc ?_
        focus
          rw [← sF]
          obtain ⟨x', Sd⟩ : ∃ z, z = x - 1 := ⟨_, rfl⟩
          have e2 : arith .sub .i64 x 1 = x' := by rw [Sd]; exact bR hA om om
          obtain ⟨Q6, Q7, Q8, b5, g5, f5, r5⟩ := t5.read (i := x') om om
          obtain ⟨CU, CV, CW, Q9, Dd, PF, CX⟩ := t5.read (i := p3) om om
          have q5 := aC hA r5
          have Mu := aC hA CX
          (refine zq ?_; repeat ((first | rw [e2]); refine zq ?_))
          refine fw hA (aA hA h5) (dC hA f5) (dC hA PF) (fun u h5a hu x5a => ⟨_, rfl, ?_⟩)
          have t5b := dE hA aq t5 x5a
          refine zc ?_
          generalize aw h5 h5a = h5b at *
          refine br (0 ≤ u) (by rw [df hA, aB hA]; by_cases z : u < 0 <;> simp [z] <;> omega) (fun cu => ?_) (fun cu => ?_) <;> refine zc ?_
          focus
            rw [hu] at cu
            have w : gJ (gt L4 p3) (gt L4 (x - 1)) := by rw [← Sd]; exact LL.not_lt.1 (fun w => by have := cP.2 w; omega)
            refine Ou hA aq om om p4 p5 t5b (fun h6 L6 e t6 C0 e0 e1 he => ⟨_, rfl, ?_⟩)
            refine zc ?_
            refine Xm e y C2 _ _ h6 L6 om l2 l3 t6 (Rh.trans (C0.wide A0 r0 r2)) (wN.equal (Yo.perm A0 C0) om om (fun p q p0 p1 q0 q1 => ?_))
            refine dL.trans _ _ _ (he p p0 p1) (dL.trans _ _ _ w ?_)
            have := (hv4.perm om C0).resolve_left om q q0 q1
            rwa [C0.out (x - 1) om om] at this
          clear t5
          have t5 := t5b
        rotate_left
        focus
          rw [← sF]
          clear sF
          obtain ⟨h5b, hh⟩ : ∃ z, z = h5 := ⟨_, rfl⟩; subst hh
      all_goals
        refine Ra hA aq om om p4 p5 t5 (fun h6 L6 zP r t6 C0 m0 m1 k1 k2 => ⟨_, _, rfl, ?_⟩)
        have hd6 := Yo.perm A0 C0
        have hv6 := hv4.perm om C0
        have C0 := Rh.trans (C0.wide A0 r0 r2)
        have v1 : tP L6 x zP := by
          rcases hv6 with o | o
          · exact .inl o
          · exact .inr (fun k k0 k1 => o k k0 om)
        have v2 : tP L6 (zP + 1) y := .inr (fun k k0 k1 => by rw [show zP + 1 - 1 = zP by omega]; exact k2 k om k1)
        have u1 : arith .sub .i64 zP x = zP - x := bR hA om om
        have u2 : arith .sub .i64 y zP = y - zP := bR hA om om
        have u3 : arith .add .i64 zP 1 = zP + 1 := aF hA om om
        obtain ⟨q8, hq8⟩ : ∃ z, z = arith .quo .i64 l 8 := ⟨_, rfl⟩
        (refine zq ?_; repeat ((first | rw [u1] | rw [u2]); refine zq ?_))
        rw [← hq8]
        clear hq8
        refine br (zP - x < y - zP) (by rw [aB hA]) (fun cm => ?_) (fun cm => ?_) <;> refine zc ?_
        focus
          refine rec h6 L6 x zP C2 _ om m0 om om l2 l3 v1 t6 (fun h7 L7 t7 Jd hs7 => ?_)
          refine zc ?_
          rw [u3]
          exact Xm (zP + 1) y C2 _ _ h7 L7 om l2 l3 t7 (C0.trans (Jd.wide A0 r0 om)) (wN.left dL A0 hd6 m0 m1 k1 k2 Jd hs7)
        focus
          rw [u3]
          refine rec h6 L6 (zP + 1) y C2 _ om om om om l2 l3 v2 t6 (fun h7 L7 t7 Jd hs7 => ?_)
          refine zc ?_
          exact Xm x zP C2 _ _ h7 L7 om l2 l3 t7 (C0.trans (Jd.wide A0 om r2)) (wN.right dL A0 hd6 m0 m1 k1 k2 Jd hs7)
theorem U1{h0:af}(aq:h0.low<=h0.next){b n c:Nat}:∀(N:Nat) (h:af) (L:List LE) (x y dR:Int) (Q:Value->af->Prop),(y-x).toNat<N->0<=x->x<=y->y<=n->0<=dR->dR<=100->tP L x y->bB h0 h b n L->(∀h' L',bB h0 h' b n L'->aG x y L L'->aE gJ L' x y->Q (.tuple #[]) h')->call 86 [.slice (some ⟨b,0,none⟩) n c,.int .i64 x,.int .i64 y,.int .i64 dR,.func (.func 70) #[] #[]] h Q:=by
 intro N
 induction N with
 |zero=>intro h L x y dR Q w;omega
 |succ N ih=>
  intro h L x y dR Q w x0 xy yn l0 l1 ov t hQ;have da:=aq
  replace aq:=t.ext.az aq
  refine hA.aQ Try.func86 G4 (hA.alike _ _ _ rfl) aq (zc ?_);refine OC hA da (c:=c) (L0:=L) x0 yn ov (fun h L x' y' dR Q a1 a2 a3 a4 a5 a6 a7 a8 a9=>ih h L x' y' dR Q om a1 a2 a3 a5 a6 a7 a8 a9) (fun h' L' e kn t' hp hs=>?_) (y-x).toNat x y dR true true h L (Nat.le_refl _) l0 l1 t (.refl _ _ _) (.start L xy);refine zc ?_;exact hQ h' L' t' hp hs
theorem OE{h0 h:af}(aq:h0.low<=h0.next){b n c:Nat}{L:List LE}(t:bB h0 h b n L){Q:Value->af->Prop}
  (hQ:∀h' L',bB h0 h' b n L'->aG 0 n L L'->aE gJ L' 0 n->Q (.tuple #[]) h'):call 69 [.slice (some ⟨b,0,none⟩) n c,.func (.func 70) #[] #[]] h Q:=by
 have da:=aq
 replace aq:=t.ext.az aq
 have gB:=t.gB;refine hA.aQ Try.func69 x69.2 (hA.alike _ _ _ rfl) aq (zc ?_);rw[aR hA,ml hA om om];refine Ox hA aq (by unfold u64;omega) (fun k hk=>⟨_,rfl,?_⟩);obtain⟨n0,n1,n2⟩:=hk;have Yl:k<=40:=by
  by_cases c:k<=40
  ·exact c
  ·have h1:=Nat.pow_le_pow_right (n:=2) om (show 40<=k.toNat by omega)
   have h2:((2 ^ 40:Nat):Int)<=((2 ^ k.toNat:Nat):Int):=by exact_mod_cast h1
   have h3:((2 ^ k.toNat:Nat):Int)=2 ^ k.toNat:=by push_cast;rfl
   have h4:((2 ^ 40:Nat):Int)=1099511627776:=by decide
   have h5:max (n:Int) 1<=100001:=om
   omega
 refine zc ?_;refine U1 hA da (c:=c) (n+1) h L 0 n k _ om om om (Int.le_refl _) n0 om (.inl rfl) t (fun h' L' t' hp hs=>?_);refine zc ?_;exact hQ h' L' t' hp hs
theorem U2{h0:af}(gq:h0.low<=h0.next){g:List (List Int)}{B:List Fc}{m n s:Nat}{A:Nat->Ext.aN}{W many size:Int}{pa qa:Option Addr}{bs:Nat->Nat}(t:F8 h0 g B m n s A W many size pa qa bs){pc qc:Nat}{NI:Int}(eN:NI=n){Q:Exit->SS->Prop}
  (hQ:∀hs h' a N c hd,CZ hs h' a N c hd (Ext.nA A (gC A B W m n) size n n)->Ext h0 h'->Ext h0 hs->Q (.exit 0) ⟨[(11,.slice a N c)],0,[],h'⟩) :
  ∀(r d:Nat) (K:Int) (h:af) (fa:Option Addr) (fn fc:Nat) (fh:List Hd),n-d<=r->d<=n->K=(n:Int)-1-d->Ext h0 h->Ls h0 h fa fn fh (Ext.nA A (gC A B W m n) size n d)->(d=0\/∃hs,Ext h0 hs/\CZ hs h fa fn fc fh (Ext.nA A (gC A B W m n) size n d))->
   head 49 5 0 ⟨[(0,.slice pa n pc),(1,.slice qa m qc),(2,.int .i64 W),(3,.int .i64 many),(9,.int .i64 NI),(10,.int .i64 size),(11,.slice fa fn fc),(12,.int .i64 K)],0,[],h⟩ Q:=by
 intro r;have n4:=t.hM.n4;have m4:=t.hM.m4;have n1:=t.hM.n1;have m1:=t.hM.m1;have sum:=t.st.sum;obtain⟨W0,W1,y0,y1,s0,s1⟩:=t.OF
 induction r with
 |zero=>
  intro d K h fa fn fc fh hr hd eK x lf lo;refine hA.ar Try.func49 mM (zc ?_);refine br (0<=K) (by rw[cA hA]) (fun q=>om) (fun _=>?_)<;>refine zc ?_;obtain rfl:d=n:=om
  rcases lo with q|⟨hs,x2,lo⟩
  ·omega
  ·exact hQ hs h fa fn fc fh lo x x2
 |succ r ih=>
 intro d K h fa fn fc fh hr hd eK x lf lo;by_cases ck:d<n
 rotate_left
 ·refine hA.ar Try.func49 mM (zc ?_)
  refine br (0<=K) (by rw[cA hA]) (fun q=>om) (fun _=>?_)<;>refine zc ?_;obtain rfl:d=n:=om
  rcases lo with q|⟨hs,x2,lo⟩
  ·omega
  ·exact hQ hs h fa fn fc fh lo x x2
 obtain⟨k,ek⟩:∃k,k=n-1-d:=⟨_,rfl⟩;have hk:k<n:=om
 have Yq:K=k:=om
 obtain⟨h9,yW⟩:∃z,z=aH h 13:=⟨_,rfl⟩;have xb:Ext h h9:=by rw[yW];exact av hA _ _
 have x9:=x.trans xb;have t9:=t.more x9;have l9:=x9.az gq;obtain⟨pb,po,epa,_,w1⟩:=t9.hd.at (i:=K) om om;have w1:=w1 0 1 om om;obtain⟨wd,ewd⟩:∃w,w=n+m:=⟨_,rfl⟩;obtain⟨cw,qv⟩:∃z,z=au 1 wd:=⟨_,rfl⟩;have eh:gt (kN bs (n+m) n) K=⟨some ⟨bs k,0,none⟩,wd,cw⟩:=by
  rw[qv,ewd,Yq];exact gm _ hk
 rw[eh]at w1;have w1:h9.aL ⟨pb,po+K.toNat*1+0,none⟩ 1=some [.slice (some ⟨bs k,0,none⟩) wd cw]:=w1;cases pa with
 |none=>cases epa
 |some pad=>
 cases epa;have r1:rd h9 pb (place po K 1) 1 [.slice (some ⟨bs k,0,none⟩) wd cw]:=aC hA w1;obtain⟨zG,rws⟩:=t9.rows;have w2:=rws.el (y:=k) (x:=k) om om;obtain⟨F,eF⟩:∃z,z=A k k:=⟨_,rfl⟩;rw[<-eF]at w2;have r2:rd h9 (bs k) (place 0 K 1) 1 [.int .i64 F]:=aC hA (by rw[Yq];exact w2);have tl:=rws.tail (y:=k) (n:=n) (m:=m) om rfl;obtain⟨FN,eFN⟩:∃z:Int,z=fn:=⟨_,rfl⟩;have e1:ofNat fn=FN:=by rw[eFN];exact aR hA fn
 have gl:=lf.gr.len;have f64:=t.run (d:=d) om;rw[gl]at f64;have mV:=Ext.uT t.KT d om;have aaZ:∀y,y∈Ext.nA A (gC A B W m n) size n d->Ext.CT A (gC A B W m n) size n (k+1) y:=fun y hy=>by
  have:=(mV.1 y).1 hy
  rwa [show n-d=k+1 by omega]at this
 obtain⟨v,ev⟩:∃v,v=jB A B W m n k % W:=⟨_,rfl⟩;have v0:0<=v/\v<W:=by rw[ev];exact⟨Int.emod_nonneg _ om,Int.emod_lt_of_pos _ W0⟩
 obtain⟨R,eR⟩:∃z,z=v*many:=⟨_,rfl⟩;have eR2:R=gC A B W m n k:=by rw[eR,ev];unfold gC;rw[t.em]
 have Rb:0<=R/\R<=12960000*64:=by rw[eR];exact⟨Int.mul_nonneg v0.1 om,Int.mul_le_mul om y1 om om⟩
 have m2:arith .mul .i64 v many=R:=by rw[eR];exact jh hA (by rw[<-eR];omega) (by rw[<-eR];omega)
 refine hA.ar Try.func49 mM (zc ?_);refine br (0<=K) (by rw[cA hA]) (fun _=>?_) (fun q=>om)<;>refine zc ?_;rw[<-yW];refine zq ?_;rw[qv];refine By hA SU (n:=wd) (i:=NI) om om om (fun c'=>?_);rw[show 0+NI.toNat*1=0+n*1 by omega,show wd-NI.toNat=m by omega,<-qv];obtain⟨o,eo⟩:∃z,z=0+n*1:=⟨_,rfl⟩;rw[<-eo]at tl ⊢;refine zq ?_;refine CQ hA l9 tl t9.oY (Nat.le_refl m) om (B:=8162933760000) (fun j hj=>?_) om W0 om (fun v' hv=>⟨v',rfl,?_⟩)
 ·rw[gm _ hj,C3 hj]
  obtain⟨_,p0,p1,_⟩:=t.w.part t.ht hj;exact Je (t.st.small t.hM om _) p0 p1 W1
 obtain rfl:v'=v:=by
  rw[hv,ev]
  congr 1
  unfold jB;exact Ext.aO m (fun j hj=>by rw[gm _ hj,C3 hj])
 (refine zq ?_;repeat ((first|rw[e1]|rw[m2]);refine zq ?_))
 refine U3 hA l9 t9 hk (lf.more xb) aaZ f64 eN Yq eF eR2 eFN ewd qv (fun h2 a2 N2 c2 Uh wz=>?_) fn 0 0 h9 none 0 0 [] om (Nat.zero_le _) rfl (by rw[List.take_zero];exact CZ.nil h9);have er:Ext.iq A (gC A B W m n) size n k (Ext.nA A (gC A B W m n) size n d)=Ext.nA A (gC A B W m n) size n (d+1):=by rw[ek];rfl
 rw[er]at wz;refine zq ?_;rw[bR hA om om];exact ih (d+1) (K-1) h2 a2 N2 c2 Uh om om om (x9.trans wz.s.ext) (wz.s.back x9) (.inr ⟨h9,x9,wz⟩)
theorem OG{h:af}(aq:h.low<=h.next){g:List (List Int)}{B:List Fc}{m n s:Nat}{A:Nat->Ext.aN}{W many size:Int}{pa qa:Option Addr}{pc qc:Nat}{bs:Nat->Nat}(t:F8 h g B m n s A W many size pa qa bs){Q:Value->af->Prop}
  (hQ:∀h' b N c hd l,rC nC 1 h' (some ⟨b,0,none⟩) N hd l->l.Perm (Ext.nA A (gC A B W m n) size n n)->l.Pairwise LL.lt->Ext h h'->Q (.slice (some ⟨b,0,none⟩) N c) h'):call 49 [.slice pa n pc,.slice qa m qc,.int .i64 W,.int .i64 many] h Q:=by
 obtain⟨NI,eN⟩:∃z:Int,z=n:=⟨_,rfl⟩;have e0:ofNat n=NI:=by rw[eN];exact aR hA n
 have n4:=t.hM.n4;have n1:=t.hM.n1;obtain⟨W0,W1,y0,y1,s0,s1⟩:=t.OF;have m1:arith .mul .i64 W many=size:=by rw[t.es];exact jh hA (by rw[<-t.es];omega) (by rw[<-t.es];omega)
 have eNn:nat NI=n:=by rw[AF hA];omega
 have eNt:NI.toNat=n:=om
 have lz:=Ls.one h n n1;refine hA.aQ Try.func49 mM (hA.alike _ _ _ rfl) aq (zc ?_)
 (refine zq ?_;repeat ((first|rw[e0]|rw[m1]);refine zq ?_))
 refine⟨LM hA om (Int.le_refl _) om,?_⟩;refine zc ?_;rw[Bv hA];refine zq ?_;rw[eNn,eNt,aV hA,aV hA,aW hA,aW hA,bR hA om om];obtain⟨h2,PD⟩:∃z,z=(h.push 1 (bF [.int .i64 0] n)).push 1 [.slice (some ⟨h.next,0,none⟩) n n]:=⟨_,rfl⟩;rw[<-PD]at lz ⊢;have run:=Ext.uT t.KT n (Nat.le_refl n);obtain⟨rl,erl⟩:∃z,z=Ext.nA A (gC A B W m n) size n n:=⟨_,rfl⟩;refine U2 hA aq t eN (fun hs h3 a N c hd lo x x'=>?_) n 0 (NI-1) h2 _ 1 1 _ om om om lz.ext lz (.inl rfl);rw[<-erl]at lo run hQ;have hN:=lo.s.gr.len;have hm:=t.em;have Ig:1<=N/\N<=64:=by
  have h4:=run.2.2.2;rw[Nat.sub_self]at h4;have e1:(rl.length:Int)*1=many:=by rw[hm,<-h4];rfl
  have:=t.m64;omega
 rcases lo.o8 with ⟨_,q,_⟩|⟨b,rfl,ec,hb,_,_⟩
 ·omega
 have l3:=x.az aq;have lb:oE h3 b=oE h3 b:=rfl;have db:=lo.dat l3 om (fun y y0 y1=>by
  have h5:=lo.s.gr.Fb y0 y1;have h6:gt rl y∈rl:=by
   unfold gt;rw[List.getD_eq_getElem?_getD,List.getElem?_eq_getElem om];exact List.getElem_mem _
  have h7:=((run.1 _).1 h6).len;omega)
 have hnb:h.next<=b:=Nat.le_trans x'.next (lo.s.fr _ rfl);have xb:Ext h (oE h3 b):=KS x hnb;refine zq ?_;refine OE hA (show(oE h3 b).low<=(oE h3 b).next from Nat.min_le_right _ _) db (fun h4 L' d4 p4 s4=>?_);refine zq ?_;have hlz:=Fs (hd:=hd) (g:=rl) (by have:=lo.s.gr.hd.len;omega);have so:=zo (n:=N) om p4 s4 (by rw[zn (by have:=lo.s.gr.hd.len;omega)];exact run.2.2.1);rw[zn (by have:=lo.s.gr.hd.len;omega)]at so;exact hQ h4 b N c _ _ d4.aaW so.1 so.2 (xb.trans d4.ext)
