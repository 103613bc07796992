import Derived.Test.YtdpbiegfljmhmaaDetG
import Derived.Test.YtdpbiegfljmhmaaSmU
import Derived.Test.YtdpbiegfljmhmaaSmV
import Derived.Test.YtdpbiegfljmhmaaSymGrid
import Derived.Test.YtdpbiegfljmhmaaInsP
set_option linter.unusedSimpArgs false
set_option linter.unusedVariables false
namespace Go.Proofs.Ytdpbiegfljmhmaa
open Go.Sim
set_option maxRecDepth 100000
variable{F:Prims}{call head arith cmp scmp bnot bsame conv neg imax imin ofNat slen place inR nz geZ rd wr push next mkOK nat zeros sadd eqAgg cut slc sslc strAt part app cpy putAt fresh lowered bump wrote addN lt ne fpAll fpApp brk yn rng mget mput mnew bytes clr:_}(hA:AP F ⟨call,head,arith,cmp,scmp,bnot,bsame,conv,neg,imax,imin,ofNat,slen,place,inR,nz,geZ,rd,wr,push,next,mkOK,nat,zeros,sadd,eqAgg,cut,slc,sslc,strAt,part,app,cpy,putAt,fresh,lowered,bump,wrote,addN,lt,ne,fpAll,fpApp,brk,yn,rng,mget,mput,mnew,bytes,clr⟩)
include hA
theorem shl_ok{m:Nat}(hm:m<=4){M:Int}(eM:M=m):arith .shl .i64 1 M=((2 ^ m:Nat):Int):=by
 rw[e_shl hA,eM];have h1:m=0\/m=1\/m=2\/m=3\/m=4:=by omega
 rcases h1 with rfl|rfl|rfl|rfl|rfl<;>rfl
theorem dv_in{h0:AHeap}(hl0:h0.low<=h0.next){m n ac k R g0 p2:Nat}{aa:Option Addr}{hds:List Hd}{g:List (List Int)}(hM:Mat g m n)(hg:GrR nC 1 h0 aa m hds g){K RI P W:Int}(eK:K=k)(eR:RI=R)(hR:R<2 ^ m)(hk:k<=4)(lR:(Ext.bl m R).length=k)(ep2:p2=2 ^ n)(eP:P=p2){Q:Exit->SS->Prop}
  (hQ:∀(h':AHeap) (gg:Nat) (G:Int),Ext h0 h'->G=gg->gg<=157464->(∀d:Nat,d∣gg↔d∣g0/\∀C,C<p2->(Ext.bl n C).length=k->d∣(Ext.mnr g k (Ext.bl m R) (Ext.bl n C)).natAbs)->Q (.exit 2) ⟨[(0,.slice aa m ac),(1,.int .i64 K),(5,.int .i64 G),(10,.int .i64 W),(11,.int .i64 RI)],0,[],h'⟩) :
  ∀(d C gg:Nat) (CI G:Int) (h:AHeap),p2-C<=d->C<=p2->CI=C->Ext h0 h->G=gg->gg<=157464->(∀d:Nat,d∣gg↔d∣g0/\∀x,x<C->(Ext.bl n x).length=k->d∣(Ext.mnr g k (Ext.bl m R) (Ext.bl n x)).natAbs)->
   head 53 7 0 ⟨[(0,.slice aa m ac),(1,.int .i64 K),(5,.int .i64 G),(6,.int .i64 RI),(10,.int .i64 W),(11,.int .i64 RI),(23,.int .i64 P),(24,.int .i64 CI)],0,[],h⟩ Q:=by
 intro d;have m4:=hM.m4;have n4:=hM.n4;have pw:∀x,x<=4->2 ^ x<=16:=fun x hx=>Nat.pow_le_pow_right (n:=2) (by omega) hx
 have pn:=pw n n4;have pm:=pw m m4
 induction d with
 |zero=>
  intro C gg CI G h hd hC eC x eG hb hdv;refine hA.roundR Try.func53 r53_ok (zc ?_);refine br (CI<P) (by rw[e_lss hA]) (fun q=>by omega) (fun _=>?_)<;>refine zc ?_;obtain rfl:C=p2:=by omega
  exact hQ h gg G x eG hb hdv
 |succ d ih=>
 intro C gg CI G h hd hC eC x eG hb hdv;by_cases cC:C<p2
 rotate_left
 ·refine hA.roundR Try.func53 r53_ok (zc ?_)
  refine br (CI<P) (by rw[e_lss hA]) (fun q=>by omega) (fun _=>?_)<;>refine zc ?_;obtain rfl:C=p2:=by omega
  exact hQ h gg G x eG hb hdv
 have hlow:=x.lowOK hl0;have m1:conv .u64 CI=CI:=convU hA (by omega) (by omega);have l4:=Ext.bl_four n C n4 (by omega);refine hA.roundR Try.func53 r53_ok (zc ?_);refine br (CI<P) (by rw[e_lss hA]) (fun _=>?_) (fun q=>by omega)<;>refine zc ?_
 (refine zq ?_;repeat ((first|rw[m1]);refine zq ?_))
 refine ones_ok hA (by omega) (by omega) hlow (fun v ev=>⟨v,rfl,?_⟩);rw[eC,Int.toNat_natCast,l4]at ev;refine zq ?_;refine br (v=K) (by rw[e_eql hA]) (fun c=>?_) (fun c=>?_)<;>refine zc ?_
 ·have lC:(Ext.bl n C).length=k:=by omega
  refine zq ?_;refine part_ok hA hlow hM (hg.ext x) eR eC (by omega) (by omega) (fun b h1 P1 t1 p1=>⟨_,_,rfl,?_⟩);rw[lR]at t1 p1;refine zq ?_;refine measure_ok hA hlow t1 hk (fun i j hi hj=>by rw[p1 i j hi (by omega)];exact hM.nine _ _) (fun w h2 ew wb x2=>⟨w,rfl,?_⟩);have ed:Ext.dt k P1=Ext.mnr g k (Ext.bl m R) (Ext.bl n C):=by
   unfold Ext.mnr;exact Ext.dt_congr (fun i j hi hj=>p1 i j hi (by omega))
  rw[ed]at ew;refine zq ?_;refine sgcd_ok hA (x2.lowOK hlow) (a:=G) (b:=w) (by omega) (by omega) (fun h3 x3=>⟨_,rfl,?_⟩);have eg2:Int.gcd G w=Nat.gcd gg (Ext.mnr g k (Ext.bl m R) (Ext.bl n C)).natAbs:=by
   rw[eG,ew];rfl
  rw[eg2];have hb2:Nat.gcd gg (Ext.mnr g k (Ext.bl m R) (Ext.bl n C)).natAbs<=157464:=Ext.gcd_le hb (by omega);have hdv2:∀d:Nat,d∣Nat.gcd gg (Ext.mnr g k (Ext.bl m R) (Ext.bl n C)).natAbs↔d∣g0/\∀x,x<C+1->(Ext.bl n x).length=k->d∣(Ext.mnr g k (Ext.bl m R) (Ext.bl n x)).natAbs:=fun d=>by
   rw[Nat.dvd_gcd_iff,hdv d];constructor
   ·rintro⟨⟨a1,a2⟩,a3⟩
    refine⟨a1,fun y hy ly=>?_⟩;by_cases e:y=C
    ·rw[e];exact a3
    ·exact a2 y (by omega) ly
   ·rintro⟨a1,a2⟩
    exact⟨⟨a1,fun y hy ly=>a2 y (by omega) ly⟩,a2 C (by omega) lC⟩
  generalize Nat.gcd gg (Ext.mnr g k (Ext.bl m R) (Ext.bl n C)).natAbs=g2 at *;obtain⟨G2,eG2⟩:∃z:Int,z=g2:=⟨_,rfl⟩;rw[<-eG2];refine zq ?_;rw[add64 hA (by omega) (by omega)];exact ih (C+1) g2 (CI+1) G2 h3 (by omega) (by omega) (by omega) ((x.trans x2).trans x3) eG2 hb2 hdv2
 ·refine zq ?_
  rw[add64 hA (by omega) (by omega)];refine ih (C+1) gg (CI+1) G h (by omega) (by omega) (by omega) x eG hb (fun d=>?_);rw[hdv d];refine and_congr Iff.rfl ⟨fun a y hy ly=>?_,fun a y hy ly=>a y (by omega) ly⟩;by_cases e:y=C
  ·rw[e]at ly;omega
  ·exact a y (by omega) ly
theorem dv_out{h0:AHeap}(hl0:h0.low<=h0.next){m n ac k pm:Nat}{aa:Option Addr}{hds:List Hd}{g:List (List Int)}(hM:Mat g m n)(hg:GrR nC 1 h0 aa m hds g){K W:Int}(eK:K=k)(hk:k<=4)(epm:pm=2 ^ m)(eW:W=pm){Q:Exit->SS->Prop}
  (hQ:∀(h':AHeap) (gg:Nat) (G:Int) (kn:Nat) (T:List (Nat×List Value)),Ext h0 h'->G=gg->(∀d:Nat,d∣gg↔∀R,R<pm->(Ext.bl m R).length=k->∀C,C<2 ^ n->(Ext.bl n C).length=k->d∣(Ext.mnr g k (Ext.bl m R) (Ext.bl n C)).natAbs)->Q (.exit 0) ⟨[(5,.int .i64 G)],kn,T,h'⟩) :
  ∀(d R gg:Nat) (RI G:Int) (h:AHeap),pm-R<=d->R<=pm->RI=R->Ext h0 h->G=gg->gg<=157464->(∀d:Nat,d∣gg↔∀x,x<R->(Ext.bl m x).length=k->∀C,C<2 ^ n->(Ext.bl n C).length=k->d∣(Ext.mnr g k (Ext.bl m x) (Ext.bl n C)).natAbs)->
   head 53 3 0 ⟨[(0,.slice aa m ac),(1,.int .i64 K),(5,.int .i64 G),(10,.int .i64 W),(11,.int .i64 RI)],0,[],h⟩ Q:=by
 intro d;have m4:=hM.m4;have n4:=hM.n4;have pw:∀x,x<=4->2 ^ x<=16:=fun x hx=>Nat.pow_le_pow_right (n:=2) (by omega) hx
 have pm16:=pw m m4;have mpos:=hM.m1
 induction d with
 |zero=>
  intro R gg RI G h hd hR eR x eG hb hdv;refine hA.roundR Try.func53 r53_ok (zc ?_);refine br (RI<W) (by rw[e_lss hA]) (fun q=>by omega) (fun _=>?_)<;>refine zc ?_;obtain rfl:R=pm:=by omega
  exact hQ h gg G _ _ x eG hdv
 |succ d ih=>
 intro R gg RI G h hd hR eR x eG hb hdv;by_cases cR:R<pm
 rotate_left
 ·refine hA.roundR Try.func53 r53_ok (zc ?_)
  refine br (RI<W) (by rw[e_lss hA]) (fun q=>by omega) (fun _=>?_)<;>refine zc ?_;obtain rfl:R=pm:=by omega
  exact hQ h gg G _ _ x eG hdv
 have hlow:=x.lowOK hl0;have m1:conv .u64 RI=RI:=convU hA (by omega) (by omega);have l4:=Ext.bl_four m R m4 (by omega);obtain⟨N,eN⟩:∃z:Int,z=n:=⟨_,rfl⟩;have e0:ofNat n=N:=by rw[eN];exact e_ofNat hA n
 obtain⟨p2,ep2⟩:∃z:Nat,z=2 ^ n:=⟨_,rfl⟩;obtain⟨P,eP⟩:∃z:Int,z=p2:=⟨_,rfl⟩;have m2:arith .shl .i64 1 N=P:=by rw[eP,ep2];exact shl_ok hA hM.n4 eN
 obtain⟨ab,ao,rfl,hab,q1⟩:=(hg.ext x).hdAt (i:=0) (by omega) (by have:=hM.m1;omega);have row:=hg.row 0 (by omega) (by have:=hM.m1;omega);have hln:(gt g 0).length=n:=hM.row 0 (by omega) (by have:=hM.m1;omega);have hn2:=row.len;rw[hln]at hn2;rw[<-hn2]at q1;obtain⟨ra,era⟩:∃z,z=(gt hds 0).a:=⟨_,rfl⟩;obtain⟨rc,erc⟩:∃z,z=(gt hds 0).c:=⟨_,rfl⟩;rw[<-era,<-erc]at q1;have r1:rd h ab (place ao 0 1) 1 [.slice ra n rc]:=rd_ok hA q1;refine hA.roundR Try.func53 r53_ok (zc ?_);refine br (RI<W) (by rw[e_lss hA]) (fun _=>?_) (fun q=>by omega)<;>refine zc ?_
 (refine zq ?_;repeat ((first|rw[m1]);refine zq ?_))
 refine ones_ok hA (by omega) (by omega) hlow (fun v ev=>⟨v,rfl,?_⟩);rw[eR,Int.toNat_natCast,l4]at ev;refine zq ?_;refine br (v≠K) (by rw[e_neq hA]) (fun c=>?_) (fun c=>?_)<;>refine zc ?_
 ·refine zq ?_
  rw[add64 hA (by omega) (by omega)];refine ih (R+1) gg (RI+1) G h (by omega) (by omega) (by omega) x eG hb (fun d=>?_);rw[hdv d];refine⟨fun a y hy ly=>?_,fun a y hy ly=>a y (by omega) ly⟩;by_cases e:y=R
  ·rw[e]at ly;omega
  ·exact a y (by omega) ly
 ·have lR:(Ext.bl m R).length=k:=by omega
  (refine zq ?_;repeat ((first|rw[e0]|rw[m2]);refine zq ?_))
  refine dv_in hA hl0 hM hg eK eR (by omega) hk lR ep2 eP (g0:=gg) (fun h' g2 G2 x' eG2 hb2 hdv2=>?_) p2 0 gg 0 G h (by omega) (by omega) rfl x eG hb (fun d=>⟨fun a=>⟨a,fun y hy=>by omega⟩,fun a=>a.1⟩);refine zq ?_;rw[add64 hA (by omega) (by omega)];refine ih (R+1) g2 (RI+1) G2 h' (by omega) (by omega) (by omega) x' eG2 hb2 (fun d=>?_);rw[hdv2 d,hdv d,<-ep2];constructor
  ·rintro⟨a1,a2⟩ y hy ly
   by_cases e:y=R
   ·rw[e];exact a2
   ·exact a1 y (by omega) ly
  ·intro a
   exact⟨fun y hy ly=>a y (by omega) ly,a R (by omega) lR⟩
theorem divisor_ok{h:AHeap}(hlow:h.low<=h.next){m n ac k:Nat}{aa:Option Addr}{hds:List Hd}{g:List (List Int)}(hM:Mat g m n)(hg:GrR nC 1 h aa m hds g){K:Int}(eK:K=k)(hk:k<=4){Q:Value->AHeap->Prop}
  (hQ:∀(v:Int) h',v=Ext.Dv g m n k->Ext h h'->Q (.int .i64 v) h'):call 53 [.slice aa m ac,.int .i64 K] h Q:=by
 obtain⟨M,eM⟩:∃z:Int,z=m:=⟨_,rfl⟩;have e1:ofNat m=M:=by rw[eM];exact e_ofNat hA m
 obtain⟨pm,epm⟩:∃z:Nat,z=2 ^ m:=⟨_,rfl⟩;obtain⟨W,eW⟩:∃z:Int,z=pm:=⟨_,rfl⟩;have m2:arith .shl .i64 1 M=W:=by rw[eW,epm];exact shl_ok hA hM.m4 eM
 refine hA.bodyR Try.func53 r53_ok (hA.alike _ _ _ rfl) hlow (zc ?_)
 (refine zq ?_;repeat ((first|rw[e1]|rw[m2]);refine zq ?_))
 refine dv_out hA hlow hM hg eK hk epm eW (fun h' gg G kn T x eG hdv=>?_) pm 0 0 0 0 h (by omega) (by omega) rfl (.refl h) rfl (by omega) (fun d=>⟨fun _ y hy=>by omega,fun _=>Nat.dvd_zero d⟩);have:=Ext.Dv_bl hM.m4 hM.n4 hk (fun d=>by rw[<-epm];exact hdv d);refine zq ?_;exact hQ G h' (by rw[eG,this]) x
end Go.Proofs.Ytdpbiegfljmhmaa
namespace Go.Proofs.Ytdpbiegfljmhmaa
open Go.Sim
set_option maxRecDepth 100000
structure Bld(h:AHeap)(es b n c:Nat)(cells:List Value):Prop where
 own:Own h b es cells
 lt:b<h.next
 len:cells.length=n*es
 cap:c=n\/c=someCap es n
theorem Bld.ext{h h':AHeap}{es b n c:Nat}{cells:List Value}(p:Bld h es b n c cells)(e:Ext h h'):Bld h' es b n c cells:=⟨p.own.ext e p.lt,Nat.lt_of_lt_of_le p.lt e.next,p.len,p.cap⟩
theorem append_fullC{P:Program}{t t2 e es:Nat}(hT:SliceT P t e es)(ht2:P.underlying t2=some (.slice e)){h:AHeap}{b n n2 c2:Nat}{a2:Option Addr}{cells news:List Value}(ho:Own h b es cells)(hb:b<h.next)(hl:cells.length=n*es)(hn:n<=1000)(hs:Cells h a2 n2 es news)(hok:cells.all cellOK=true)(hok2:news.all cellOK=true)(h0:0<n2)(hbig:n2<=1000000) :
  appendH P h [t,t2] [.slice (some ⟨b,0,none⟩) n n,.slice a2 n2 c2]=some (.slice (some ⟨h.next,0,none⟩) (n+n2) (someCap es (n+n2)),h.push es (cells++news)):=by
 obtain⟨by_,hby,hby2⟩:=hT.bytes;obtain⟨z,hz,hz2⟩:=hT.zero;have hnl:=hs.length;have hnews:newsA P h e es false (.slice a2 n2 c2)=some (n2,news):=(Feed.of (P:=P) (e:=e) c2 hs).1;have hcl:capLow n=n:=Nat.mod_eq_of_lt (by unfold slack;omega);unfold appendH;simp only[hT.und,hT.size,hby,ht2,hz,isIntDesc,hnews];rw[hcl,ble_false (by omega)];simp only[cond_false];rw[ble_true (show n+n2<=1073741824 by omega),ble_true hby2,hok2,hz2,hnl];simp only[Bool.and_self,Nat.beq_refl,cond_true];have hr:h.readG ⟨b,0,none⟩ (n*es)=some cells:=by rw[ho.readG (by omega)];simp[<-hl]
 simp only[hr];rw[blt_true (show n<slack by unfold slack;omega),hok];simp only[cond_true]
theorem append_bld{P:Program}{t t2 e es:Nat}(hT:SliceT P t e es)(ht2:P.underlying t2=some (.slice e)){h:AHeap}{b n c n2 c2:Nat}{a2:Option Addr}{cells news:List Value}(hp:Bld h es b n c cells)(hn:n<=1000)(hs:Cells h a2 n2 es news)(hok:cells.all cellOK=true)(hok2:news.all cellOK=true)(hbig:n2<=100000) :
  ∃b' c' h',appendH P h [t,t2] [.slice (some ⟨b,0,none⟩) n c,.slice a2 n2 c2]=some (.slice (some ⟨b',0,none⟩) (n+n2) c',h')/\Bld h' es b' (n+n2) c' (cells++news)/\h.next<=h'.next/\(b'=b\/h.next<=b')/\(∀j,j<h.next->j≠b->h'.m.get j=h.m.get j)/\(∀h0,Ext h0 h->h0.next<=b->Ext h0 h'/\h0.next<=b'):=by
 have hnl:=hs.length;rcases hp.cap with e|e
 ·subst e
  by_cases h2:n2=0
  ·subst h2
   have en:news=[]:=by simpa using hnl
   subst en;obtain⟨by_,hby,hby2⟩:=hT.bytes;obtain⟨z,hz,hz2⟩:=hT.zero;have hnews:newsA P h e es false (.slice a2 0 c2)=some (0,[]):=(Feed.of (P:=P) (e:=e) c2 hs).1;have hcl:capLow c=c:=Nat.mod_eq_of_lt (by unfold slack;omega);obtain⟨h',hw,ho',hw2⟩:=hp.own.write (o:=c*es) (vs:=[]) (by simp[hp.len]);have hwg:h.writeG (aadd ⟨b,0,none⟩ (c*es)) []=some h':=by
    unfold AHeap.writeG aadd;simp only[List.all_nil,cond_true,Nat.zero_add];exact hw
   refine⟨b,c,h',?_,⟨?_,by rw[hw2.next];exact hp.lt,by simpa using hp.len,.inl rfl⟩,by rw[hw2.next];exact Nat.le_refl _,.inl rfl,fun j _ j1=>hw2.get j j1,fun h0 e0 hb0=>⟨hw2.ext e0 hb0,hb0⟩⟩
   ·unfold appendH
    simp only[hT.und,hT.size,hby,ht2,hz,isIntDesc,hnews];rw[hcl,ble_true (show c+0<=c by omega)];simp only[cond_true,hwg]
   ·have:List.take (c*es) cells++([]++List.drop (c*es+([]:List Value).length) cells)=cells++[]:=by
     simp[<-hp.len]
    rw[this]at ho';exact ho'
  ·have:=append_fullC hT ht2 (c2:=c2) hp.own hp.lt hp.len hn hs hok hok2 (by omega) (by omega)
   refine⟨_,_,_,this,⟨Own.push _ _ _,by simp[AHeap.push],by rw[List.length_append,hp.len,hnl,Nat.add_mul],.inr rfl⟩,(Ext.push _ _ _).next,.inr (Nat.le_refl _),fun j j0 _=>(Ext.push _ _ _).get j j0,fun h0 e0 hb0=>⟨e0.trans (.push _ _ _),e0.next⟩⟩
 ·obtain⟨b',c',h',h1,⟨o1,o2,o3,o4⟩,h3,h4,h5,h6⟩:=append_any3 hT ht2 (c2:=c2) (show Own2 h es b n c cells from⟨hp.own,hp.lt,hp.len,.inr e⟩) (Feed.of c2 hs) hok hok2 (by omega)
  exact⟨b',c',h',h1,⟨o1,o2,o3,by rcases o4 with ⟨q1,q2⟩|q;left;omega;exact .inr q⟩,h3,h4,h5,h6⟩
variable{F:Prims}{call head arith cmp scmp bnot bsame conv neg imax imin ofNat slen place inR nz geZ rd wr push next mkOK nat zeros sadd eqAgg cut slc sslc strAt part app cpy putAt fresh lowered bump wrote addN lt ne fpAll fpApp brk yn rng mget mput mnew bytes clr:_}(hA:AP F ⟨call,head,arith,cmp,scmp,bnot,bsame,conv,neg,imax,imin,ofNat,slen,place,inR,nz,geZ,rd,wr,push,next,mkOK,nat,zeros,sadd,eqAgg,cut,slc,sslc,strAt,part,app,cpy,putAt,fresh,lowered,bump,wrote,addN,lt,ne,fpAll,fpApp,brk,yn,rng,mget,mput,mnew,bytes,clr⟩)
include hA
theorem appB_ok{t e es:Nat}(hT:SliceT Try.prog t e es){h:AHeap}{b n c n2 c2:Nat}{a2:Option Addr}{cells news:List Value}(hp:Bld h es b n c cells)(hn:n<=1000)(hs:Cells h a2 n2 es news)(hok:cells.all cellOK=true)(hok2:news.all cellOK=true)(hbig:n2<=100000){C:Option Addr->Nat->Nat->AHeap->Prop}
  (hC:∀b' c' h',Bld h' es b' (n+n2) c' (cells++news)->h.next<=h'.next->(b'=b\/h.next<=b')->(∀j,j<h.next->j≠b->h'.m.get j=h.m.get j)->(∀h0,Ext h0 h->h0.next<=b->Ext h0 h'/\h0.next<=b')->C (some ⟨b',0,none⟩) (n+n2) c' h') :
  app [t,t] [.slice (some ⟨b,0,none⟩) n c,.slice a2 n2 c2] h C:=by
 rw[e_app hA];obtain⟨b',c',h',h1,h2,h3,h4,h5,h6⟩:=append_bld hT hT.und (c2:=c2) hp hn hs hok hok2 hbig;exact⟨_,_,_,h',h1,hC b' c' h' h2 h3 h4 h5 h6⟩
theorem appB1_ok{h X:AHeap}{b n c nb:Nat}{l:List Int}{v:Int}(hp:Bld h 1 b n c (l.flatMap nC))(hn:n<=1000)(eX:X=push h 1 [.int .i64 v])(enb:nb=next h){C:Option Addr->Nat->Nat->AHeap->Prop}
  (hC:∀b' c' h',Bld h' 1 b' (n+1) c' ((l++[v]).flatMap nC)->(∀h0,Ext h0 h->h0.next<=b->Ext h0 h'/\h0.next<=b')->(∀j,j<h.next->j≠b->h'.m.get j=h.m.get j)->h.next<=h'.next->C (some ⟨b',0,none⟩) (n+1) c' h') :
  app [27,27] [.slice (some ⟨b,0,none⟩) n c,.slice (some ⟨nb,0,none⟩) 1 1] X C:=by
 rw[e_push hA]at eX;rw[e_next hA]at enb;subst eX enb;have xp:Ext h (h.push 1 [.int .i64 v]):=Ext.push h 1 _;have hs:Cells (h.push 1 [.int .i64 v]) (some ⟨h.next,0,none⟩) 1 1 [.int .i64 v]:=⟨rfl,by simp[AHeap.push],(Own.push h 1 [.int .i64 v]).readG (o:=0) (n:=1*1) (by show 0+1*1<=1;omega)⟩;have hlt:=hp.lt;have nx:(h.push 1 [.int .i64 v]).next=h.next+1:=rfl;refine appB_ok hA TI1 (hp.ext xp) hn hs (all_flat nC_ok l) rfl (by omega) (fun b' c' h' k1 k2 k3 k4 k5=>hC b' c' h' ?_ (fun h0 e0 hb=>k5 h0 (e0.trans xp) hb) (fun j j0 j1=>(k4 j (by omega) j1).trans (xp.get j j0)) (by omega));rw[List.flatMap_append];exact k1
end Go.Proofs.Ytdpbiegfljmhmaa
namespace Go.Proofs.Ytdpbiegfljmhmaa
open Go.Sim
set_option maxRecDepth 100000
structure InvR(g:List (List Int))(m n r:Nat):Prop where
 lm:r<=m
 ln:r<=n
 nz:∀k,k<r->Ext.Dv g m n (k+1)≠0
 fin:r=m\/r=n\/Ext.Dv g m n (r+1)=0
theorem InvR.uniq{g:List (List Int)}{m n r s:Nat}(h:InvR g m n r)(k:InvR g m n s):r=s:=by
 have one:∀{r s:Nat},InvR g m n r->InvR g m n s->¬r<s:=fun {r s} h k q=>by
  rcases h.fin with e|e|e
  ·have:=k.lm;omega
  ·have:=k.ln;omega
  ·exact k.nz r q e
 have:=one h k;have:=one k h;omega
def dvL(g:List (List Int))(m n:Nat)(k:Nat):List Int:=lst (fun x=>(Ext.Dv g m n x:Int)) k
def invL(g:List (List Int))(m n:Nat)(r:Nat):List Int:=lst (fun x=>((Ext.Dv g m n (x+1) / Ext.Dv g m n x:Nat):Int)) r
variable{F:Prims}{call head arith cmp scmp bnot bsame conv neg imax imin ofNat slen place inR nz geZ rd wr push next mkOK nat zeros sadd eqAgg cut slc sslc strAt part app cpy putAt fresh lowered bump wrote addN lt ne fpAll fpApp brk yn rng mget mput mnew bytes clr:_}(hA:AP F ⟨call,head,arith,cmp,scmp,bnot,bsame,conv,neg,imax,imin,ofNat,slen,place,inR,nz,geZ,rd,wr,push,next,mkOK,nat,zeros,sadd,eqAgg,cut,slc,sslc,strAt,part,app,cpy,putAt,fresh,lowered,bump,wrote,addN,lt,ne,fpAll,fpApp,brk,yn,rng,mget,mput,mnew,bytes,clr⟩)
include hA
theorem ds_loop{h0:AHeap}(hl0:h0.low<=h0.next){m n ac:Nat}{aa:Option Addr}{hds:List Hd}{g:List (List Int)}(hM:Mat g m n)(hg:GrR nC 1 h0 aa m hds g){Q:Exit->SS->Prop}
  (hQ:∀(h':AHeap) (b k c r:Nat),k=r+1->InvR g m n r->Bld h' 1 b k c ((dvL g m n k).flatMap nC)->h0.next<=b->Ext h0 h'->Q (.exit 0) ⟨[(3,.slice (some ⟨b,0,none⟩) k c)],0,[],h'⟩) :
  ∀(d k b c:Nat) (K:Int) (h:AHeap),6-k<=d->1<=k->k<=m+1->k<=n+1->K=k->(∀x,x+1<k->Ext.Dv g m n (x+1)≠0)->Bld h 1 b k c ((dvL g m n k).flatMap nC)->h0.next<=b->Ext h0 h->
   head 27 3 0 ⟨[(0,.slice aa m ac),(3,.slice (some ⟨b,0,none⟩) k c),(4,.int .i64 K)],0,[],h⟩ Q:=by
 intro d;have m4:=hM.m4;have n4:=hM.n4;have m1:=hM.m1;have n1:=hM.n1;obtain⟨M,eM⟩:∃z:Int,z=m:=⟨_,rfl⟩;have e1:ofNat m=M:=by rw[eM];exact e_ofNat hA m
 obtain⟨N,eN⟩:∃z:Int,z=n:=⟨_,rfl⟩;have e2:ofNat n=N:=by rw[eN];exact e_ofNat hA n
 obtain⟨W,eW⟩:∃z:Int,z=if N<M then N else M:=⟨_,rfl⟩
 have e3:imin M N=W:=by rw[eW,e_imin hA]
 have hW:W=N/\N<=M\/W=M/\M<=N:=by rw[eW];split<;>omega
 have hln:(gt g 0).length=n:=hM.row 0 (by omega) (by omega);have row:=hg.row 0 (by omega) (by omega);have hn2:=row.len;rw[hln]at hn2
 induction d with
 |zero=>intro k b c K h hd k1 km kn;omega
 |succ d ih=>
 intro k b c K h hd k1 km kn eK hz B hb x;have hlow:=x.lowOK hl0;obtain⟨ab,ao,rfl,hab,q1⟩:=(hg.ext x).hdAt (i:=0) (by omega) (by omega);rw[<-hn2]at q1;obtain⟨ra,era⟩:∃z,z=(gt hds 0).a:=⟨_,rfl⟩;obtain⟨rc,erc⟩:∃z,z=(gt hds 0).c:=⟨_,rfl⟩;rw[<-era,<-erc]at q1;have r1:rd h ab (place ao 0 1) 1 [.slice ra n rc]:=rd_ok hA q1;refine hA.roundR Try.func27 r27_ok (zc ?_)
 (refine zq ?_;repeat ((first|rw[e1]|rw[e2]|rw[e3]);refine zq ?_))
 refine br (K<=W) (by rw[e_leq hA]) (fun ck=>?_) (fun ck=>?_)<;>refine zc ?_
 rotate_left
 ·exact hQ h b k c (k-1) (by omega) ⟨by omega,by omega,fun y hy=>hz y (by omega),by omega⟩ B hb x
 refine zq ?_;refine divisor_ok hA hlow hM (hg.ext x) eK (by omega) (fun v h1 ev x1=>⟨v,rfl,?_⟩);refine zq ?_;refine br (v=0) (by rw[e_eql hA]) (fun cz=>?_) (fun cz=>?_)<;>refine zc ?_
 ·refine hQ h1 b k c (k-1) (by omega) ⟨by omega,by omega,fun y hy=>hz y (by omega),?_⟩ (B.ext x1) hb (x.trans x1)
  rw[show k-1+1=k by omega];omega
 obtain⟨nb,enb⟩:∃z,z=next h1:=⟨_,rfl⟩;obtain⟨X,eX⟩:∃z,z=push h1 1 [.int .i64 v]:=⟨_,rfl⟩;refine zc ?_;rw[<-enb,<-eX];refine zq ?_;refine appB1_ok hA (B.ext x1) (by omega) eX enb (fun b' c' h' B2 k2 k3 k4=>?_);obtain⟨x2,hb2⟩:=k2 h0 (x.trans x1) hb;have ed:dvL g m n k++[v]=dvL g m n (k+1):=by
  unfold dvL;rw[lst_succ,ev]
 rw[ed]at B2;obtain⟨k1',ek1⟩:∃z,z=k+1:=⟨_,rfl⟩;rw[<-ek1]at B2 ⊢;refine zq ?_;rw[add64 hA (by omega) (by omega)];refine ih k1' b' c' (K+1) h' (by omega) (by omega) (by omega) (by omega) (by omega) (fun y hy=>?_) B2 hb2 x2;by_cases e:y+1=k
 ·rw[e];omega
 ·exact hz y (by omega)
theorem divisors_ok{h:AHeap}(hlow:h.low<=h.next){m n ac:Nat}{aa:Option Addr}{hds:List Hd}{g:List (List Int)}(hM:Mat g m n)(hg:GrR nC 1 h aa m hds g){Q:Value->AHeap->Prop}
  (hQ:∀(h':AHeap) (b k c r:Nat),k=r+1->InvR g m n r->Bld h' 1 b k c ((dvL g m n k).flatMap nC)->Ext h h'->Q (.slice (some ⟨b,0,none⟩) k c) h'):call 27 [.slice aa m ac] h Q:=by
 obtain⟨nb,enb⟩:∃z,z=next h:=⟨_,rfl⟩;obtain⟨X,eX⟩:∃z,z=push h 1 [.int .i64 1]:=⟨_,rfl⟩;refine hA.bodyR Try.func27 r27_ok (hA.alike _ _ _ rfl) hlow (zc ?_);rw[<-enb,<-eX];refine zq ?_;rw[e_push hA]at eX;rw[e_next hA]at enb;have xp:Ext h X:=by rw[eX];exact Ext.push h 1 _
 have B:Bld X 1 nb 1 1 ((dvL g m n 1).flatMap nC):=by
  have:(dvL g m n 1).flatMap nC=[.int .i64 1]:=by
   unfold dvL lst;simp[List.range_succ,nC,Ext.Dv_zero]
  rw[this,eX,enb];exact⟨Own.push h 1 _,by simp[AHeap.push],rfl,.inl rfl⟩
 refine ds_loop hA hlow hM hg (fun h' b k c r ek ir B' hb x=>?_) 5 1 nb 1 1 X (by omega) (by omega) (by omega) (by omega) rfl (fun y hy=>by omega) B (by omega) xp;refine zq ?_;exact hQ h' b k c r ek ir B' x
