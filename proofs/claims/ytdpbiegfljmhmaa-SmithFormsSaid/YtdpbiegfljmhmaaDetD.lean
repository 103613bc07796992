import Derived.Test.YtdpbiegfljmhmaaDetA
set_option linter.unusedSimpArgs false
set_option linter.unusedVariables false
namespace Go.Proofs.Ytdpbiegfljmhmaa.Ext
def smT(f:Nat->Int):Nat->Int
 |0=>0
 |n+1=>smT f n+f n
def sg(x:Nat):Int:=if x % 2=0 then 1 else -1
def lap(a:Int->Int->Int):List Int->List Int->Int
 | [],_=>1
 |r :: rs,cs=>smT (fun x=>sg x*a r (gt cs x)*lap a rs (cs.eraseIdx x)) cs.length
def el(g:List (List Int))(i j:Int):Int:=gt (gt g i) j
def mnr(g:List (List Int))(k:Nat)(r c:List Int):Int:=dt k (fun i j=>el g (gt r i) (gt c j))
theorem lap_dt(g:List (List Int)){k:Nat}(hk:k<=4){r c:List Int}(hr:r.length=k)(hc:c.length=k):lap (el g) r c=mnr g k r c:=by
 have e:k=0\/k=1\/k=2\/k=3\/k=4:=by omega
 rcases e with rfl|rfl|rfl|rfl|rfl
 ·match r,hr with
  | [],_=>rfl
 ·match r,c,hr,hc with
  | [r0],[c0],_,_=>simp[lap,mnr,dt,smT,sg,gt]
 ·match r,c,hr,hc with
  | [r0,r1],[c0,c1],_,_=>simp[lap,mnr,dt,d2,smT,sg,gt];grind
 ·match r,c,hr,hc with
  | [r0,r1,r2],[c0,c1,c2],_,_=>simp[lap,mnr,dt,d2,d3,smT,sg,gt];grind
 ·match r,c,hr,hc with
  | [r0,r1,r2,r3],[c0,c1,c2,c3],_,_=>simp[lap,mnr,dt,d2,d3,d4,smT,sg,gt];grind
theorem mnr_le{g:List (List Int)}(h9:∀i j,(gt (gt g i) j).natAbs<=9)(k:Nat)(r c:List Int):(mnr g k r c).natAbs<=157464:=dt_le fun _ _ _ _=>h9 _ _
def ch(n:Nat):Nat->Nat->List (List Int)
 |0,_=>[[]]
 |k+1,f=>(List.range' f (n-f)).flatMap fun i=>(ch n k (i+1)).map (fun l=>(i:Int) :: l)
def bl(n w:Nat):List Int:=((List.range n).filter (fun i=>w.testBit i)).map Int.ofNat
theorem ch_len(n:Nat):∀(k f:Nat),∀l∈ch n k f,l.length=k:=by
 intro k
 induction k with
 |zero=>intro f l hl;simp[ch]at hl;simp[hl]
 |succ k ih=>
  intro f l hl;simp only[ch,List.mem_flatMap,List.mem_map]at hl;obtain⟨i,_,l',hl',rfl⟩:=hl;simp[ih _ l' hl']
theorem ch_lt(n:Nat):∀(k f:Nat),∀l∈ch n k f,∀x∈l,0<=x/\x<n:=by
 intro k
 induction k with
 |zero=>intro f l hl;simp[ch]at hl;simp[hl]
 |succ k ih=>
  intro f l hl x hx;simp only[ch,List.mem_flatMap,List.mem_map]at hl;obtain⟨i,hi,l',hl',rfl⟩:=hl;rcases List.mem_cons.1 hx with e|e
  ·have:=List.mem_range'_1.1 hi;omega
  ·exact ih _ l' hl' x e
theorem ch_bl0:((List.range 5).all fun n=>(List.range 5).all fun k=>((List.range (2 ^ n)).all fun w=>!((bl n w).length == k) || (ch n k 0).contains (bl n w)) && (ch n k 0).all fun l=>(List.range (2 ^ n)).any fun w=>bl n w == l)=true:=by decide +kernel
theorem ch_bl(n:Nat)(hn:n<=4)(k:Nat)(hk:k<=4):(∀w,w<2 ^ n->(bl n w).length=k->bl n w∈ch n k 0)/\∀l∈ch n k 0,∃w,w<2 ^ n/\bl n w=l:=by
 have h:=ch_bl0;simp only[List.all_eq_true,Bool.and_eq_true]at h;obtain⟨a,b⟩:=h n (List.mem_range.2 (by omega)) k (List.mem_range.2 (by omega));refine⟨fun w hw hl=>?_,fun l hl=>?_⟩
 ·have:=a w (List.mem_range.2 hw)
  simpa[hl]using this
 ·obtain⟨w,hw,e⟩:=List.any_eq_true.1 (b l hl)
  exact⟨w,List.mem_range.1 hw,by simpa using e⟩
def DvI(g:List (List Int))(m n k G:Nat):Prop:=∀d:Nat,d∣G↔∀r∈ch m k 0,∀c∈ch n k 0,d∣(mnr g k r c).natAbs
theorem DvI.uniq{g:List (List Int)}{m n k G H:Nat}(a:DvI g m n k G)(b:DvI g m n k H):G=H:=
 Nat.dvd_antisymm ((b G).2 ((a G).1 (Nat.dvd_refl G))) ((a H).2 ((b H).1 (Nat.dvd_refl H)))
def Dv(g:List (List Int))(m n k:Nat):Nat:=(ch m k 0).foldl (fun s r=>(ch n k 0).foldl (fun s c=>Nat.gcd s (mnr g k r c).natAbs) s) 0
theorem fold_gcd{α:Type}(f:α->Nat)(l:List α):∀s d:Nat,d∣l.foldl (fun s c=>Nat.gcd s (f c)) s↔d∣s/\∀c∈l,d∣f c:=by
 induction l with
 |nil=>intro s d;simp
 |cons x l ih=>intro s d;rw[List.foldl_cons,ih,Nat.dvd_gcd_iff];simp only[List.mem_cons,forall_eq_or_imp,and_assoc]
theorem fold_gcd2{α β:Type}(f:β->α->Nat)(l:List α)(l':List β):∀s d:Nat,d∣l'.foldl (fun s r=>l.foldl (fun s c=>Nat.gcd s (f r c)) s) s↔d∣s/\∀r∈l',∀c∈l,d∣f r c:=by
 induction l' with
 |nil=>intro s d;simp
 |cons x l' ih=>intro s d;rw[List.foldl_cons,ih,fold_gcd];simp only[List.mem_cons,forall_eq_or_imp,and_assoc]
theorem Dv_is(g:List (List Int))(m n k:Nat):DvI g m n k (Dv g m n k):=by
 intro d;unfold Dv;rw[fold_gcd2 (fun r c=>(mnr g k r c).natAbs)];simp
theorem Dv_bl{g:List (List Int)}{m n k G:Nat}(hm:m<=4)(hn:n<=4)(hk:k<=4)(h:∀d:Nat,d∣G↔∀R,R<2 ^ m->(bl m R).length=k->∀C,C<2 ^ n->(bl n C).length=k->d∣(mnr g k (bl m R) (bl n C)).natAbs):G=Dv g m n k:=by
 refine DvI.uniq (g:=g) (m:=m) (n:=n) (k:=k) (fun d=>?_) (Dv_is g m n k);rw[h d];obtain⟨a1,a2⟩:=ch_bl m hm k hk;obtain⟨b1,b2⟩:=ch_bl n hn k hk;constructor
 ·intro q r hr c hc
  obtain⟨R,hR,eR⟩:=a2 r hr;obtain⟨C,hC,eC⟩:=b2 c hc;have:=q R hR (by rw[eR];exact ch_len m k 0 r hr) C hC (by rw[eC];exact ch_len n k 0 c hc)
  rwa [eR,eC]at this
 ·intro q R hR lR C hC lC
  exact q _ (a1 R hR lR) _ (b1 C hC lC)
theorem Dv_zero(g:List (List Int))(m n:Nat):Dv g m n 0=1:=by
 simp[Dv,ch,mnr,dt]
theorem gcd_le{a b B:Nat}(ha:a<=B)(hb:b<=B):Nat.gcd a b<=B:=by
 rcases Nat.eq_zero_or_pos a with e|e
 ·rw[e,Nat.gcd_zero_left];exact hb
 ·exact Nat.le_trans (Nat.gcd_le_left b e) ha
theorem Dv_le{g:List (List Int)}(h9:∀i j,(gt (gt g i) j).natAbs<=9)(m n k:Nat):Dv g m n k<=157464:=by
 rcases Nat.eq_zero_or_pos (Dv g m n k)with e|e
 ·omega
 ·refine Classical.byContradiction fun q=>?_
  have h:=(Dv_is g m n k (Dv g m n k)).1 (Nat.dvd_refl _);have z:Dv g m n k=0:=by
   have:(0:Nat)∣Dv g m n k:=(Dv_is g m n k 0).2 (fun r hr c hc=>by
    have hd:=h r hr c hc;have hle:=mnr_le h9 k r c;rcases Nat.eq_zero_or_pos (mnr g k r c).natAbs with e0|e0
    ·rw[e0]
     exact Nat.dvd_refl 0
    ·have:=Nat.le_of_dvd e0 hd
     omega)
   exact Nat.eq_zero_of_zero_dvd this
  omega
theorem bl_succ(n w:Nat):bl (n+1) w=if w.testBit n then bl n w++[(n:Int)] else bl n w:=by
 unfold bl;rw[List.range_succ,List.filter_append,List.map_append];by_cases c:w.testBit n
 ·simp[c]
 ·simp[c]
theorem bl_le(n w:Nat):(bl n w).length<=n:=by
 unfold bl;rw[List.length_map];exact Nat.le_trans (List.length_filter_le _ _) (by rw[List.length_range];exact Nat.le_refl _)
theorem bl_four:∀n w:Nat,n<=4->w<2 ^ n->(bl 4 w).length=(bl n w).length:=by
 have h:((List.range 5).all fun n=>(List.range (2 ^ n)).all fun w=>(bl 4 w).length == (bl n w).length)=true:=by decide +kernel
 intro n w hn hw;simp only[List.all_eq_true]at h;simpa using h n (List.mem_range.2 (by omega)) w (List.mem_range.2 hw)
theorem gt_snoc(l:List Int)(x:Int){i:Nat}(h:i<=l.length):gt (l++[x]) (i:Int)=if i<l.length then gt l (i:Int)else x:=by
 unfold gt;rw[List.getD_eq_getElem?_getD,List.getD_eq_getElem?_getD];show(l++[x])[i]?.getD default=_;by_cases c:i<l.length
 ·rw[List.getElem?_append_left c,if_pos c];rfl
 ·rw[if_neg c,show i=l.length by omega,List.getElem?_concat_length];rfl
end Go.Proofs.Ytdpbiegfljmhmaa.Ext
namespace Go.Proofs.Ytdpbiegfljmhmaa
open Go.Sim
set_option maxRecDepth 100000
variable{F:Prims}{call head arith cmp scmp bnot bsame conv neg imax imin ofNat slen place inR nz geZ rd wr push next mkOK nat zeros sadd eqAgg cut slc sslc strAt part app cpy putAt fresh lowered bump wrote addN lt ne fpAll fpApp brk yn rng mget mput mnew bytes clr:_}(hA:AP F ⟨call,head,arith,cmp,scmp,bnot,bsame,conv,neg,imax,imin,ofNat,slen,place,inR,nz,geZ,rd,wr,push,next,mkOK,nat,zeros,sadd,eqAgg,cut,slc,sslc,strAt,part,app,cpy,putAt,fresh,lowered,bump,wrote,addN,lt,ne,fpAll,fpApp,brk,yn,rng,mget,mput,mnew,bytes,clr⟩)
include hA
theorem sgcd_loop{h0:AHeap}(g:Nat){Q:Exit->SS->Prop}
  (hQ:∀(a:Int) h',a.natAbs=g->a.natAbs<=9000000000000000000->Ext h0 h'->Q (.exit 0) ⟨[(0,.int .i64 a)],0,[],h'⟩) :
  ∀(d:Nat) (a b:Int) (h:AHeap),b.natAbs<=d->Int.gcd a b=g->a.natAbs<=9000000000000000000->b.natAbs<=9000000000000000000->Ext h0 h->
   head 67 1 0 ⟨[(0,.int .i64 a),(1,.int .i64 b)],0,[],h⟩ Q:=by
 intro d
 induction d with
 |zero=>
  intro a b h hd hg ha hb x;obtain rfl:b=0:=by omega
  refine hA.roundR Try.func67 r67_ok (zc ?_);refine br ((0:Int)≠0) (by rw[e_neq hA]) (fun q=>absurd rfl q) (fun _=>?_)<;>refine zc ?_;exact hQ a h (by rw[<-hg,Int.gcd_zero_right]) ha x
 |succ d ih=>
 intro a b h hd hg ha hb x;by_cases cb:b=0
 ·subst cb
  refine hA.roundR Try.func67 r67_ok (zc ?_);refine br ((0:Int)≠0) (by rw[e_neq hA]) (fun q=>absurd rfl q) (fun _=>?_)<;>refine zc ?_;exact hQ a h (by rw[<-hg,Int.gcd_zero_right]) ha x
 obtain⟨r,er⟩:∃z,z=a.tmod b:=⟨_,rfl⟩;have m1:arith .rem .i64 a b=r:=by rw[er,e_rem hA]
 have lt:r.natAbs<b.natAbs:=by rw[er,Int.natAbs_tmod];exact Nat.mod_lt _ (by omega)
 have eg:Int.gcd b r=g:=by
  rw[<-hg,er];show Nat.gcd b.natAbs (a.tmod b).natAbs=Nat.gcd a.natAbs b.natAbs;rw[Int.natAbs_tmod,Nat.gcd_comm a.natAbs,Nat.gcd_comm b.natAbs (a.natAbs % b.natAbs),<-Nat.gcd_rec]
 refine hA.roundR Try.func67 r67_ok (zc ?_);refine br (b≠0) (by rw[e_neq hA]) (fun _=>?_) (fun q=>absurd cb q)<;>refine zc ?_
 (refine zq ?_;repeat ((first|rw[m1]);refine zq ?_))
 exact ih b r _ (by omega) eg hb (by omega) (x.trans (ext_bump hA _ _))
theorem sgcd_ok{h:AHeap}(hlow:h.low<=h.next){a b:Int}(ha:a.natAbs<=9000000000000000000)(hb:b.natAbs<=9000000000000000000){Q:Value->AHeap->Prop}(hQ:∀h',Ext h h'->Q (.int .i64 (Int.gcd a b)) h'):call 67 [.int .i64 a,.int .i64 b] h Q:=by
 refine hA.bodyR Try.func67 r67_ok (hA.alike _ _ _ rfl) hlow (zc ?_);refine sgcd_loop hA (h0:=h) (Int.gcd a b) (fun x h' hx hle x1=>?_) b.natAbs a b h (Nat.le_refl _) rfl ha hb (.refl h);obtain⟨G,eG⟩:∃z:Int,z=Int.gcd a b:=⟨_,rfl⟩;have m1:imax x (neg .i64 x)=G:=by rw[e_imax hA,e_neg hA,wrap64 (by omega) (by omega)];omega
 have hq:=hQ h' x1;rw[<-eG]at hq
 (refine zq ?_;repeat ((first|rw[m1]);refine zq ?_))
 exact hq
theorem gcd30_loop{h0:AHeap}(g:Nat){Q:Exit->SS->Prop}
  (hQ:∀(a:Int) h',(a.natAbs=g/\0<=a)->a.natAbs<=9000000000000000000->Ext h0 h'->Q (.exit 0) ⟨[(0,.int .i64 a)],0,[],h'⟩) :
  ∀(d:Nat) (a b:Int) (h:AHeap),b.natAbs<=d->0<=a->0<=b->Int.gcd a b=g->a.natAbs<=9000000000000000000->b.natAbs<=9000000000000000000->Ext h0 h->
   head 83 2 0 ⟨[(0,.int .i64 a),(1,.int .i64 b)],0,[],h⟩ Q:=by
 intro d
 induction d with
 |zero=>
  intro a b h hd a0 b0 hg ha hb x;obtain rfl:b=0:=by omega
  refine hA.roundR Try.func83 r83_ok (zc ?_);refine br ((0:Int)≠0) (by rw[e_neq hA]) (fun q=>absurd rfl q) (fun _=>?_)<;>refine zc ?_;exact hQ a h ⟨by rw[<-hg,Int.gcd_zero_right],a0⟩ ha x
 |succ d ih=>
 intro a b h hd a0 b0 hg ha hb x;by_cases cb:b=0
 ·subst cb
  refine hA.roundR Try.func83 r83_ok (zc ?_);refine br ((0:Int)≠0) (by rw[e_neq hA]) (fun q=>absurd rfl q) (fun _=>?_)<;>refine zc ?_;exact hQ a h ⟨by rw[<-hg,Int.gcd_zero_right],a0⟩ ha x
 obtain⟨r,er⟩:∃z,z=a.tmod b:=⟨_,rfl⟩;have m1:arith .rem .i64 a b=r:=by rw[er,e_rem hA]
 have lt:r.natAbs<b.natAbs:=by rw[er,Int.natAbs_tmod];exact Nat.mod_lt _ (by omega)
 have eg:Int.gcd b r=g:=by
  rw[<-hg,er];show Nat.gcd b.natAbs (a.tmod b).natAbs=Nat.gcd a.natAbs b.natAbs;rw[Int.natAbs_tmod,Nat.gcd_comm a.natAbs,Nat.gcd_comm b.natAbs (a.natAbs % b.natAbs),<-Nat.gcd_rec]
 refine hA.roundR Try.func83 r83_ok (zc ?_);refine br (b≠0) (by rw[e_neq hA]) (fun _=>?_) (fun q=>absurd cb q)<;>refine zc ?_
 (refine zq ?_;repeat ((first|rw[m1]);refine zq ?_))
 exact ih b r _ (by omega) b0 (by rw[er];exact Int.tmod_nonneg b a0) eg hb (by omega) (x.trans (ext_bump hA _ _))
theorem gcd30_ok{h:AHeap}(hlow:h.low<=h.next){a b:Int}(ha:a.natAbs<=9000000000000000000)(hb:b.natAbs<=9000000000000000000){Q:Value->AHeap->Prop}(hQ:∀h',Ext h h'->Q (.int .i64 (Int.gcd a b)) h'):call 83 [.int .i64 a,.int .i64 b] h Q:=by
 obtain⟨A,eA⟩:∃z:Int,z=a.natAbs:=⟨_,rfl⟩;obtain⟨B,eB⟩:∃z:Int,z=b.natAbs:=⟨_,rfl⟩;have m1:imax a (neg .i64 a)=A:=by rw[e_imax hA,e_neg hA,wrap64 (by omega) (by omega)];omega
 have m2:imax b (neg .i64 b)=B:=by rw[e_imax hA,e_neg hA,wrap64 (by omega) (by omega)];omega
 have eg:Int.gcd A B=Int.gcd a b:=by rw[eA,eB];show Nat.gcd (Int.natAbs a) (Int.natAbs b)=_;rfl
 refine hA.bodyR Try.func83 r83_ok (hA.alike _ _ _ rfl) hlow (zc ?_)
 (refine zq ?_;repeat ((first|rw[m1]|rw[m2]);refine zq ?_))
 refine gcd30_loop hA (h0:=h) (Int.gcd a b) (fun x h' hx hle x1=>?_) B.natAbs A B h (Nat.le_refl _) (by omega) (by omega) eg (by omega) (by omega) (.refl h);have hq:=hQ h' x1;rw[show((Int.gcd a b:Nat):Int)=x by omega]at hq;refine zq ?_;exact hq
end Go.Proofs.Ytdpbiegfljmhmaa
namespace Go.Proofs.Ytdpbiegfljmhmaa
open Go.Sim
set_option maxRecDepth 100000
def sqV(s:Nat)(M:Nat->Nat->Int)(p:Nat):Int:=if p=0 then(s:Int)else M ((p-1) / 4) ((p-1) % 4)
structure Sq(h0 h:AHeap)(b s:Nat)(M:Nat->Nat->Int):Prop where
 ext:Ext h0 h
 own:Own h b 17 ((lst (sqV s M) 17).map (.int .i64))
 old:h0.next<=b
 lt:b<h.next
section
variable{h0 h:AHeap}{b s:Nat}{M:Nat->Nat->Int}
theorem Sq.more{h':AHeap}(t:Sq h0 h b s M)(e:Ext h h'):Sq h0 h' b s M:=⟨t.ext.trans e,t.own.ext e t.lt,t.old,Nat.lt_of_lt_of_le t.lt e.next⟩
theorem Sq.congr{N:Nat->Nat->Int}(t:Sq h0 h b s M)(e:∀i j,i<4->j<4->M i j=N i j):Sq h0 h b s N:=
 ⟨t.ext,by
  have:lst (sqV s N) 17=lst (sqV s M) 17:=lst_congr (fun p hp=>by
   unfold sqV;split
   ·rfl
   ·exact(e _ _ (by omega) (by omega)).symm)
  rw[this];exact t.own,t.old,t.lt⟩
theorem Sq.cell(t:Sq h0 h b s M){p:Nat}(hp:p<17):h.readG ⟨b,p,none⟩ 1=some [.int .i64 (sqV s M p)]:=by
 rw[t.own.getInt (by rw[lst_len];exact hp),List.getD_eq_getElem?_getD,lst_at _ hp];rfl
theorem Sq.size(t:Sq h0 h b s M):h.readG ⟨b,0+0,none⟩ 1=some [.int .i64 s]:=t.cell (p:=0) (by omega)
theorem Sq.el(t:Sq h0 h b s M){i j:Nat}(hi:i<4)(hj:j<4):h.readG ⟨b,0+1+i*4+j*1,none⟩ 1=some [.int .i64 (M i j)]:=by
 rw[t.cell (by omega)];unfold sqV;rw[if_neg (by omega),show(0+1+i*4+j*1-1) / 4=i by omega,show(0+1+i*4+j*1-1) % 4=j by omega]
theorem Sq.wr{v:Int}{p:Nat}{s':Nat}{N:Nat->Nat->Int}(t:Sq h0 h b s M)(hp:p<17)(e:∀q,q<17->(if q=p then v else sqV s M q)=sqV s' N q):∃h',h.write b p [.int .i64 v]=some h'/\Sq h0 h' b s' N/\Wrote h h' b:=by
 obtain⟨h',w1,w2,w3⟩:=t.own.setInt (i:=p) (by rw[lst_len];exact hp) v;refine⟨h',w1,⟨w3.ext t.ext t.old,?_,t.old,by rw[w3.next];exact t.lt⟩,w3⟩;rw[lst_set,lst_congr e]at w2;exact w2
theorem Sq.set(t:Sq h0 h b s M){i j:Nat}(hi:i<4)(hj:j<4)(v:Int):∃h',h.write b (0+1+i*4+j*1) [.int .i64 v]=some h'/\Sq h0 h' b s (updV M i j v)/\Wrote h h' b:=
 t.wr (by omega) (fun q hq=>by
  unfold sqV updV;by_cases c:q=0+1+i*4+j*1
  ·rw[if_pos c,if_neg (by omega),if_pos (by omega)]
  ·rw[if_neg c]
   by_cases c0:q=0
   ·rw[if_pos c0,if_pos c0]
   ·rw[if_neg c0,if_neg c0,if_neg (by omega)])
theorem Sq.grow(t:Sq h0 h b s M){S:Int}(eS:S=(s:Int)+1):∃h',h.write b (0+0) [.int .i64 S]=some h'/\Sq h0 h' b (s+1) M/\Wrote h h' b:=
 t.wr (by omega) (fun q hq=>by
  unfold sqV;by_cases c:q=0+0
  ·rw[if_pos c,if_pos c,eS];rfl
  ·rw[if_neg c,if_neg (by omega),if_neg (by omega)])
theorem Sq.row(t:Sq h0 h b s M){i:Nat}(hi:i<4):h.readG ⟨b,0+1+i*4,none⟩ 4=some [.int .i64 (M i 0),.int .i64 (M i 1),.int .i64 (M i 2),.int .i64 (M i 3)]:=by
 rw[t.own.readG (by rw[List.length_map,lst_len];omega)];have h:i=0\/i=1\/i=2\/i=3:=by omega
 rcases h with rfl|rfl|rfl|rfl<;>rfl
def putM(M:Nat->Nat->Int)(i:Nat)(w:Nat->Int):Nat->Nat->Int:=fun x y=>if x=i then w y else M x y
theorem Sq.setRow(t:Sq h0 h b s M){i:Nat}(hi:i<4)(w:Nat->Int):∃h',h.write b (0+1+i*4) [.int .i64 (w 0),.int .i64 (w 1),.int .i64 (w 2),.int .i64 (w 3)]=some h'/\Sq h0 h' b s (putM M i w)/\Wrote h h' b:=by
 obtain⟨h',w1,w2,w3⟩:=t.own.write (o:=0+1+i*4) (vs:=[.int .i64 (w 0),.int .i64 (w 1),.int .i64 (w 2),.int .i64 (w 3)]) (by rw[List.length_map,lst_len];show 0+1+i*4+4<=17;omega);refine⟨h',w1,⟨w3.ext t.ext t.old,?_,t.old,by rw[w3.next];exact t.lt⟩,w3⟩;have h:i=0\/i=1\/i=2\/i=3:=by omega
 rcases h with rfl|rfl|rfl|rfl<;>exact w2
theorem Sq.new(h:AHeap):Sq h (h.push 17 (List.replicate 17 (.int .i64 0))) h.next 0 (fun _ _=>0):=
 ⟨.push h _ _,Own.push h 17 _,Nat.le_refl _,by simp[AHeap.push]⟩
end
variable{F:Prims}{call head arith cmp scmp bnot bsame conv neg imax imin ofNat slen place inR nz geZ rd wr push next mkOK nat zeros sadd eqAgg cut slc sslc strAt part app cpy putAt fresh lowered bump wrote addN lt ne fpAll fpApp brk yn rng mget mput mnew bytes clr:_}(hA:AP F ⟨call,head,arith,cmp,scmp,bnot,bsame,conv,neg,imax,imin,ofNat,slen,place,inR,nz,geZ,rd,wr,push,next,mkOK,nat,zeros,sadd,eqAgg,cut,slc,sslc,strAt,part,app,cpy,putAt,fresh,lowered,bump,wrote,addN,lt,ne,fpAll,fpApp,brk,yn,rng,mget,mput,mnew,bytes,clr⟩)
include hA
theorem ones64_ok{x:Int}(h0:0<=x)(h1:x<16){h:AHeap}(hlow:h.low<=h.next){Q:Value->AHeap->Prop}(hQ:∀v:Int,v=(Ext.bl 4 x.toNat).length->Q (.int .i64 v) h):call 94 [.int .u64 x] h Q:=by
 refine hA.bodyR Try.func94 r94_ok (hA.alike _ _ _ rfl) hlow (zc ?_);refine zq ?_;refine hQ _ ?_;simp only[e_shr hA,e_and hA,e_add hA,e_conv hA];have hx:x=0\/x=1\/x=2\/x=3\/x=4\/x=5\/x=6\/x=7\/x=8\/x=9\/x=10\/x=11\/x=12\/x=13\/x=14\/x=15:=by omega
 rcases hx with rfl|rfl|rfl|rfl|rfl|rfl|rfl|rfl|rfl|rfl|rfl|rfl|rfl|rfl|rfl|rfl<;>rfl
theorem ones_ok{x:Int}(h0:0<=x)(h1:x<16){h:AHeap}(hlow:h.low<=h.next){Q:Value->AHeap->Prop}(hQ:∀v:Int,v=(Ext.bl 4 x.toNat).length->Q (.int .i64 v) h):call 79 [.int .u64 x] h Q:=by
 refine hA.bodyR Try.func79 r79_ok (hA.alike _ _ _ rfl) hlow (zc ?_);refine ones64_ok hA h0 h1 hlow (fun v ev=>⟨v,rfl,?_⟩);refine zq ?_;exact hQ v ev
