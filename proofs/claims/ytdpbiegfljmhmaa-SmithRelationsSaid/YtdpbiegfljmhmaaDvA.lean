import Derived.Test.YtdpbiegfljmhmaaDetA
import Derived.Test.YtdpbiegfljmhmaaSmB
set_option linter.unusedSimpArgs false
set_option linter.unusedVariables false
namespace Go.Proofs.Ytdpbiegfljmhmaa.Ext
def sg(x:Nat):Int:=if x % 2=0 then 1 else -1
def el(g:List (List Int))(i j:Int):Int:=gt (gt g i) j
def mnr(g:List (List Int))(k:Nat)(r c:List Int):Int:=dt k (fun i j=>el g (gt r i) (gt c j))
theorem mnr_le{g:List (List Int)}(h9:∀i j,(gt (gt g i) j).natAbs<=9)(k:Nat)(r c:List Int):(mnr g k r c).natAbs<=157464:=dt_le fun _ _ _ _=>h9 _ _
def ch(n:Nat):Nat->Nat->List (List Int)
 |0,_=>[[]]
 |k+1,f=>(List.range' f (n-f)).flatMap fun i=>(ch n k (i+1)).map (fun l=>(i:Int) :: l)
def bl(n w:Nat):List Int:=((List.range n).filter (fun i=>w.testBit i)).map Int.ofNat
theorem ch_len(n:Nat):∀(k f:Nat),∀l∈ch n k f,l.length=k:=by
 intro k
 induction k with
 |zero=>intro f l hl;simp[ch]at hl;simp[hl]
 |succ k ih=>
  intro f l hl;simp only[ch,List.mem_flatMap,List.mem_map]at hl;obtain⟨i,_,l',hl',rfl⟩:=hl;simp[ih _ l' hl']
theorem ch_lt(n:Nat):∀(k f:Nat),∀l∈ch n k f,∀x∈l,0<=x/\x<n:=by
 intro k
 induction k with
 |zero=>intro f l hl;simp[ch]at hl;simp[hl]
 |succ k ih=>
  intro f l hl x hx;simp only[ch,List.mem_flatMap,List.mem_map]at hl;obtain⟨i,hi,l',hl',rfl⟩:=hl;rcases List.mem_cons.1 hx with e|e
  ·have:=List.mem_range'_1.1 hi;omega
  ·exact ih _ l' hl' x e
theorem ch_bl0:((List.range 5).all fun n=>(List.range 5).all fun k=>((List.range (2 ^ n)).all fun w=>!((bl n w).length == k) || (ch n k 0).contains (bl n w)) && (ch n k 0).all fun l=>(List.range (2 ^ n)).any fun w=>bl n w == l)=true:=by decide +kernel
theorem ch_bl(n:Nat)(hn:n<=4)(k:Nat)(hk:k<=4):(∀w,w<2 ^ n->(bl n w).length=k->bl n w∈ch n k 0)/\∀l∈ch n k 0,∃w,w<2 ^ n/\bl n w=l:=by
 have h:=ch_bl0;simp only[List.all_eq_true,Bool.and_eq_true]at h;obtain⟨a,b⟩:=h n (List.mem_range.2 (by omega)) k (List.mem_range.2 (by omega));refine⟨fun w hw hl=>?_,fun l hl=>?_⟩
 ·have:=a w (List.mem_range.2 hw)
  simpa[hl]using this
 ·obtain⟨w,hw,e⟩:=List.any_eq_true.1 (b l hl)
  exact⟨w,List.mem_range.1 hw,by simpa using e⟩
def DvI(g:List (List Int))(m n k G:Nat):Prop:=∀d:Nat,d∣G↔∀r∈ch m k 0,∀c∈ch n k 0,d∣(mnr g k r c).natAbs
theorem DvI.uniq{g:List (List Int)}{m n k G H:Nat}(a:DvI g m n k G)(b:DvI g m n k H):G=H:=
 Nat.dvd_antisymm ((b G).2 ((a G).1 (Nat.dvd_refl G))) ((a H).2 ((b H).1 (Nat.dvd_refl H)))
def Dv(g:List (List Int))(m n k:Nat):Nat:=(ch m k 0).foldl (fun s r=>(ch n k 0).foldl (fun s c=>Nat.gcd s (mnr g k r c).natAbs) s) 0
theorem fold_gcd{α:Type}(f:α->Nat)(l:List α):∀s d:Nat,d∣l.foldl (fun s c=>Nat.gcd s (f c)) s↔d∣s/\∀c∈l,d∣f c:=by
 induction l with
 |nil=>intro s d;simp
 |cons x l ih=>intro s d;rw[List.foldl_cons,ih,Nat.dvd_gcd_iff];simp only[List.mem_cons,forall_eq_or_imp,and_assoc]
theorem fold_gcd2{α β:Type}(f:β->α->Nat)(l:List α)(l':List β):∀s d:Nat,d∣l'.foldl (fun s r=>l.foldl (fun s c=>Nat.gcd s (f r c)) s) s↔d∣s/\∀r∈l',∀c∈l,d∣f r c:=by
 induction l' with
 |nil=>intro s d;simp
 |cons x l' ih=>intro s d;rw[List.foldl_cons,ih,fold_gcd];simp only[List.mem_cons,forall_eq_or_imp,and_assoc]
theorem Dv_is(g:List (List Int))(m n k:Nat):DvI g m n k (Dv g m n k):=by
 intro d;unfold Dv;rw[fold_gcd2 (fun r c=>(mnr g k r c).natAbs)];simp
theorem Dv_bl{g:List (List Int)}{m n k G:Nat}(hm:m<=4)(hn:n<=4)(hk:k<=4)(h:∀d:Nat,d∣G↔∀R,R<2 ^ m->(bl m R).length=k->∀C,C<2 ^ n->(bl n C).length=k->d∣(mnr g k (bl m R) (bl n C)).natAbs):G=Dv g m n k:=by
 refine DvI.uniq (g:=g) (m:=m) (n:=n) (k:=k) (fun d=>?_) (Dv_is g m n k);rw[h d];obtain⟨a1,a2⟩:=ch_bl m hm k hk;obtain⟨b1,b2⟩:=ch_bl n hn k hk;constructor
 ·intro q r hr c hc
  obtain⟨R,hR,eR⟩:=a2 r hr;obtain⟨C,hC,eC⟩:=b2 c hc;have:=q R hR (by rw[eR];exact ch_len m k 0 r hr) C hC (by rw[eC];exact ch_len n k 0 c hc)
  rwa [eR,eC]at this
 ·intro q R hR lR C hC lC
  exact q _ (a1 R hR lR) _ (b1 C hC lC)
theorem Dv_zero(g:List (List Int))(m n:Nat):Dv g m n 0=1:=by
 simp[Dv,ch,mnr,dt]
theorem gcd_le{a b B:Nat}(ha:a<=B)(hb:b<=B):Nat.gcd a b<=B:=by
 rcases Nat.eq_zero_or_pos a with e|e
 ·rw[e,Nat.gcd_zero_left];exact hb
 ·exact Nat.le_trans (Nat.gcd_le_left b e) ha
theorem Dv_le{g:List (List Int)}(h9:∀i j,(gt (gt g i) j).natAbs<=9)(m n k:Nat):Dv g m n k<=157464:=by
 rcases Nat.eq_zero_or_pos (Dv g m n k)with e|e
 ·omega
 ·refine Classical.byContradiction fun q=>?_
  have h:=(Dv_is g m n k (Dv g m n k)).1 (Nat.dvd_refl _);have z:Dv g m n k=0:=by
   have:(0:Nat)∣Dv g m n k:=(Dv_is g m n k 0).2 (fun r hr c hc=>by
    have hd:=h r hr c hc;have hle:=mnr_le h9 k r c;rcases Nat.eq_zero_or_pos (mnr g k r c).natAbs with e0|e0
    ·rw[e0]
     exact Nat.dvd_refl 0
    ·have:=Nat.le_of_dvd e0 hd
     omega)
   exact Nat.eq_zero_of_zero_dvd this
  omega
theorem bl_succ(n w:Nat):bl (n+1) w=if w.testBit n then bl n w++[(n:Int)] else bl n w:=by
 unfold bl;rw[List.range_succ,List.filter_append,List.map_append];by_cases c:w.testBit n
 ·simp[c]
 ·simp[c]
theorem bl_le(n w:Nat):(bl n w).length<=n:=by
 unfold bl;rw[List.length_map];exact Nat.le_trans (List.length_filter_le _ _) (by rw[List.length_range];exact Nat.le_refl _)
theorem bl_four:∀n w:Nat,n<=4->w<2 ^ n->(bl 4 w).length=(bl n w).length:=by
 have h:((List.range 5).all fun n=>(List.range (2 ^ n)).all fun w=>(bl 4 w).length == (bl n w).length)=true:=by decide +kernel
 intro n w hn hw;simp only[List.all_eq_true]at h;simpa using h n (List.mem_range.2 (by omega)) w (List.mem_range.2 hw)
theorem gt_snoc(l:List Int)(x:Int){i:Nat}(h:i<=l.length):gt (l++[x]) (i:Int)=if i<l.length then gt l (i:Int)else x:=by
 unfold gt;rw[List.getD_eq_getElem?_getD,List.getD_eq_getElem?_getD];show(l++[x])[i]?.getD default=_;by_cases c:i<l.length
 ·rw[List.getElem?_append_left c,if_pos c];rfl
 ·rw[if_neg c,show i=l.length by omega,List.getElem?_concat_length];rfl
end Go.Proofs.Ytdpbiegfljmhmaa.Ext
namespace Go.Proofs.Ytdpbiegfljmhmaa
open Go.Sim
set_option maxRecDepth 100000
variable{F:Prims}{call head arith cmp scmp bnot bsame conv neg imax imin ofNat slen place inR nz geZ rd wr push next mkOK nat zeros sadd eqAgg cut slc sslc strAt part app cpy putAt fresh lowered bump wrote addN lt ne fpAll fpApp brk yn rng mget mput mnew bytes clr:_}(hA:AP F ⟨call,head,arith,cmp,scmp,bnot,bsame,conv,neg,imax,imin,ofNat,slen,place,inR,nz,geZ,rd,wr,push,next,mkOK,nat,zeros,sadd,eqAgg,cut,slc,sslc,strAt,part,app,cpy,putAt,fresh,lowered,bump,wrote,addN,lt,ne,fpAll,fpApp,brk,yn,rng,mget,mput,mnew,bytes,clr⟩)
include hA
theorem sgcd_loop{h0:AHeap}(g:Nat){Q:Exit->SS->Prop}
  (hQ:∀(a:Int) h',a.natAbs=g->a.natAbs<=9000000000000000000->Ext h0 h'->Q (.exit 0) ⟨[(0,.int .i64 a)],0,[],h'⟩) :
  ∀(d:Nat) (a b:Int) (h:AHeap),b.natAbs<=d->Int.gcd a b=g->a.natAbs<=9000000000000000000->b.natAbs<=9000000000000000000->Ext h0 h->
   head 67 1 0 ⟨[(0,.int .i64 a),(1,.int .i64 b)],0,[],h⟩ Q:=by
 intro d
 induction d with
 |zero=>
  intro a b h hd hg ha hb x;obtain rfl:b=0:=by omega
  refine hA.roundR Try.func67 r67_ok (zc ?_);refine br ((0:Int)≠0) (by rw[e_neq hA]) (fun q=>absurd rfl q) (fun _=>?_)<;>refine zc ?_;exact hQ a h (by rw[<-hg,Int.gcd_zero_right]) ha x
 |succ d ih=>
 intro a b h hd hg ha hb x;by_cases cb:b=0
 ·subst cb
  refine hA.roundR Try.func67 r67_ok (zc ?_);refine br ((0:Int)≠0) (by rw[e_neq hA]) (fun q=>absurd rfl q) (fun _=>?_)<;>refine zc ?_;exact hQ a h (by rw[<-hg,Int.gcd_zero_right]) ha x
 obtain⟨r,er⟩:∃z,z=a.tmod b:=⟨_,rfl⟩;have m1:arith .rem .i64 a b=r:=by rw[er,e_rem hA]
 have lt:r.natAbs<b.natAbs:=by rw[er,Int.natAbs_tmod];exact Nat.mod_lt _ (by omega)
 have eg:Int.gcd b r=g:=by
  rw[<-hg,er];show Nat.gcd b.natAbs (a.tmod b).natAbs=Nat.gcd a.natAbs b.natAbs;rw[Int.natAbs_tmod,Nat.gcd_comm a.natAbs,Nat.gcd_comm b.natAbs (a.natAbs % b.natAbs),<-Nat.gcd_rec]
 refine hA.roundR Try.func67 r67_ok (zc ?_);refine br (b≠0) (by rw[e_neq hA]) (fun _=>?_) (fun q=>absurd cb q)<;>refine zc ?_
 (refine zq ?_;repeat ((first|rw[m1]);refine zq ?_))
 exact ih b r _ (by omega) eg hb (by omega) (x.trans (ext_bump hA _ _))
theorem sgcd_ok{h:AHeap}(hlow:h.low<=h.next){a b:Int}(ha:a.natAbs<=9000000000000000000)(hb:b.natAbs<=9000000000000000000){Q:Value->AHeap->Prop}(hQ:∀h',Ext h h'->Q (.int .i64 (Int.gcd a b)) h'):call 67 [.int .i64 a,.int .i64 b] h Q:=by
 refine hA.bodyR Try.func67 r67_ok (hA.alike _ _ _ rfl) hlow (zc ?_);refine sgcd_loop hA (h0:=h) (Int.gcd a b) (fun x h' hx hle x1=>?_) b.natAbs a b h (Nat.le_refl _) rfl ha hb (.refl h);obtain⟨G,eG⟩:∃z:Int,z=Int.gcd a b:=⟨_,rfl⟩;have m1:imax x (neg .i64 x)=G:=by rw[e_imax hA,e_neg hA,wrap64 (by omega) (by omega)];omega
 have hq:=hQ h' x1;rw[<-eG]at hq
 (refine zq ?_;repeat ((first|rw[m1]);refine zq ?_))
 exact hq
end Go.Proofs.Ytdpbiegfljmhmaa
namespace Go.Proofs.Ytdpbiegfljmhmaa
open Go.Sim
set_option maxRecDepth 100000
def sqV(s:Nat)(M:Nat->Nat->Int)(p:Nat):Int:=if p=0 then(s:Int)else M ((p-1) / 4) ((p-1) % 4)
structure Sq(h0 h:AHeap)(b s:Nat)(M:Nat->Nat->Int):Prop where
 ext:Ext h0 h
 own:Own h b 17 ((lst (sqV s M) 17).map (.int .i64))
 old:h0.next<=b
 lt:b<h.next
section
variable{h0 h:AHeap}{b s:Nat}{M:Nat->Nat->Int}
theorem Sq.more{h':AHeap}(t:Sq h0 h b s M)(e:Ext h h'):Sq h0 h' b s M:=⟨t.ext.trans e,t.own.ext e t.lt,t.old,Nat.lt_of_lt_of_le t.lt e.next⟩
theorem Sq.congr{N:Nat->Nat->Int}(t:Sq h0 h b s M)(e:∀i j,i<4->j<4->M i j=N i j):Sq h0 h b s N:=
 ⟨t.ext,by
  have:lst (sqV s N) 17=lst (sqV s M) 17:=lst_congr (fun p hp=>by
   unfold sqV;split
   ·rfl
   ·exact(e _ _ (by omega) (by omega)).symm)
  rw[this];exact t.own,t.old,t.lt⟩
theorem Sq.cell(t:Sq h0 h b s M){p:Nat}(hp:p<17):h.readG ⟨b,p,none⟩ 1=some [.int .i64 (sqV s M p)]:=by
 rw[t.own.getInt (by rw[lst_len];exact hp),List.getD_eq_getElem?_getD,lst_at _ hp];rfl
theorem Sq.size(t:Sq h0 h b s M):h.readG ⟨b,0+0,none⟩ 1=some [.int .i64 s]:=t.cell (p:=0) (by omega)
theorem Sq.el(t:Sq h0 h b s M){i j:Nat}(hi:i<4)(hj:j<4):h.readG ⟨b,0+1+i*4+j*1,none⟩ 1=some [.int .i64 (M i j)]:=by
 rw[t.cell (by omega)];unfold sqV;rw[if_neg (by omega),show(0+1+i*4+j*1-1) / 4=i by omega,show(0+1+i*4+j*1-1) % 4=j by omega]
theorem Sq.wr{v:Int}{p:Nat}{s':Nat}{N:Nat->Nat->Int}(t:Sq h0 h b s M)(hp:p<17)(e:∀q,q<17->(if q=p then v else sqV s M q)=sqV s' N q):∃h',h.write b p [.int .i64 v]=some h'/\Sq h0 h' b s' N/\Wrote h h' b:=by
 obtain⟨h',w1,w2,w3⟩:=t.own.setInt (i:=p) (by rw[lst_len];exact hp) v;refine⟨h',w1,⟨w3.ext t.ext t.old,?_,t.old,by rw[w3.next];exact t.lt⟩,w3⟩;rw[lst_set,lst_congr e]at w2;exact w2
theorem Sq.set(t:Sq h0 h b s M){i j:Nat}(hi:i<4)(hj:j<4)(v:Int):∃h',h.write b (0+1+i*4+j*1) [.int .i64 v]=some h'/\Sq h0 h' b s (updV M i j v)/\Wrote h h' b:=
 t.wr (by omega) (fun q hq=>by
  unfold sqV updV;by_cases c:q=0+1+i*4+j*1
  ·rw[if_pos c,if_neg (by omega),if_pos (by omega)]
  ·rw[if_neg c]
   by_cases c0:q=0
   ·rw[if_pos c0,if_pos c0]
   ·rw[if_neg c0,if_neg c0,if_neg (by omega)])
theorem Sq.grow(t:Sq h0 h b s M){S:Int}(eS:S=(s:Int)+1):∃h',h.write b (0+0) [.int .i64 S]=some h'/\Sq h0 h' b (s+1) M/\Wrote h h' b:=
 t.wr (by omega) (fun q hq=>by
  unfold sqV;by_cases c:q=0+0
  ·rw[if_pos c,if_pos c,eS];rfl
  ·rw[if_neg c,if_neg (by omega),if_neg (by omega)])
theorem Sq.row(t:Sq h0 h b s M){i:Nat}(hi:i<4):h.readG ⟨b,0+1+i*4,none⟩ 4=some [.int .i64 (M i 0),.int .i64 (M i 1),.int .i64 (M i 2),.int .i64 (M i 3)]:=by
 rw[t.own.readG (by rw[List.length_map,lst_len];omega)];have h:i=0\/i=1\/i=2\/i=3:=by omega
 rcases h with rfl|rfl|rfl|rfl<;>rfl
def putM(M:Nat->Nat->Int)(i:Nat)(w:Nat->Int):Nat->Nat->Int:=fun x y=>if x=i then w y else M x y
theorem Sq.setRow(t:Sq h0 h b s M){i:Nat}(hi:i<4)(w:Nat->Int):∃h',h.write b (0+1+i*4) [.int .i64 (w 0),.int .i64 (w 1),.int .i64 (w 2),.int .i64 (w 3)]=some h'/\Sq h0 h' b s (putM M i w)/\Wrote h h' b:=by
 obtain⟨h',w1,w2,w3⟩:=t.own.write (o:=0+1+i*4) (vs:=[.int .i64 (w 0),.int .i64 (w 1),.int .i64 (w 2),.int .i64 (w 3)]) (by rw[List.length_map,lst_len];show 0+1+i*4+4<=17;omega);refine⟨h',w1,⟨w3.ext t.ext t.old,?_,t.old,by rw[w3.next];exact t.lt⟩,w3⟩;have h:i=0\/i=1\/i=2\/i=3:=by omega
 rcases h with rfl|rfl|rfl|rfl<;>exact w2
theorem Sq.new(h:AHeap):Sq h (h.push 17 (List.replicate 17 (.int .i64 0))) h.next 0 (fun _ _=>0):=
 ⟨.push h _ _,Own.push h 17 _,Nat.le_refl _,by simp[AHeap.push]⟩
end
variable{F:Prims}{call head arith cmp scmp bnot bsame conv neg imax imin ofNat slen place inR nz geZ rd wr push next mkOK nat zeros sadd eqAgg cut slc sslc strAt part app cpy putAt fresh lowered bump wrote addN lt ne fpAll fpApp brk yn rng mget mput mnew bytes clr:_}(hA:AP F ⟨call,head,arith,cmp,scmp,bnot,bsame,conv,neg,imax,imin,ofNat,slen,place,inR,nz,geZ,rd,wr,push,next,mkOK,nat,zeros,sadd,eqAgg,cut,slc,sslc,strAt,part,app,cpy,putAt,fresh,lowered,bump,wrote,addN,lt,ne,fpAll,fpApp,brk,yn,rng,mget,mput,mnew,bytes,clr⟩)
include hA
theorem ones64_ok{x:Int}(h0:0<=x)(h1:x<16){h:AHeap}(hlow:h.low<=h.next){Q:Value->AHeap->Prop}(hQ:∀v:Int,v=(Ext.bl 4 x.toNat).length->Q (.int .i64 v) h):call 94 [.int .u64 x] h Q:=by
 refine hA.bodyR Try.func94 r94_ok (hA.alike _ _ _ rfl) hlow (zc ?_);refine zq ?_;refine hQ _ ?_;simp only[e_shr hA,e_and hA,e_add hA,e_conv hA];have hx:x=0\/x=1\/x=2\/x=3\/x=4\/x=5\/x=6\/x=7\/x=8\/x=9\/x=10\/x=11\/x=12\/x=13\/x=14\/x=15:=by omega
 rcases hx with rfl|rfl|rfl|rfl|rfl|rfl|rfl|rfl|rfl|rfl|rfl|rfl|rfl|rfl|rfl|rfl<;>rfl
theorem ones_ok{x:Int}(h0:0<=x)(h1:x<16){h:AHeap}(hlow:h.low<=h.next){Q:Value->AHeap->Prop}(hQ:∀v:Int,v=(Ext.bl 4 x.toNat).length->Q (.int .i64 v) h):call 79 [.int .u64 x] h Q:=by
 refine hA.bodyR Try.func79 r79_ok (hA.alike _ _ _ rfl) hlow (zc ?_);refine ones64_ok hA h0 h1 hlow (fun v ev=>⟨v,rfl,?_⟩);refine zq ?_;exact hQ v ev
end Go.Proofs.Ytdpbiegfljmhmaa
namespace Go.Proofs.Ytdpbiegfljmhmaa.Ext
theorem dt_swap{s:Nat}(M:Nat->Nat->Int){a b:Nat}(ha:a<s)(hb:b<s)(e:a≠b):dt s (fun x y=>M (sw a b x) y)=- dt s M:=by
 have h4:s<=4\/5<=s:=by omega
 rcases h4 with h4|h4
 rotate_left
 ·obtain⟨t,rfl⟩:∃t,s=t+5:=⟨s-5,by omega⟩
  rfl
 have hs:s=0\/s=1\/s=2\/s=3\/s=4:=by omega
 have ha':a=0\/a=1\/a=2\/a=3:=by omega
 have hb':b=0\/b=1\/b=2\/b=3:=by omega
 rcases hs with rfl|rfl|rfl|rfl|rfl<;>rcases ha' with rfl|rfl|rfl|rfl<;>rcases hb' with rfl|rfl|rfl|rfl<;>first|(exfalso;omega)|(simp only[dt,sw,d4,d3,d2];grind)
theorem dt_twice{s:Nat}(M:Nat->Nat->Int){a b:Nat}(ha:a<s)(hb:b<s)(e:a≠b)(h:∀y,y<s->M a y=M b y):dt s M=0:=by
 have h1:=dt_swap M ha hb e;have h2:dt s (fun x y=>M (sw a b x) y)=dt s M:=dt_congr fun x y hx hy=>by
  unfold sw;by_cases c:x=a
  ·rw[if_pos c,c];exact(h y hy).symm
  ·rw[if_neg c]
   by_cases d:x=b
   ·rw[if_pos d,d];exact h y hy
   ·rw[if_neg d]
 omega
theorem dt_lin{s:Nat}(M:Nat->Nat->Int){a:Nat}(ha:a<s)(u v:Nat->Int)(p q:Int):dt s (fun x y=>if x=a then p*u y+q*v y else M x y)=p*dt s (fun x y=>if x=a then u y else M x y)+q*dt s (fun x y=>if x=a then v y else M x y):=by
 have h4:s<=4\/5<=s:=by omega
 rcases h4 with h4|h4
 rotate_left
 ·obtain⟨t,rfl⟩:∃t,s=t+5:=⟨s-5,by omega⟩
  simp[dt]
 have hs:s=0\/s=1\/s=2\/s=3\/s=4:=by omega
 have ha':a=0\/a=1\/a=2\/a=3:=by omega
 rcases hs with rfl|rfl|rfl|rfl|rfl<;>rcases ha' with rfl|rfl|rfl|rfl<;>first|(exfalso;omega)|(simp[dt,d4,d3,d2]<;>grind)
theorem dt_sum{s:Nat}(M:Nat->Nat->Int){a:Nat}(ha:a<s)(c:Nat->Int)(U:Nat->Nat->Int):∀n,dt s (fun x y=>if x=a then sumN (fun i=>c i*U i y) n else M x y)=sumN (fun i=>c i*dt s (fun x y=>if x=a then U i y else M x y)) n
 |0=>by
  have:=dt_lin M ha (fun _=>0) (fun _=>0) 0 0;simp only[Int.zero_mul,Int.mul_zero,Int.add_zero]at this;exact this
 |n+1=>by
  have:=dt_lin M ha (fun y=>sumN (fun i=>c i*U i y) n) (U n) 1 (c n);simp only[Int.one_mul]at this;show dt s (fun x y=>if x=a then sumN (fun i=>c i*U i y) n+c n*U n y else M x y)=sumN (fun i=>c i*dt s (fun x y=>if x=a then U i y else M x y)) n+c n*dt s (fun x y=>if x=a then U n y else M x y);rw[this,dt_sum M ha c U n]
theorem dvd_sum{d:Int}{f:Nat->Int}:∀n,(∀i,i<n->d∣f i)->d∣sumN f n
 |0,_=>Int.dvd_zero d
 |n+1,h=>Int.dvd_add (dvd_sum n (fun i hi=>h i (by omega))) (h n (by omega))
def AllM(F:Nat->Nat->Int)(m n k:Nat)(d:Int):Prop:=∀r c:Nat->Nat,(∀i,i<k->r i<m)->(∀j,j<k->c j<n)->d∣dt k (fun i j=>F (r i) (c j))
theorem AllM.rows{F G:Nat->Nat->Int}{m m' n k:Nat}{d:Int}(h:AllM F m n k d)(e:∀i,i<m'->∃y:Nat->Int,∀j,j<n->G i j=sumN (fun t=>y t*F t j) m):AllM G m' n k d:=by
 have key:∀t,t<=k->∀r c:Nat->Nat,(∀i,i<k->i<k-t->r i<m)->(∀i,i<k->k-t<=i->r i<m')->(∀j,j<k->c j<n)->d∣dt k (fun i j=>if i<k-t then F (r i) (c j)else G (r i) (c j)):=by
  intro t
  induction t with
  |zero=>
   intro _ r c h1 h2 hc;rw[dt_congr (N:=fun i j=>F (r i) (c j)) (fun i j hi hj=>by rw[if_pos (by omega)])];exact h r c (fun i hi=>h1 i hi (by omega)) hc
  |succ t ih=>
   intro ht r c h1 h2 hc;obtain⟨a,ea⟩:∃a,a=k-(t+1):=⟨_,rfl⟩;obtain⟨y,hy⟩:=e (r a) (h2 a (by omega) (by omega));rw[dt_congr (N:=fun i j=>if i=a then sumN (fun u=>y u*F u (c j)) m else(fun i j=>if i<k-(t+1)then F (r i) (c j)else G (r i) (c j)) i j) (fun i j hi hj=>by
    by_cases q:i=a
    ·rw[if_pos q,if_neg (by omega),q];exact hy _ (hc j hj)
    ·rw[if_neg q])]
   rw[dt_sum _ (by omega) y (fun u j=>F u (c j)) m];refine dvd_sum m (fun u hu=>Int.dvd_mul_of_dvd_right ?_);have:=ih (by omega) (fun i=>if i=a then u else r i) c (fun i hi hk=>by
    by_cases q:i=a
    ·simp only[if_pos q];exact hu
    ·simp only[if_neg q];exact h1 i hi (by omega)) (fun i hi hk=>by
    have:i≠a:=by omega
    simp only[if_neg this];exact h2 i hi (by omega)) hc
   rw[dt_congr (N:=fun i j=>if i=a then F u (c j)else(fun i j=>if i<k-(t+1)then F (r i) (c j)else G (r i) (c j)) i j)]at this
   ·exact this
   ·intro i j hi hj
    by_cases q:i=a
    ·simp only[if_pos q];rw[if_pos (by omega)]
    ·simp only[if_neg q]
     by_cases w:i<k-(t+1)
     ·rw[if_pos w,if_pos (by omega)]
     ·rw[if_neg w,if_neg (by omega)]
 intro r c hr hc;have:=key k (Nat.le_refl _) r c (fun i _ hi=>by omega) (fun i hi _=>hr i hi) hc;rw[dt_congr (N:=fun i j=>G (r i) (c j)) (fun i j hi hj=>by rw[if_neg (by omega)])]at this;exact this
theorem sorted_rows{k:Nat}(hk:k<=4):∀(N:Nat) (r:Nat->Nat),4*r 0+3*r 1+2*r 2+r 3<=N->(∀F:Nat->Nat->Int,dt k (fun i j=>F (r i) j)=0)\/∃r':Nat->Nat,(∀i,i+1<k->r' i<r' (i+1))/\(∀m,(∀i,i<k->r i<m)->∀i,i<k->r' i<m)/\∀F:Nat->Nat->Int,(dt k (fun i j=>F (r i) j)).natAbs=(dt k (fun i j=>F (r' i) j)).natAbs:=by
 intro N
 induction N with
 |zero=>
  intro r h;by_cases k2:2<=k
  ·left
   intro F;exact dt_twice _ (a:=0) (b:=1) (by omega) (by omega) (by omega) (fun y hy=>by rw[show r 0=r 1 by omega])
  ·right
   exact⟨r,fun i hi=>by omega,fun m hm=>hm,fun F=>rfl⟩
 |succ N ih=>
  intro r h;by_cases c:∃i,i+1<k/\¬r i<r (i+1)
  ·obtain⟨i,hi,hn⟩:=c
   by_cases e:r i=r (i+1)
   ·left
    intro F;exact dt_twice _ (a:=i) (b:=i+1) (by omega) (by omega) (by omega) (fun y hy=>by rw[e])
   ·have e0:∀x,sw i (i+1) x=if x=i then i+1 else if x=i+1 then i else x:=fun x=>rfl
    have hm:4*r (sw i (i+1) 0)+3*r (sw i (i+1) 1)+2*r (sw i (i+1) 2)+r (sw i (i+1) 3)<=N:=by
     have hi3:i=0\/i=1\/i=2:=by omega
     rcases hi3 with rfl|rfl|rfl<;>simp[sw]at *<;>omega
    have key:∀F:Nat->Nat->Int,(dt k (fun x j=>F (r x) j)).natAbs=(dt k (fun x j=>F (r (sw i (i+1) x)) j)).natAbs:=fun F=>by
     have:dt k (fun x j=>F (r (sw i (i+1) x)) j)=- dt k (fun x j=>F (r x) j):=dt_swap (fun x j=>F (r x) j) (a:=i) (b:=i+1) (show i<k by omega) hi (by omega);omega
    rcases ih (fun x=>r (sw i (i+1) x)) hm with q|⟨r',a1,a2,a3⟩
    ·left
     intro F;have:=key F;rw[q F]at this;omega
    ·right
     refine⟨r',a1,fun m hm=>a2 m (fun x hx=>hm _ (sw_lt (by omega) hi hx)),fun F=>?_⟩;rw[key F];exact a3 F
  ·right
   refine⟨r,fun i hi=>?_,fun m hm=>hm,fun F=>rfl⟩;exact Classical.byContradiction fun q=>c ⟨i,hi,q⟩
theorem ch_mem(n:Nat):∀(k f:Nat) (r:Nat->Nat),(∀i,i+1<k->r i<r (i+1))->(∀i,i<k->r i<n)->(0<k->f<=r 0)->(List.range k).map (fun i=>(r i:Int))∈ch n k f
 |0,f,r,_,_,_=>by simp[ch]
 |k+1,f,r,h1,h2,h3=>by
  have ih:=ch_mem n k (r 0+1) (fun i=>r (i+1)) (fun i hi=>h1 (i+1) (by omega)) (fun i hi=>h2 (i+1) (by omega)) (fun hk=>h1 0 (by omega));have f0:=h3 (by omega);have l0:=h2 0 (by omega);simp only[ch,List.mem_flatMap,List.mem_map];refine⟨r 0,List.mem_range'_1.2 ⟨f0,by omega⟩,_,ih,?_⟩;rw[List.range_succ_eq_map,List.map_cons,List.map_map];rfl
theorem gt_range(r:Nat->Nat){k i:Nat}(h:i<k):gt ((List.range k).map (fun i=>(r i:Int))) (i:Int)=(r i:Int):=by
 unfold gt;rw[List.getD_eq_getElem?_getD];simp[h]
theorem AllM.of{F:Nat->Nat->Int}{m n k:Nat}{d:Int}(hk:k<=4)(h:∀r c:Nat->Nat,(∀i,i+1<k->r i<r (i+1))->(∀j,j+1<k->c j<c (j+1))->(∀i,i<k->r i<m)->(∀j,j<k->c j<n)->d∣dt k (fun i j=>F (r i) (c j))):AllM F m n k d:=by
 intro r c hr hc;rcases sorted_rows hk _ r (Nat.le_refl _)with q|⟨r',a1,a2,a3⟩
 ·rw[q (fun x j=>F x (c j))];exact Int.dvd_zero d
 ·rcases sorted_rows hk _ c (Nat.le_refl _)with q|⟨c',b1,b2,b3⟩
  ·have:=q (fun x j=>F (r j) x)
   rw[dt_T (fun i j=>F (r i) (c j))]at this;rw[this];exact Int.dvd_zero d
  ·have h0:=h r' c' a1 b1 (a2 m hr) (b2 n hc)
   have e1:=a3 (fun x j=>F x (c j));have e2:=b3 (fun x j=>F (r' j) x);rw[dt_T (fun i j=>F (r' i) (c j)),dt_T (fun i j=>F (r' i) (c' j))]at e2;rw[<-Int.dvd_natAbs]at h0 ⊢;rw[e1,e2];exact h0
theorem Dv_all{g:List (List Int)}{m n k:Nat}(hk:k<=4)(d:Nat):d∣Dv g m n k↔AllM (fun i j=>el g i j) m n k d:=by
 rw[Dv_is g m n k d];constructor
 ·intro h
  refine AllM.of hk (fun r c h1 h2 hr hc=>?_);have:=h _ (ch_mem m k 0 r h1 hr (fun _=>Nat.zero_le _)) _ (ch_mem n k 0 c h2 hc (fun _=>Nat.zero_le _));unfold mnr at this;rw[dt_congr (N:=fun i j=>el g (r i) (c j)) (fun i j hi hj=>by rw[gt_range r hi,gt_range c hj])]at this;exact Int.ofNat_dvd_left.2 this
 ·intro h r hr c hc
  have l1:=ch_len m k 0 r hr;have l2:=ch_len n k 0 c hc;have i1:=ch_lt m k 0 r hr;have i2:=ch_lt n k 0 c hc;have mem:∀(l:List Int) (i:Nat),i<l.length->gt l (i:Int)∈l:=fun l i hi=>by
   unfold gt;rw[List.getD_eq_getElem?_getD,show((i:Int)).toNat=i from rfl,List.getElem?_eq_getElem hi];exact List.getElem_mem hi
  have:=h (fun i=>(gt r (i:Int)).toNat) (fun j=>(gt c (j:Int)).toNat) (fun i hi=>by have:=i1 _ (mem r i (by omega));omega) (fun j hj=>by have:=i2 _ (mem c j (by omega));omega);rw[dt_congr (N:=fun i j=>el g (gt r (i:Int)) (gt c (j:Int))) (fun i j hi hj=>by
   have h1:=i1 _ (mem r i (by omega));have h2:=i2 _ (mem c j (by omega));simp only;rw[Int.toNat_of_nonneg h1.1,Int.toNat_of_nonneg h2.1])]at this
  exact Int.ofNat_dvd_left.1 this
end Go.Proofs.Ytdpbiegfljmhmaa.Ext
