import Derived.Test.YtogliemiljhliaaRdSa
import Derived.Test.YtogliemiljhliaaRdXc
set_option linter.unusedSimpArgs false
set_option linter.unusedVariables false
namespace Go.Proofs.Ytogliemiljhliaa
open Go.Sim
set_option maxRecDepth 100000
def solL(l ph:List Int):List Fc:=lst (fillR (SE l ph).R (SE l ph).bound (SE l ph).lead (wid l) 1 (SE l ph).bound.length) (wid l)
def phsOk(l ph:List Int):Prop:=ph.length=(pairsL l.length).length/\∀i:Int,0<=i->i<ph.length->phOk (gt ph i)
def solvable(l ph:List Int):Prop:=∀i,(SE l ph).bound.length<=i->i<(pairsL l.length).length->(SE l ph).R i (wid l)=0
def SolveIs(l ph:List Int)(e:Int)(x y:List Fc):Prop:=
 (CheckL l e/\e≠0/\x=[]/\y=[])\/(Line l/\¬phsOk l ph/\e=2/\x=[]/\y=[])\/(Line l/\phsOk l ph/\¬solvable l ph/\e=6/\x=[]/\y=[])\/(Line l/\phsOk l ph/\solvable l ph/\e=0/\x=(solL l ph).take l.length/\y=(solL l ph).drop l.length)
theorem flat_drop{α:Type}{enc:α->List Value}{es:Nat}(he:∀x,(enc x).length=es):∀(i:Nat) (l:List α),(l.flatMap enc).drop (i*es)=(l.drop i).flatMap enc
 |0,l=>by rw[Nat.zero_mul,List.drop_zero,List.drop_zero]
 |i+1,[]=>by simp
 |i+1,x :: l=>by
  rw[List.flatMap_cons,Nat.add_mul,Nat.one_mul,List.drop_succ_cons,Nat.add_comm (i*es) es,<-List.drop_drop,List.drop_left' (he x),flat_drop he i l]
theorem flat_take{α:Type}{enc:α->List Value}{es:Nat}(he:∀x,(enc x).length=es):∀(i:Nat) (l:List α),(l.flatMap enc).take (i*es)=(l.take i).flatMap enc
 |0,l=>by rw[Nat.zero_mul,List.take_zero,List.take_zero];rfl
 |i+1,[]=>by simp
 |i+1,x :: l=>by
  rw[List.flatMap_cons,Nat.add_mul,Nat.one_mul,List.take_succ_cons,List.flatMap_cons,Nat.add_comm (i*es) es,List.take_append,he x,Nat.add_sub_cancel_left,flat_take he i l,List.take_of_length_le (by rw[he x];omega)]
theorem Own.part{α:Type}{enc:α->List Value}{es:Nat}{h:AHeap}{b:Nat}{l:List α}(c:Own h b es (l.flatMap enc))(he:∀x,(enc x).length=es)(hp:0<es)(hb:b<h.next){i m:Nat}(hi:i+m<=l.length):Rows enc es h (some ⟨b,i*es,none⟩) m ((l.drop i).take m):=by
 refine⟨⟨rfl,hb,?_⟩,he,hp⟩;have hle:(i+m)*es<=l.length*es:=Nat.mul_le_mul_right _ hi;rw[Nat.add_mul]at hle;rw[c.readG (o:=i*es) (n:=m*es) (by rw[flatE_len he];omega),flat_drop he,flat_take he]
variable{F:Prims}{call head arith cmp scmp bnot bsame conv neg imax imin ofNat slen place inR nz geZ rd wr push next mkOK nat zeros sadd eqAgg cut slc sslc strAt part app cpy putAt fresh lowered bump wrote addN lt ne fpAll fpApp brk yn rng mget mput mnew bytes clr:_}(hA:AP F ⟨call,head,arith,cmp,scmp,bnot,bsame,conv,neg,imax,imin,ofNat,slen,place,inR,nz,geZ,rd,wr,push,next,mkOK,nat,zeros,sadd,eqAgg,cut,slc,sslc,strAt,part,app,cpy,putAt,fresh,lowered,bump,wrote,addN,lt,ne,fpAll,fpApp,brk,yn,rng,mget,mput,mnew,bytes,clr⟩)
include hA
set_option maxHeartbeats 1000000 in
theorem gsolve_ok{h:AHeap}(hlow:h.low<=h.next){a:Option Addr}{N c:Nat}{l:List Int}(hl:Is h a N l){ar:Option Addr}{M cr:Nat}{ph:List Int}(hr:Is h ar M ph)(hM:M<=100000){Q:Value->AHeap->Prop}
  (hQ:∀e h' ax kx cx ay ky cy x y,SolveIs l ph e x y->Rows fC 2 h' ax kx x->Rows fC 2 h' ay ky y->Ext h h'->Q (.tuple #[.slice ax kx cx,.slice ay ky cy,.int .i64 e]) h'):call 27 [.slice a N c,.slice ar M cr] h Q:=by
 have lN:=hl.len;have lM:=hr.len;refine hA.bodyR Try.func27 r27_ok (hA.alike _ _ _ rfl) hlow (zc ?_);refine chk_ok hA hlow hl (fun e h1 k1 x1=>⟨_,rfl,?_⟩);refine zc ?_;refine br (e≠0) (by rw[e_neq hA]) (fun c1=>?_) (fun c1=>?_)<;>refine zc ?_
 ·exact hQ e h1 none 0 0 none 0 0 [] [] (.inl ⟨k1,c1,rfl,rfl⟩) (Rows.nil _ fC_len (by omega)) (Rows.nil _ fC_len (by omega)) x1
 have e0:e=0:=Decidable.of_not_not c1;have ln:=k1.zero e0;refine pairs_ok hA (x1.lowOK hlow) (by have:=ln.n5;omega) (fun h2 ap K cp rp hK x2=>⟨_,_,_,rfl,?_⟩);have y2:=x1.trans x2;have lK:=rp.len;refine zc ?_;refine br ((M:Int)≠K) (by rw[e_neq hA,e_ofNat hA,e_ofNat hA]) (fun c2=>?_) (fun c2=>?_)<;>refine zc ?_
 ·exact hQ 2 h2 none 0 0 none 0 0 [] [] (.inr (.inl ⟨ln,fun q=>by have:=q.1;rw[lN]at this;omega,rfl,rfl,rfl⟩)) (Rows.nil _ fC_len (by omega)) (Rows.nil _ fC_len (by omega)) y2
 rw[e_ofNat hA];have eM:M=(pairsL l.length).length:=by rw[lN];omega
 refine ph_loop hA (hr.ext y2) hM rfl (fun hn e kn T=>?_) (fun hp=>?_) M 0 (by omega) (by omega) (by omega) (fun j j0 j1=>by omega)
 ·refine zc ?_
  exact hQ 2 h2 none 0 0 none 0 0 [] [] (.inr (.inl ⟨ln,fun q=>hn (fun i i0 i1=>q.2 i i0 (by omega)),rfl,rfl,rfl⟩)) (Rows.nil _ fC_len (by omega)) (Rows.nil _ fC_len (by omega)) y2
 have pok:phsOk l ph:=⟨by omega,fun i i0 i1=>hp i i0 (by omega)⟩;have hb:∀i:Int,0<=i->i<ph.length->(gt ph i).natAbs<=99:=fun i i0 i1=>by have:=pok.2 i i0 i1;unfold phOk at this;omega
 have ok:=line_okay pok.1 ln hb;refine zc ?_;refine reduce_ok hA (y2.lowOK hlow) (hl.ext y2) ln (hr.ext y2) eM ok (wid_few ln) (fun h3 oa bs ba nb cb n hn M3 B3 x3=>⟨_,_,_,_,_,_,_,_,rfl,?_⟩);have y3:=y2.trans x3;obtain⟨S,hS⟩:∃z,z=SE l ph:=⟨_,rfl⟩;have hSr:S=run (pairsL l.length).length (S0 l ph) (wid l):=by rw[hS];rfl
 rw[<-hS]at M3 B3 ⊢;have okS:=ok (wid l) (Nat.le_refl _);rw[<-hSr]at okS;obtain⟨q1,q2,q3,q4⟩:=okS;have lb:=B3.len;rw[List.length_map]at lb;have w50:=wid_few ln;have m10:=pairs_few ln.n5;have m1:0<M:=by
  rw[eM,pairsL_len l.length ln.n5];have n5:=ln.n5;have n2:=ln.n2;have:l.length=2\/l.length=3\/l.length=4\/l.length=5:=by omega
  rcases this with e|e|e|e<;>rw[e]<;>decide
 obtain⟨L,hL⟩:∃z,z=S.lead:=⟨_,rfl⟩;obtain⟨Nn,hNn⟩:∃z:Int,z=(n:Nat):=⟨_,rfl⟩;obtain⟨cm,hcm⟩:∃z,z=someCap 1 M:=⟨_,rfl⟩;rw[<-hL,<-hNn,<-hcm];obtain⟨h4,w4,o4,r4⟩:=(Own.push h3 4 [.slice none 0 0,.int .i64 0,.slice none 0 0,.int .i64 0]).write (o:=0) (vs:=[.slice (some ⟨oa,0,none⟩) M cm,.int .i64 Nn,.slice ba nb cb,.int .i64 L]) (Nat.le_refl _);have w4:wr (push h3 4 [.slice none 0 0,.int .i64 0,.slice none 0 0,.int .i64 0]) (next h3) 0 [.slice (some ⟨oa,0,none⟩) M cm,.int .i64 Nn,.slice ba nb cb,.int .i64 L] h4:=by rw[e_push hA,e_next hA];exact wr_at hA w4
 have x4:Ext h3 h4:=r4.ext (.push h3 4 _) (Nat.le_refl _);have n4:h4.next=h3.next+1:=by rw[r4.next];rfl
 have y4:=y3.trans x4;have red:Red h4 h3.next oa M cm n ba nb cb S.lead:=by rw[<-hL,<-hNn];exact o4
 obtain⟨B,eB⟩:∃z:Int,z=nb:=⟨_,rfl⟩;have en:ofNat nb=B:=by rw[eB];exact e_ofNat hA nb
 have v0:rd h4 (next h3) (addN 0 0) 1 [.slice (some ⟨oa,0,none⟩) M cm]:=by rw[e_addN hA,e_next hA];exact rd_at hA (Own.readG red (o:=0) (n:=1) (Nat.le_of_ble_eq_true rfl))
 have v1:rd h4 (next h3) (addN 0 1) 1 [.int .i64 Nn]:=by rw[e_addN hA,e_next hA,hNn];exact rd_at hA (Own.readG red (o:=1) (n:=1) (Nat.le_of_ble_eq_true rfl))
 have v2:rd h4 (next h3) (addN 0 2) 1 [.slice ba nb cb]:=by rw[e_addN hA,e_next hA];exact rd_at hA (Own.readG red (o:=2) (n:=1) (Nat.le_of_ble_eq_true rfl))
 have M4:=M3.more x4
 (refine zq ?_;repeat ((first|rw[en]);refine zq ?_))
 rw[hcm];have key:∀C:Option Addr->Nat->Nat->Prop,(∀aS c',(0<M-nb->aS=some ⟨oa,nb,none⟩)->C aS (M-nb) c')->slc 77 (.slice (some ⟨oa,0,none⟩) M (someCap 1 M)) (some (.int .i64 B)) none none C:=fun C hC=>by
  by_cases c:nb<M
  ·refine slc_any hA TLL64 (by omega) (by omega) (by omega) (fun c'=>?_)
   rw[show 0+B.toNat*1=nb by omega,show M-B.toNat=M-nb by omega];exact hC _ _ (fun _=>rfl)
  ·refine slc_end hA TLL64 (by omega) m1 (by omega) (fun a' c'=>?_)
   have:=hC a' c' (fun q=>by omega);rw[show M-nb=0 by omega]at this;exact this
 refine key _ (fun aS c' haS=>?_);obtain⟨q,hq⟩:∃z,z=M-nb:=⟨_,rfl⟩;rw[<-hq]at haS ⊢;refine zc ?_;rw[e_next hA]at v1;rw[e_ofNat hA,e_next hA];obtain⟨sv,hsv⟩:∃z,z=h3.next:=⟨_,rfl⟩;rw[<-hsv]at red v1 ⊢;have solv:solvable l ph↔∀i,nb<=i->i<M->S.R i n=0:=by unfold solvable;rw[<-hS,<-eM,lb,hn]
 refine rest_loop hA M4 red (k:=nb) (by omega) (by omega) rfl hq rfl haS (fun hne e kn T=>?_) (fun hz0=>?_) q 0 0 (by omega) (by omega) rfl (fun j j0 j1=>by omega)
 ·refine zc ?_
  exact hQ 6 h4 none 0 0 none 0 0 [] [] (.inr (.inr (.inl ⟨ln,pok,fun z=>hne (solv.1 z),rfl,rfl,rfl⟩))) (Rows.nil _ fC_len (by omega)) (Rows.nil _ fC_len (by omega)) y4
 refine zq ?_;refine fill_ok hA (y4.lowOK hlow) M4 red (by omega) (B3.ext x4) (by omega) (col:=n) (by omega) (by omega) (by omega) (by omega) (fun x hx=>?_) q1 q2 (fun i hi=>q4 i n (by omega) (by omega)) hNn (.inl rfl) (fun h5 b v=>⟨_,_,_,rfl,?_⟩)
 ·rw[hn]
  exact run_bound (m:=(pairsL l.length).length) (S:=S0 l ph) rfl (wid l) x (by rw[<-hSr];exact hx)
 have y5:=y4.trans v.ext;obtain⟨h9,hh9⟩:∃z,z=bump h5 13:=⟨_,rfl⟩;have x9:Ext h5 h9:=by rw[hh9];exact ext_bump hA _ _
 have y9:=y5.trans x9;have l9:=y9.lowOK hlow;have hsol:solL l ph=lst (fillR S.R S.bound S.lead n 1 nb) n:=by unfold solL;rw[<-hS,<-hn,lb]
 have rv:=v.rows;rw[<-hsol]at rv;obtain⟨NI,hNI⟩:∃z:Int,z=N:=⟨_,rfl⟩;have eN:ofNat N=NI:=by rw[hNI];exact e_ofNat hA N
 have hNn':N<n:=by
  rw[hn];unfold wid;have dm:=diff_mem ln (p:=⟨0,1⟩) (mem_pairs.2 ⟨by simp only;omega,by simp only;omega,by simp only;have:=ln.n2;omega⟩);have:=List.length_pos_of_mem dm;omega
 (refine zq ?_;repeat ((first|rw[eN]);refine zq ?_))
 have hcap:capLow n=n:=Nat.mod_eq_of_lt (by unfold slack;omega);refine⟨by rw[e_cut hA,hcap];exact⟨by omega,by omega⟩,?_⟩;refine zc ?_;rw[<-hh9];rw[eN,e_nat hA];obtain⟨Nk,hNk⟩:∃z,z=NI.toNat:=⟨_,rfl⟩;rw[<-hNk];refine cut_lo hA TF (by omega) (by omega) (by omega) ?_;obtain⟨o2,ho2⟩:∃z,z=0+NI.toNat*2:=⟨_,rfl⟩;obtain⟨m2,hm2⟩:∃z,z=n-NI.toNat:=⟨_,rfl⟩;rw[<-ho2,<-hm2];refine zc ?_;have v9:=v.more x9;have own9:=v9.own;rw[<-hsol]at own9;have ls:(solL l ph).length=n:=by rw[hsol,lst_len]
 have ra:=Own.part own9 fC_len (by omega) v9.lt (i:=0) (m:=Nk) (by omega);have rb:=Own.part own9 fC_len (by omega) v9.lt (i:=Nk) (m:=m2) (by omega);rw[List.drop_zero,Nat.zero_mul]at ra;rw[List.take_of_length_le (by rw[List.length_drop];omega),show Nk*2=o2 by omega]at rb;refine clone_ok hA (low_fresh hA h9) (ra.ext (ext_fresh hA h9)) (by omega) (fun hz b1 k1 rz ez=>⟨_,_,_,rfl,?_⟩);obtain⟨hX,hhX⟩:∃z,z=lowered h9 hz:=⟨_,rfl⟩;have eX:Ext h9 hX:=by rw[hhX];exact ext_low hA l9 (.refl h9) ez
 have yX:=y9.trans eX;have lX:=yX.lowOK hlow;refine zc ?_;rw[<-hhX];refine clone_ok hA (low_fresh hA hX) ((rb.ext eX).ext (ext_fresh hA hX)) (by omega) (fun hw b2 k2 rw2 ew=>⟨_,_,_,rfl,?_⟩);obtain⟨hY,hhY⟩:∃z,z=lowered hX hw:=⟨_,rfl⟩;have eY:Ext hX hY:=by rw[hhY];exact ext_low hA lX (.refl hX) ew
 refine zc ?_;rw[<-hhY];have rX:Rows fC 2 hX (some ⟨b1,0,none⟩) Nk ((solL l ph).take Nk):=by rw[hhX,e_lowered hA];exact rz.keep (Nat.le_refl _) (fun _ _ _=>rfl)
 have rY:Rows fC 2 hY (some ⟨b2,0,none⟩) m2 ((solL l ph).drop Nk):=by rw[hhY,e_lowered hA];exact rw2.keep (Nat.le_refl _) (fun _ _ _=>rfl)
 have eNk:Nk=l.length:=by omega
 rw[eNk]at rX rY ⊢;exact hQ 0 hY _ _ _ _ _ _ _ _ (.inr (.inr (.inr ⟨ln,pok,solv.2 hz0,rfl,rfl,rfl⟩))) (rX.ext eY) rY (yX.trans eY)
end Go.Proofs.Ytogliemiljhliaa
namespace Go.Proofs.Ytogliemiljhliaa
open Go.Sim
set_option maxRecDepth 100000
variable{F:Prims}{call head arith cmp scmp bnot bsame conv neg imax imin ofNat slen place inR nz geZ rd wr push next mkOK nat zeros sadd eqAgg cut slc sslc strAt part app cpy putAt fresh lowered bump wrote addN lt ne fpAll fpApp brk yn rng mget mput mnew bytes clr:_}(hA:AP F ⟨call,head,arith,cmp,scmp,bnot,bsame,conv,neg,imax,imin,ofNat,slen,place,inR,nz,geZ,rd,wr,push,next,mkOK,nat,zeros,sadd,eqAgg,cut,slc,sslc,strAt,part,app,cpy,putAt,fresh,lowered,bump,wrote,addN,lt,ne,fpAll,fpApp,brk,yn,rng,mget,mput,mnew,bytes,clr⟩)
include hA
theorem rph_loop{h:AHeap}{a:Option Addr}{M cp:Nat}{l:List Int}(hl:Is h a M l)(hM:M<=100000){v0:Value}{Q:Exit->SS->Prop}
  (hret:¬(∀i:Int,0<=i->i<M->phOk (gt l i))->∀e kn T,Q .ret ⟨(4,.bool false) :: e,kn,T,h⟩)
  (h9:(∀i:Int,0<=i->i<M->phOk (gt l i))->Q (.exit 0) ⟨[(0,v0),(1,.slice a M cp)],0,[],h⟩) :
  ∀(d:Nat) (i:Int),(M-i).toNat=d->0<=i->i<=M->(∀j:Int,0<=j->j<i->phOk (gt l j))->
   head 32 2 0 ⟨[(0,v0),(1,.slice a M cp),(5,.int .i64 i)],0,[],h⟩ Q:=by
 intro d
 induction d with
 |zero=>
  intro i hd i0 i1 hp;refine hA.roundR Try.func32 r32_ok (zc ?_);refine br (i<(M:Int)) (by rw[e_lss hA,e_ofNat hA]) (fun q=>by omega) (fun _=>?_)<;>refine zc ?_;exact h9 (fun j j0 j1=>hp j j0 (by omega))
 |succ d ih=>
 intro i hd i0 i1 hp;obtain⟨pb,po,x,ea,_,hx,r1⟩:=is_at hl (i:=i) i0 (by omega);subst ea;have r1:=rd_ok hA r1;refine hA.roundR Try.func32 r32_ok (zc ?_);refine br (i<(M:Int)) (by rw[e_lss hA,e_ofNat hA]) (fun _=>?_) (fun q=>by omega)<;>refine zc ?_;refine zq ?_;refine br (x < -99) (by rw[e_lss hA]) (fun c=>?_) (fun c=>?_)<;>refine zc ?_
 ·refine zq ?_
  exact hret (fun q=>by have:=q i i0 (by omega);unfold phOk at this;omega) _ _ _
 refine zq ?_;refine br (99<x) (by rw[e_gtr hA]) (fun c2=>?_) (fun c2=>?_)<;>refine zc ?_
 ·refine zq ?_
  exact hret (fun q=>by have:=q i i0 (by omega);unfold phOk at this;omega) _ _ _
 refine zq ?_;rw[add64 hA (by omega) (by omega)];exact ih (i+1) (by omega) (by omega) (by omega) (fun j j0 j1=>by
  by_cases e:j=i
  ·rw[e,hx];exact⟨by omega,by omega⟩
  ·exact hp j j0 (by omega))
theorem rph_ok{h:AHeap}(hlow:h.low<=h.next){a:Option Addr}{N c:Nat}{l:List Int}(hl:Is h a N l)(ln:Line l){ar:Option Addr}{M cr:Nat}{ph:List Int}(hr:Is h ar M ph)(hM:M<=100000){Q:Value->AHeap->Prop}
  (hQ:∀r:Bool,(r=true↔phsOk l ph)->Q (.bool r) h):call 32 [.slice a N c,.slice ar M cr] h Q:=by
 have lN:=hl.len;have lM:=hr.len;have n2:=ln.n2;have n5:=ln.n5;refine hA.bodyR Try.func32 r32_ok (hA.alike _ _ _ rfl) hlow (zc ?_);refine rph_loop hA hr hM (fun hn e kn T=>?_) (fun hp=>?_) M 0 (by omega) (by omega) (by omega) (fun j j0 j1=>by omega)
 ·refine zc ?_
  exact hQ false ⟨fun q=>(by cases q),fun q=>absurd (fun i i0 i1=>q.2 i i0 (by omega)) hn⟩
 refine zc ?_;obtain⟨P,hP⟩:∃z,z=(pairsL l.length).length:=⟨_,rfl⟩;have hV:∃V:Int,arith .mul .i64 (ofNat N) (arith .sub .i64 (ofNat N) 1)=V/\arith .quo .i64 V 2=(P:Int):=by
  have lp:=pairsL_len l.length n5;have hN:N=2\/N=3\/N=4\/N=5:=by omega
  rw[e_ofNat hA];rcases hN with rfl|rfl|rfl|rfl
  ·exact⟨2,by rw[sub64 hA (by omega) (by omega),mul64 hA (by decide) (by decide)];rfl,by rw[quo64 hA (by omega) (by omega) (by omega),hP,lp,lN];decide⟩
  ·exact⟨6,by rw[sub64 hA (by omega) (by omega),mul64 hA (by decide) (by decide)];rfl,by rw[quo64 hA (by omega) (by omega) (by omega),hP,lp,lN];decide⟩
  ·exact⟨12,by rw[sub64 hA (by omega) (by omega),mul64 hA (by decide) (by decide)];rfl,by rw[quo64 hA (by omega) (by omega) (by omega),hP,lp,lN];decide⟩
  ·exact⟨20,by rw[sub64 hA (by omega) (by omega),mul64 hA (by decide) (by decide)];rfl,by rw[quo64 hA (by omega) (by omega) (by omega),hP,lp,lN];decide⟩
 obtain⟨V,hV1,hV2⟩:=hV;rw[hV1];refine⟨nz_ok hA (by omega),?_⟩;refine zc ?_;rw[hV2,e_ofNat hA,e_eql hA];refine hQ _ ⟨fun q=>?_,fun q=>decide_eq_true (by have:=q.1;omega)⟩;have:=of_decide_eq_true q;exact⟨by omega,fun i i0 i1=>hp i i0 (by omega)⟩
