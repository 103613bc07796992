import Derived.Test.YtdpbiegfljmhmaaGreatSimA
import Derived.Laws.BytesString
set_option linter.unusedSimpArgs false
set_option linter.unusedVariables false
namespace Go.cS
variable{P:Program}{w:World}{J:dI}{s:St}
theorem wK{t:TypeId}{x cx v:Value}{f:Nat}(h:k9 P t x f=some v)(hx:VR J x cx):∃c,(Instr.fieldAt t cx f).run P w=.ok c w/\VR J v c:=by
 unfold k9 at h;split at h
 ·rename_i fs a hu
  split at h
  ·rename_i fd hf
   split at h
   ·rename_i n hn
    cases hb:Nat.beq n 0 with
    |true=>rw[hb]at h;simp at h
    |false=>
     rw[hb]at h;simp only[cond_false,oi]at h;subst h;obtain⟨L,hL,rfl⟩:=hx.oV;have wE:=Nat.ne_of_beq_eq_false hb;have Ob:fs[f]?=some fd:=by simpa using hf
     refine⟨_,?_,VR.Kf hL fd.offset⟩;simp[Instr.fieldAt,aK hu,Ob,Instr.sureAddr,fieldPlace,b8 hn,wE,jg]
   ·cases h
  ·cases h
 ·cases h
theorem wL{t:TypeId}{x cx ix ci v:Value}(h:lg P t x ix=some v)(hx:VR J x cx)(hi:VR J ix ci):∃c,(Instr.indexAt t cx ci).run P w=.ok c w/\VR J v c:=by
 unfold lg at h;split at h
 ·rename_i len e a k i hu
  split at h
  ·rename_i n hn
   split at h
   ·rename_i dR
    simp only[oi]at h;subst h;obtain⟨L,hL,rfl⟩:=hx.oV;obtain rfl:=(hi.aY (fun a=>by simp)).int;refine⟨_,?_,VR.Kf hL _⟩;simp[Instr.indexAt,asIntOf,aK hu,Instr.sureAddr,dR.1,dR.2,b8 hn,jg]
   ·cases h
  ·cases h
 ·rename_i e a len c k i hu
  split at h
  ·rename_i n hn
   split at h
   ·rename_i dR
    simp only[oi]at h;subst h;obtain⟨hs,L,c',hL,rfl,_⟩:=(hx.aY (fun a=>by simp)).Rm om;obtain rfl:=(hi.aY (fun a=>by simp)).int;refine⟨_,?_,VR.Kf (a:=a) (L:=L) (by simp[dI.at,hs,hL]) _⟩;simp[Instr.indexAt,asIntOf,aK hu,dR.1,dR.2,b8 hn,jg]
   ·cases h
  ·cases h
 ·cases h
theorem kT{v cv:Value}{y y' n:Nat}{code:BoundsCode}(h:bound v y=some n)(hv:VR J v cv)(hy:y<=y'):(Instr.sliceBound cv y' code).run P w=.ok n w/\n<=y:=by
 unfold bound at h;split at h
 ·rename_i k i
  split at h
  ·rename_i hi
   simp only[oi]at h;subst h;obtain rfl:=(hv.aY (fun a=>by simp)).int;refine⟨?_,om⟩;have h2:i<=(y':Int):=om
   simp[Instr.sliceBound,asIntOf,hi.1,h2]
  ·cases h
 ·cases h
def qX(J:dI):Option Value->Option Value->Prop
 |none,none=>True
 |some v,some c=>VR J v c
 |_,_=>False
theorem wM{isS:Bool}{len c c':Nat}{lo hi mx GL Ks cmx:Option Value}{m h l:Nat}(hc:c<=c')
  (hm:gq mx c=some m)
  (hh:iB hi mx len m=some h)
  (hl:gX lo h=some l)
  (h1:qX J lo GL) (h2:qX J hi Ks) (h3:qX J mx cmx) :
  (Instr.sliceBounds isS len c' GL Ks cmx).run P w=.ok (l,h,if mx.isSome then m else c') w/\(lo=none->l=0)/\l<=h/\(mx.isSome=true->m<=c):=by
 cases mx with
 |none=>
  cases cmx with
  |some _=>exact h3.elim
  |none=>
   simp only[gq,oi]at hm;subst hm;cases hi with
   |none=>
    cases Ks with
    |some _=>exact h2.elim
    |none=>
     simp only[iB,oi]at hh;subst hh;cases lo with
     |none=>
      cases GL with
      |some _=>exact h1.elim
      |none=>simp only[gX,oi]at hl;subst hl;exact⟨by simp[Instr.sliceBounds],fun _=>rfl,Nat.zero_le _,by simp⟩
     |some v=>
      cases GL with
      |none=>exact h1.elim
      |some cv=>
       obtain⟨e1,e2⟩:=kT (P:=P) (w:=w) (code:=.sliceB) hl h1 (Nat.le_refl _);exact⟨by simp[Instr.sliceBounds,e1],by simp,e2,by simp⟩
   |some hv=>
    cases Ks with
    |none=>exact h2.elim
    |some chv=>
     have e0:=fun code=>kT (P:=P) (w:=w) (code:=code) hh h2 hc
     cases lo with
     |none=>
      cases GL with
      |some _=>exact h1.elim
      |none=>
       simp only[gX,oi]at hl;subst hl;refine⟨?_,fun _=>rfl,Nat.zero_le _,by simp⟩;cases isS<;>simp[Instr.sliceBounds,(e0 _).1]
     |some v=>
      cases GL with
      |none=>exact h1.elim
      |some cv=>
       obtain⟨e1,e2⟩:=kT (P:=P) (w:=w) (code:=.sliceB) hl h1 (Nat.le_refl _);refine⟨?_,by simp,e2,by simp⟩;cases isS<;>simp[Instr.sliceBounds,(e0 _).1,e1]
 |some mv=>
  cases cmx with
  |none=>exact h3.elim
  |some cmv=>
   have em:=fun code=>kT (P:=P) (w:=w) (code:=code) hm h3 hc
   cases hi with
   |none=>simp[iB]at hh
   |some hv=>
    cases Ks with
    |none=>exact h2.elim
    |some chv=>
     have e0:=fun code=>kT (P:=P) (w:=w) (code:=code) hh h2 (Nat.le_refl _)
     cases lo with
     |none=>
      cases GL with
      |some _=>exact h1.elim
      |none=>
       simp only[gX,oi]at hl;subst hl;refine⟨?_,fun _=>rfl,Nat.zero_le _,fun _=>(em .index).2⟩;cases isS<;>simp[Instr.sliceBounds,(em _).1,(e0 _).1]
     |some v=>
      cases GL with
      |none=>exact h1.elim
      |some cv=>
       obtain⟨e1,e2⟩:=kT (P:=P) (w:=w) (code:=.slice3C) hl h1 (Nat.le_refl _);refine⟨?_,by simp,e2,fun _=>(em .index).2⟩;cases isS<;>simp[Instr.sliceBounds,(em _).1,(e0 _).1,e1]
theorem wN{isS:Bool}{a:Option Addr}{a':Option Addr}{len c c' size:Nat}{lo hi mx GL Ks cmx:Option Value}{v:Value}(h:kZ a len c size lo hi mx=some v)
  (hv:VG J.g (.slice a len c) (.slice a' len c')) (h1:qX J lo GL) (h2:qX J hi Ks) (h3:qX J mx cmx) :
  ∃l h m,(Instr.sliceBounds isS len c' GL Ks cmx).run P w=.ok (l,h,m) w/\VG J.g v (.slice (if m=l then a' else a'.map (·.add (l*size))) (h-l) (m-l)):=by
 obtain⟨_,_,e,mJ⟩:=hv.iy;simp only[Value.slice.injEq,true_and]at e;obtain⟨rfl,rfl⟩:=e;unfold kZ at h;split at h
 ·cases h
 ·rename_i m hm
  split at h
  ·cases h
  ·rename_i zh hh
   split at h
   ·cases h
   ·rename_i l hl
    obtain⟨e1,e2,e3,e4⟩:=wM (P:=P) (w:=w) (isS:=isS) mJ hm hh hl h1 h2 h3;cases hb:Nat.ble zh m with
    |false=>rw[hb]at h;simp at h
    |true=>
     rw[hb]at h;simp only[cond_true]at h;have hhm:zh<=m:=Nat.le_of_ble_eq_true hb;refine⟨l,zh,if mx.isSome then m else c',e1,?_⟩;cases hx:(Nat.blt c aR || mx.isSome)with
     |true=>
      rw[hx]at h;simp only[cond_true,oi]at h;subst h;have hmm:(if mx.isSome then m else c')=m:=by
       cases mx with
       |some _=>rfl
       |none=>
        simp only[Option.isSome_none,Bool.or_false]at hx;have hc:c<aR:=Nat.le_of_ble_eq_true hx;simp only[gq,oi]at hm;rw[ff hc]at hm;cases a with
        |none=>obtain⟨rfl,rfl,e⟩:=hv.ft;simp at e;simp[e,<-hm]
        |some a=>
         rcases hv.dQ with ⟨_,L,c2,_,e,q⟩|⟨rfl,_,a2,c2,e,q⟩
         ·simp only[Value.slice.injEq,true_and]at e
          obtain⟨_,rfl⟩:=e;rcases q with ⟨_,rfl⟩|⟨m',rfl,_⟩
          ·simp[hm]
          ·have:=dv L.es m';omega
         ·simp only[Value.slice.injEq,true_and]at e
          rcases q with ⟨rfl,rfl⟩|rfl
          ·simp[e.2,<-hm]
          ·omega
      rw[hmm];have WM:m<aR:=by
       have Rv:m<=cL c:=by
        cases mx with
        |some _=>exact e4 rfl
        |none=>simp only[gq,oi]at hm;omega
       have:=Nat.mod_lt c fV;unfold cL at Rv;omega
      cases a with
      |none=>
       obtain⟨rfl,rfl,e⟩:=hv.ft;simp only[Value.slice.injEq]at e;obtain⟨rfl,_,rfl⟩:=e;have N9:m=0:=by
        have Rv:m<=cL 0:=by
         cases mx with
         |some _=>exact e4 rfl
         |none=>simp only[gq,oi]at hm;omega
        rw[ff fV]at Rv;omega
       subst N9;have:zh=0:=om
       subst this;have:l=0:=om
       subst this;exact .flat _ rfl
      |some a=>
       rcases hv.dQ with ⟨hs,L,c2,hL,e,q⟩|⟨rfl,⟨xs,hs⟩,a2,c2,e,q⟩
       rotate_left
       ·simp only[Value.slice.injEq,true_and]at e
        obtain⟨rfl,rfl⟩:=e;have N9:m=0:=by
         have Rv:m<=cL c:=by
          cases mx with
          |some _=>exact e4 rfl
          |none=>simp only[gq,oi]at hm;omega
         have h00:cL c=0:=by
          rcases q with ⟨rfl,_⟩|rfl
          ·rfl
          ·simp[cL]
         omega
        subst N9;have:zh=0:=om
        subst this;have:l=0:=om
        subst this;exact .ko a a2 xs hs
       simp only[Value.slice.injEq,true_and]at e;obtain⟨rfl,rfl⟩:=e;cases Rv:Nat.beq m l with
       |true=>
        have:=Nat.eq_of_beq_eq_true Rv;simp only[cond_true,this,if_true];exact .gG a L _ _ hs hL om
       |false=>
        have:=Nat.ne_of_beq_eq_false Rv;simp only[cond_false,this,if_false,Option.map_some,jg];have q:=VG.gG (g:=J.g) (fT a (l*size)) L (zh-l) (m-l) (by simpa[fT]using hs) (by simpa[fT]using hL) om;simpa[fT,Nat.add_assoc]using q
     |false=>
      rw[hx]at h;simp only[cond_false]at h;simp only[Bool.or_eq_false_iff]at hx;obtain⟨zS,E0⟩:=hx;have vN:aR<=c:=by
       rcases Nat.lt_or_ge c aR with q|q
       ·rw[dW q]at zS;cases zS
       ·exact q
      cases mx with
      |some _=>simp at E0
      |none=>
       simp only[gq,oi]at hm;simp only[Option.isSome_none,Bool.false_eq_true,if_false];cases a with
       |none=>obtain⟨rfl,rfl,_⟩:=hv.ft;have:=fV;omega
       |some a=>
        rcases hv.dQ with ⟨hs,L,c2,hL,e,q⟩|⟨rfl,⟨xs,hs⟩,a2,c2,e,q⟩
        rotate_left
        ·simp only[Value.slice.injEq,true_and]at e
         obtain⟨rfl,rfl⟩:=e;obtain rfl:c=aR:=by
          rcases q with ⟨rfl,_⟩|rfl
          ·have:=fV;omega
          ·rfl
         have h00:cL aR=0:=by simp[cL]
         have:m=0:=om
         subst this;have:zh=0:=om
         subst this;have:l=0:=om
         subst this;rw[show Nat.beq 0 0=true from rfl]at h;simp only[cond_true,oi]at h;subst h;have e0:(if c'=0 then(some a2:Option Addr)else(some a2:Option Addr).map (·.add (0*size)))=some a2:=by
          split
          ·rfl
          ·simp[Addr.add]
         rw[e0,Nat.sub_zero];exact .jC _ _ xs _ hs
        simp only[Value.slice.injEq,true_and]at e;obtain⟨rfl,rfl⟩:=e;rcases q with ⟨q,_⟩|⟨m',rfl,q1,q2,q3⟩
        ·omega
        ·rw[cg q1]at hm
         subst hm;cases fw:Nat.beq l 0 with
         |true=>
          rw[fw]at h;simp only[cond_true,oi]at h;subst h;have:=Nat.eq_of_beq_eq_true fw;subst this;have e0:(if c'=0 then(some ⟨L.b,L.o+a.off,none⟩:Option Addr)else(some ⟨L.b,L.o+a.off,none⟩:Option Addr).map (·.add (0*size)))=some ⟨L.b,L.o+a.off,none⟩:=by
           split
           ·rfl
           ·simp[Addr.add]
          rw[e0,Nat.sub_zero,Nat.sub_zero];exact .gR a L _ _ _ hs hL q2 q1 q3
         |false=>
          rw[fw]at h;simp only[cond_false]at h;cases AN:(Nat.blt l m' && Nat.beq (aw L.es m' / aR) (size+1))with
          |false=>
           rw[AN]at h;simp only[cond_false]at h;cases Tp:Nat.beq l m' with
           |false=>rw[Tp]at h;simp at h
           |true=>
            rw[Tp]at h;simp only[cond_true,oi]at h;subst h;have:=Nat.eq_of_beq_eq_true Tp;have e1:zh-l=0:=om
            rw[e1];split
            ·exact .jC _ _ 0 _ rfl
            ·exact .jC _ _ 0 _ rfl
          |true=>
           rw[AN]at h;simp only[cond_true,oi]at h;subst h;simp only[Bool.and_eq_true]at AN;have g1:l<m':=Nat.le_of_ble_eq_true AN.1;have g2:=Nat.eq_of_beq_eq_true AN.2;rw[jT q1]at g2;have g3:L.es=size:=om
           have dX:¬c'=l:=om
           simp only[dX,if_false,Option.map_some,jg];have q:=VG.gR (g:=J.g) (fT a (l*size)) L (zh-l) (m'-l) (c'-l) (by simpa[fT]using hs) (by simpa[fT]using hL) om om (by
            simp only[fT];have e9:l*size+(c'-l)*L.es=c'*L.es:=by rw[g3,<-Nat.add_mul];congr 1;omega
            omega)
           rw[g3]at q;simpa[fT,Nat.add_assoc]using q
theorem E5{t:TypeId}{x cx v:Value}{lo hi mx GL Ks cmx:Option Value}(h:gF P t x lo hi mx=some v)(hx:VR J x cx)(h1:qX J lo GL)(h2:qX J hi Ks)(h3:qX J mx cmx) :
  ∃c,(Instr.sliceAt t cx GL Ks cmx).run P w=.ok c w/\VG J.g v c:=by
 unfold gF at h;split at h
 ·rename_i str hu
  split at h
  ·cases h
  ·split at h
   ·cases h
   ·rename_i zh hh
    split at h
    ·cases h
    ·rename_i l hl
     simp only[oi]at h;subst h;obtain rfl:=(hx.aY (fun a=>by simp)).string;cases cmx with
     |some _=>exact h3.elim
     |none=>
      obtain⟨e1,_,_,_⟩:=wM (P:=P) (w:=w) (isS:=false) (len:=str.size) (c:=str.size) (m:=str.size) (mx:=none) (cmx:=none) (Nat.le_refl _) rfl hh hl h1 h2 trivial;exact⟨_,by simp[Instr.sliceAt,Instr.slice,aK hu,e1],.flat _ rfl⟩
 ·rename_i e a len c hu
  split at h
  ·rename_i n hn
   obtain⟨a',c',rfl,_⟩:=(hx.aY (fun a=>by simp)).iy;obtain⟨l,hh,m,e1,e2⟩:=wN (P:=P) (w:=w) (isS:=true) h (hx.aY (fun a=>by simp)) h1 h2 h3;exact⟨_,by simp[Instr.sliceAt,Instr.slice,aK hu,e1,b8 hn],e2⟩
  ·cases h
 ·rename_i n e a hu
  split at h
  ·rename_i z iY hz
   obtain⟨L,hL,rfl⟩:=hx.oV;simp only[dI.at,iY]at hL;cases X5:Nat.blt n aR with
   |false=>rw[X5]at h;simp at h
   |true=>
    rw[X5]at h;simp only[cond_true]at h;have hv:=VG.gG (g:=J.g) a L n n iY hL (Nat.le_of_ble_eq_true X5);obtain⟨l,hh,m,e1,e2⟩:=wN (P:=P) (w:=w) (isS:=false) h hv h1 h2 h3;refine⟨_,?_,e2⟩;simp only[Instr.sliceAt,Sem.run_bind,aK hu,Instr.sureAddr,Sem.run_pure,Result.andThen_ok,e1,b8 hz]
    congr 2
    split<;>rfl
  ·cases h
 ·cases h
end Go.cS
namespace Go.cS
variable{P:Program}{w:World}{J:dI}{s:St}
theorem CE(off:Nat):∀(vs:List Value) (k:Nat) (cells:Array Value),off+k+vs.length<=cells.size->
  (vs.zipIdx k).foldl (fun(cs:Array Value) (p:Value×Nat)=>cs.setIfInBounds (off+p.2) p.1) cells=iG cells (off+k) vs
 | [],k,cells,_=>by
  apply Array.ext';simp[iG]
 |v :: rest,k,cells,h=>by
  simp only[List.length_cons]at h;simp only[List.zipIdx_cons,List.foldl_cons];rw[CE off rest (k+1) _ (by simp;omega)];apply Array.ext_getElem?;intro i;rw[lr (by simp;omega),lr (by simp;omega)];simp only[Array.getElem?_setIfInBounds,List.length_cons];by_cases h1:i=off+k
  ·subst h1
   rw[if_neg om,if_pos rfl,if_pos om,if_pos ⟨om,om⟩];simp
  ·by_cases h2:off+(k+1)<=i/\i<off+(k+1)+rest.length
   ·rw[if_pos h2,if_pos ⟨om,om⟩]
    obtain⟨d,hd⟩:∃d,i-(off+k)=d+1:=⟨i-(off+k)-1,om⟩;rw[hd,show i-(off+(k+1))=d by omega];simp
   ·rw[if_neg h2,if_neg om,if_neg om]
def sE(J:dI)(l l':List (Nat×Value)):Prop:=l.length=l'.length/\∀(i:Nat) (p q:Nat×Value),l[i]?=some p->l'[i]?=some q->p.1=q.1/\VR J p.2 q.2
theorem kL{place:Nat->Option (Nat×Nat)}{place':Nat->Option (Nat×Nat)}(hpl:∀i x,place i=some x->place' i=some x):∀(l l':List (Nat×Value)) (cells:List Value) (kp:Array Value) (cs:List Value),
  iw place cells l=some cs->sE J l l'->fF J.g cells kp.toList->∃kR,Instr.fill place' kp l'=some kR/\fF J.g cs kR.toList
 | [],l',cells,kp,cs,h,hp,hc=>by
  have:l'=[]:=by have:=hp.1;cases l'<;>simp_all
  subst this;simp only[iw,oi]at h;subst h;exact⟨kp,rfl,hc⟩
 |(i,v) :: l,l',cells,kp,cs,h,hp,hc=>by
  cases l' with
  |nil=>have:=hp.1;simp at this
  |cons q l'=>
   obtain⟨i',c⟩:=q;obtain⟨e1,e2⟩:=hp.2 0 _ _ rfl rfl;simp only at e1 e2;subst e1;simp only[iw]at h;split at h
   ·rename_i off size hpi
    cases hb:(Nat.beq v.cells.toList.length size && v.cells.toList.all aE)with
    |false=>rw[hb]at h;simp at h
    |true=>
     rw[hb]at h;simp only[cond_true]at h;simp only[Bool.and_eq_true]at hb;split at h
     ·rename_i jD Cj
      have Rw:=e2.cells hb.2;have tP:=Nat.eq_of_beq_eq_true hb.1;obtain⟨fX,ql⟩:=l7 Cj;have hlen:c.cells.size=size:=by have:=Rw.1;simp at this tP;omega
      have gS:off+c.cells.size<=kp.size:=by have:=hc.1;have:=Rw.1;simp at *;omega
      have oI:fF J.g jD (iG kp off c.cells.toList).toList:=by
       rw[ql];simp only[iG];have hl:=Rw.1;rw[hl];have:=(hc.take off).append (Rw.append (hc.drop (off+c.cells.toList.length)));simpa[List.append_assoc]using this
      have vt:sE J l l':=⟨by have:=hp.1;simpa using this,fun k p q h1 h2=>hp.2 (k+1) p q (by simpa using h1) (by simpa using h2)⟩;obtain⟨kR,f1,f2⟩:=kL hpl l l' jD (iG kp off c.cells.toList) cs h vt oI;refine⟨kR,?_,f2⟩;have Ui:c.cells.zipIdx.foldl (fun(cs:Array Value) (p:Value×Nat)=>cs.setIfInBounds (off+p.2) p.1) kp=iG kp off c.cells.toList:=by
       have:=CE off c.cells.toList 0 kp (by simpa using gS);rw[Nat.add_zero]at this;rw[<-this,<-Array.foldl_toList];simp
      simp only[Instr.fill,hpl _ _ hpi];rw[if_neg (by simp[hlen];omega)];show Instr.fill place' (c.cells.zipIdx.foldl (fun(cs:Array Value) (p:Value×Nat)=>cs.setIfInBounds (off+p.2) p.1) kp) l'=some kR;rw[Ui];exact f1
     ·cases h
   ·cases h
theorem uM(P:Program):∀(fs:List Field),fs.all (fun f=>(P.info? f.type).isSome)=true->∃places,fs.mapM (fun f=>(P.info? f.type).map fun i=>(f.offset,i.size))=some places/\∀i x,iJ P fs i=some x->places[i]?=some x
 | [],_=>⟨[],rfl,fun i x h=>by simp[iJ]at h⟩
 |f :: fs,h=>by
  simp only[List.all_cons,Bool.and_eq_true]at h;obtain⟨pl,h1,h2⟩:=uM P fs h.2;obtain⟨i,hi⟩:=Option.isSome_iff_exists.1 h.1;refine⟨(f.offset,i.size) :: pl,by simp[List.mapM_cons,hi,h1],fun k x hk=>?_⟩;cases k with
  |zero=>simp[iJ,bS,hi]at hk;simp[hk]
  |succ k=>simp only[List.getElem?_cons_succ];exact h2 k x (by simpa[iJ]using hk)
theorem E6{t:TypeId}{parts:List (Nat×Value)}{cparts:Array (Nat×Value)}{v:Value}(h:tL P t parts=some v)(hp:sE J parts cparts.toList):∃c,(Instr.build t cparts).run P w=.ok c w/\VG J.g v c:=by
 unfold tL at h;split at h
 ·rename_i z hz
  obtain⟨Ik,it,vu,Tq⟩:=fK hz;split at h
  ·rename_i fs hu
   cases ha:fs.toList.all (fun f=>(P.info? f.type).isSome)with
   |false=>rw[ha]at h;simp at h
   |true=>
    rw[ha]at h;simp only[cond_true]at h;split at h
    ·rename_i cs vN
     simp only[oi]at h;subst h;obtain⟨pl,p1,p2⟩:=uM P fs.toList ha;obtain⟨kR,f1,f2⟩:=kL (place':=(pl.toArray[·]?)) (fun i x hx=>by simpa using p2 i x hx) parts cparts.toList _ _ _ vN hp (lu Ik);refine⟨.agg kR,run_build w t cparts kR (by simp only[Program.built,vu,hu,Tq,p1];exact f1),?_⟩;have:=f2.agg;simpa using this
    ·cases h
  ·rename_i n e hu
   split at h
   ·rename_i k hk
    split at h
    ·rename_i cs vN
     simp only[oi]at h;subst h;obtain⟨ie,X6,GM⟩:=wI hk;obtain⟨kR,f1,f2⟩:=kL (place':=fun i=>some (i*ie.size,ie.size)) (fun i x hx=>by rw[GM];exact hx) parts cparts.toList _ _ _ vN hp (lu Ik);refine⟨.agg kR,run_build w t cparts kR (by simp only[Program.built,vu,hu,Tq,X6];exact f1),?_⟩;have:=f2.agg;simpa using this
    ·cases h
   ·cases h
  ·cases h
 ·cases h
theorem gE(z:List Value):∀n,(bB z n).length=n*z.length
 |0=>by simp[bB]
 |n+1=>by simp[bB,gE z n,Nat.add_mul];omega
theorem wO(z:List Value):∀n i,i<n*z.length->(bB z n)[i]?=z[i % z.length]?
 |0,i,h=>by simp at h
 |n+1,i,h=>by
  have hz:0<z.length:=by
   rcases Nat.eq_zero_or_pos z.length with q|q
   ·rw[q]at h;simp at h
   ·exact q
  simp only[bB];by_cases hi:i<z.length
  ·rw[List.getElem?_append_left hi,Nat.mod_eq_of_lt hi]
  ·rw[List.getElem?_append_right om,wO z n (i-z.length) (by rw[Nat.add_mul]at h;omega)]
   congr 1
   exact(Nat.mod_eq_sub_mod om).symm
theorem jE(z:Array Value)(n:Nat):((Array.range (n*z.size)).map (fun i=>z[i % z.size]!)).toList=bB z.toList n:=by
 apply List.ext_getElem?;intro i;by_cases h:i<n*z.size
 ·have hz:0<z.size:=by
   rcases Nat.eq_zero_or_pos z.size with q|q
   ·rw[q]at h;simp at h
   ·exact q
  have hm:i % z.size<z.size:=Nat.mod_lt _ hz;rw[wO _ _ _ (by simpa using h)];simp[h,hm]
 ·have h1:((Array.range (n*z.size)).map (fun i=>z[i % z.size]!)).toList.length=n*z.size:=by simp
  have h2:=gE z.toList n;simp only[Array.length_toList]at h2;rw[List.getElem?_eq_none om,List.getElem?_eq_none om]
theorem lA{g:Nat->Option Loc}{z:List Value}(h:fF g z z):∀n,fF g (bB z n) (bB z n)
 |0=>.nil _
 |n+1=>h.append (lA h n)
theorem vv{mk:kY}(hM:zQ J s w mk){t:TypeId}{len:Nat}{parts:List (Nat×Value)}{cparts:Array (Nat×Value)}{v:Value}{s':St}(h:eQ P mk t len parts=some (v,s'))(hp:sE J parts cparts.toList) :
  ∃c w' J',(Instr.buildSlice t len cparts).run P w=.ok c w'/\Good J s w J' s' w'/\(∀t L,J.l t=some L->J'.l t=some L)/\VG J'.g v c/\s'.env=s.env/\fD (GJ mk) J.g J'.g/\fD (fun _=>False) J.l J'.l:=by
 unfold eQ at h;split at h
 ·rename_i e hu
  split at h
  ·rename_i n z hn hz
   obtain⟨Ik,it,vu,Tq⟩:=fK hz;cases hb:(Nat.ble (len*n) 16777216 && Nat.beq z.cells.toList.length n && Nat.ble len 16777216)with
   |false=>rw[hb]at h;simp at h
   |true=>
    rw[hb]at h;simp only[cond_true]at h;simp only[Bool.and_eq_true]at hb;have EE:=Nat.le_of_ble_eq_true hb.1.1;have vw:=Nat.eq_of_beq_eq_true hb.1.2;have hb3:=Nat.le_of_ble_eq_true hb.2;split at h
    ·rename_i cs vN
     split at h
     ·rename_i a s2 oI
      simp only[oi,pj]at h;obtain⟨rfl,rfl⟩:=h
      let z0:Array Value:=if len*n=0 then #[] else z.cells
      have wP:((Array.range (len*n)).map (fun i=>z0[i % z0.size]!)).toList=bB z.cells.toList len:=by
       by_cases h0:len*n=0
       ·have hl:(bB z.cells.toList len)=[]:=by
         apply List.length_eq_zero_iff.1;rw[gE,vw];exact h0
        rw[hl,h0];simp
       ·have:z0=z.cells:=by simp[z0,h0]
        rw[this];have:=jE z.cells len;rw[show z.cells.size=n by simpa using vw]at this ⊢;exact this
      obtain⟨kR,f1,f2⟩:=kL (place':=fun i=>some (i*n,n)) (fun i x hx=>hx) parts cparts.toList _ ((Array.range (len*n)).map (fun i=>z0[i % z0.size]!)) _ vN hp (by rw[wP];exact lA (lu Ik) len);obtain⟨J',g1,g2,g3,g4,g6,ga,gb⟩:=hM _ _ _ kR _ _ e oI (by have:=CR.AL f2;simpa using this);obtain⟨id,g7,g8⟩:=g6 rfl;simp only[Value.pointer.injEq,oi]at g7;subst g7;refine⟨.slice (some ⟨w.heap.size,0,none⟩) len len,w.alloc (.cells kR e),J',?_,g1,g2,?_,g4,ga.mono (fun _ q=>q.2),gb.mono (fun _ q=>by cases q.1)⟩
      ·simp only[Instr.buildSlice,Sem.run_bind,aK hu,Result.andThen_ok,b8 hn]
       rw[Sem.run_ite,if_neg om];by_cases h0:len*n=0
       ·have Oe:z0=#[]:=by simp[z0,h0]
        rw[Oe]at f1;rw[if_pos h0];simp only[Sem.run_bind,Sem.run_pure,Result.andThen_ok,f1,newRow,run_newObj];rfl
       ·have Oe:z0=z.cells:=by simp[z0,h0]
        rw[Oe]at f1;rw[if_neg h0];simp only[Sem.run_bind,Sem.run_pure,Result.andThen_ok,fW hz,f1,newRow,run_newObj];rfl
      ·have hlen:len<aR:=by unfold aR;omega
       have q:=VG.gG (g:=J'.g) ⟨id,0,none⟩ _ len len rfl g8 hlen;simpa using q
     ·cases h
    ·cases h
  ·cases h
 ·cases h
end Go.cS
namespace Go.cS
variable{P:Program}{w:World}{J:dI}{s:St}
theorem wrap_small{n:Int}(h0:0<=n)(h1:n<=1073741824):IntKind.i64.wrap n=n:=by
 unfold IntKind.wrap;have e:(2 ^ IntKind.i64.bits:Int)=18446744073709551616:=by decide
 have e2:(2 ^ (IntKind.i64.bits-1):Int)=9223372036854775808:=by decide
 simp only[e,e2];rw[Int.emod_eq_of_lt h0 om];simp only[IntKind.signed,Bool.true_and,decide_eq_true_eq];rw[if_neg om]
theorem wQ{mk:kY}(hM:zQ J s w mk){t:TypeId}{l c cl cc v:Value}{s':St}(h:fJ P mk t l c=some (v,s'))(hl:VR J l cl)(hc:VR J c cc) :
  ∃r w' J',(Instr.makeSlice t cl cc).run P w=.ok r w'/\Good J s w J' s' w'/\(∀t L,J.l t=some L->J'.l t=some L)/\VG J'.g v r/\s'.env=s.env/\fD (GJ mk) J.g J'.g/\fD (fun _=>False) J.l J'.l:=by
 unfold fJ at h;split at h
 ·rename_i e k1 l k2 c hu
  obtain rfl:=(hl.aY (fun a=>by simp)).int;obtain rfl:=(hc.aY (fun a=>by simp)).int;split at h
  ·rename_i n z by_ hn hz qY
   split at h
   ·rename_i qZ
    obtain⟨c1,c2,c3,c4,c5⟩:=qZ;split at h
    ·rename_i a s2 oI
     simp only[oi,pj]at h;obtain⟨rfl,rfl⟩:=h;obtain⟨Ik,it,vu,Tq⟩:=fK hz;obtain⟨it2,CF,WO⟩:=oZ qY
     rw[vu]at CF;obtain rfl:=Option.some.inj CF
     let z0:Array Value:=if c.toNat*n=0 then #[] else z.cells
     have wP:((Array.range (c.toNat*n)).map (fun i=>z0[i % z0.size]!)).toList=bB z.cells.toList c.toNat:=by
      by_cases h0:c.toNat*n=0
      ·have hl:(bB z.cells.toList c.toNat)=[]:=by
        apply List.length_eq_zero_iff.1;rw[gE,c5];exact h0
       rw[hl,h0];simp
      ·have:z0=z.cells:=by simp[z0,h0]
       rw[this];have:=jE z.cells c.toNat;rw[show z.cells.size=n by simpa using c5]at this ⊢;exact this
     obtain⟨J',g1,g2,g3,g4,g6,ga,gb⟩:=hM _ _ _ ((Array.range (c.toNat*n)).map (fun i=>z0[i % z0.size]!)) _ _ e oI (by rw[show(Array.range (c.toNat*n)).map (fun i=>z0[i % z0.size]!)=(bB z.cells.toList c.toNat).toArray from Array.ext' (by rw[wP])];exact CR.AL (lA (g:=J.g) (lu Ik) c.toNat));obtain⟨id,g7,g8⟩:=g6 rfl;simp only[Value.pointer.injEq,oi]at g7;subst g7;refine⟨.slice (some ⟨w.heap.size,0,none⟩) l.toNat c.toNat,w.alloc (.cells ((Array.range (c.toNat*n)).map (fun i=>z0[i % z0.size]!)) e),J',?_,g1,g2,?_,g4,ga.mono (fun _ q=>q.2),gb.mono (fun _ q=>by cases q.1)⟩
     ·have wl:IntKind.i64.wrap l=l:=wrap_small c1 om
      have wc:IntKind.i64.wrap c=c:=wrap_small om c3;have tV:¬((by_:Int)*c>2 ^ 48):=by
       have h1:(by_:Int)*c<=16384*1073741824:=Int.mul_le_mul om c3 om om;have h2:(2:Int) ^ 48=281474976710656:=by decide
       omega
      have E7:¬((((decide (c<0) || decide ((by_:Int)*c>2 ^ 48)) || decide (l<0)) || decide (l>c))=true):=by
       simp only[Bool.or_eq_true,decide_eq_true_eq,not_or];exact⟨⟨⟨om,tV⟩,om⟩,om⟩
      by_cases h0:c.toNat*n=0
      ·have Oe:z0=#[]:=by simp[z0,h0]
       simp only[Instr.makeSlice,Sem.run_bind,aK hu,asInt,asIntOf,Sem.run_pure,Result.andThen_ok,gY vu,WO,wl,wc];rw[Sem.run_ite,if_neg E7];simp only[Sem.run_pure,Result.andThen_ok,Sem.run_bind,run_askRoom,b8 hn];rw[Sem.run_ite,if_pos h0];simp only[Sem.run_pure,Result.andThen_ok,Sem.run_bind,newRow,run_newObj,Oe];rfl
      ·have Oe:z0=z.cells:=by simp[z0,h0]
       simp only[Instr.makeSlice,Sem.run_bind,aK hu,asInt,asIntOf,Sem.run_pure,Result.andThen_ok,gY vu,WO,wl,wc];rw[Sem.run_ite,if_neg E7];simp only[Sem.run_pure,Result.andThen_ok,Sem.run_bind,run_askRoom,b8 hn];rw[Sem.run_ite,if_neg h0];simp only[Sem.run_pure,Result.andThen_ok,Sem.run_bind,fW hz,newRow,run_newObj,Oe];rfl
     ·have q:=VG.gG (g:=J'.g) ⟨id,0,none⟩ _ l.toNat c.toNat rfl g8 (by unfold aR;omega)
      simpa using q
    ·cases h
   ·cases h
  ·cases h
 ·cases h
theorem HR.drew{d:Nat}(h:HR J s w):HR J s { w with drawn:=d }:=
 { cP:=h.cP,dg:=h.dg,cG:=h.cG,dh:=h.dh,eE:=h.eE,dS:=h.dS,eO:=h.eO,sep:=h.sep }
theorem Good.drew{d:Nat}(h:HR J s w):Good J s w J s { w with drawn:=d } where
 hr:=h.drew
 mono:=fun _ _ h=>h
 next:=Nat.le_refl _
 low:=Nat.le_refl _
 size:=Nat.le_refl _
 os:=rfl
 tape:=rfl
 output:=rfl
 fresh:=(fun id L h1 h2=>by rw[h2]at h1;cases h1)
 cH:=fun t L h1=>.inr ⟨t,L,h1,rfl⟩
 frame:=fun _ _ _ _=>rfl
theorem Good.kill (h : HR J s w) {b : Nat} (_hb : b < s.h.next) : Good J s w J { s with h := s.h.kill b } w where
  hr := { cP := h.cP, dg := h.dg, eE := h.eE, dS := h.dS, eO := h.eO, sep := h.sep
          cG := fun id L b1 h1 h2 => by
            simp only [af.kill, cQ.bL] at h2
            by_cases e : b = id
            · simp only [e, if_true, oi] at h2; subst h2; trivial
            · simp only [e, if_false] at h2; exact h.cG _ _ _ h1 h2
          dh := fun id oS L L' b1 b2 h1 h2 h3 h4 yW Cz hb9 => by
            simp only [af.kill, cQ.bL] at h3 h4
            by_cases e : b = id
            · simp only [e, if_true, oi] at h3; subst h3; cases yW
            · by_cases e' : b = oS
              · simp only [e', if_true, oi] at h4; subst h4; cases Cz
              · simp only [e, if_false] at h3
                simp only [e', if_false] at h4
                exact h.dh _ _ _ _ _ _ h1 h2 h3 h4 yW Cz hb9 }
  mono := fun _ _ h => h
  next := Nat.le_refl _
  low := Nat.min_le_left _ _
  size := Nat.le_refl _
  os := rfl
  tape := rfl
  output := rfl
  fresh := (fun id L h1 h2 => by rw [h2] at h1; cases h1)
  cH := fun t L h1 => .inr ⟨t, L, h1, rfl⟩
  frame := fun _ _ _ _ => rfl
theorem jF(z:Array Value)(n:Nat):(Builtin.zeroCells z n).toList=bB z.toList n:=jE z n
def Kt(P:Program)(w:World)(iK:Bool)(e size n:Nat)(cx:Value)(us:List Value):Prop:=
 (iK=false/\(Builtin.lenOf cx).run P w=.ok n w/\(Builtin.firstCells size n cx).run P w=.ok us.toArray w) \/
 (iK=true/\∃k m z it,cx=.int k m/\0<=m/\m<=1073741824/\n=m.toNat/\P.info? e=some it/\it.bytes<=16384/\(zeroValue e).run P w=.ok z w/\z.cells.toList.length=size/\us=bB z.cells.toList n)
theorem Il(hR:HR J s w){e:TypeId}{size:Nat}{iK:Bool}{x cx:Value}{n:Nat}{news:List Value}(h:jy P s.h e size iK x=some (n,news))(hx:VR J x cx) :
  ∃us,fF J.g news us/\∀d,Kt P { w with drawn:=d } iK e size n cx us:=by
 unfold jy at h;cases iK with
 |true=>
  simp only[cond_true]at h;split at h
  ·rename_i k m z by_ hz qY
   split at h
   ·rename_i qZ
    obtain⟨c1,c2,c3,c4⟩:=qZ;simp only[oi,pj]at h;obtain⟨rfl,rfl⟩:=h;obtain rfl:=(hx.aY (fun a=>by simp)).int;obtain⟨Ik,it,vu,Tq⟩:=fK hz;obtain⟨it2,CF,WO⟩:=oZ qY
    rw[vu]at CF;obtain rfl:=Option.some.inj CF;exact⟨bB z.cells.toList m.toNat,lA (lu Ik) _,fun d=>.inr ⟨rfl,k,m,z,it,rfl,c1,c2,rfl,vu,om,fW hz,c4,rfl⟩⟩
   ·cases h
  ·cases h
 |false=>
  simp only[cond_false]at h;split at h
  ·rename_i a m c
   split at h
   ·rename_i l hl
    simp only[oi,pj]at h;obtain⟨rfl,rfl⟩:=h;obtain⟨hs,L,c',hL,rfl,_⟩:=(hx.aY (fun a=>by simp)).oW (iH hl).1;obtain⟨l',h1,h2,h3⟩:=hR.read (a:=a) (L:=L) (by simp[dI.at,hs,hL]) (iH hl).2;have:=fun d=>run_loadCells_list (P:=P) { w with drawn:=d } ⟨L.b,L.o+a.off,none⟩ l' h3
    rw[h2]at this;exact⟨l',h1,fun d=>.inl ⟨rfl,by simp[Builtin.lenOf],by simp[Builtin.firstCells,this d]⟩⟩
   ·cases hb:(a.spot.isSome && Nat.beq m 0)with
    |false=>rw[hb]at h;simp at h
    |true=>
     rw[hb]at h;simp only[cond_true,oi,pj]at h;obtain⟨rfl,rfl⟩:=h;simp only[Bool.and_eq_true]at hb;rcases(hx.aY (fun a=>by simp)).dQ with ⟨hs,_⟩|⟨rfl,_,a',c',rfl,_⟩
     ·rw[hs]at hb;simp at hb
     ·exact⟨[],.nil _,fun d=>.inl ⟨rfl,by simp[Builtin.lenOf],by simp[Builtin.firstCells,loadCells,loadCellsFrom]⟩⟩
  ·rename_i m c
   cases hb:Nat.beq m 0 with
   |false=>rw[hb]at h;simp at h
   |true=>
    rw[hb]at h;simp only[cond_true,oi,pj]at h;obtain⟨rfl,rfl⟩:=h;obtain⟨rfl,rfl,rfl⟩:=(hx.aY (fun a=>by simp)).ft;exact⟨[],.nil _,fun d=>.inl ⟨rfl,by simp[Builtin.lenOf],by simp[Builtin.firstCells]⟩⟩
  ·rename_i b
   simp only[oi,pj]at h;obtain⟨rfl,rfl⟩:=h;obtain rfl:=(hx.aY (fun a=>by simp)).string;refine⟨_,fF.flat (by simp only[List.all_map,List.all_eq_true];intro a _;rfl),fun d=>.inl ⟨rfl,by simp[Builtin.lenOf],?_⟩⟩;have e:b.extract 0 b.size=b:=by simp
   simp only[Builtin.firstCells,e,Sem.run_pure]
   congr 1
   apply Array.ext';simp
  ·cases h
theorem E8{Im c:Nat}(h:c<Im):Builtin.nextslicecap Im c<=2*Im+768:=by
 unfold Builtin.nextslicecap;split
 ·omega
 ·split
  ·omega
  ·have key:∀rounds c,c<=2*Im+768->Builtin.growBy Im rounds c<=2*Im+768:=by
    intro rounds
    induction rounds with
    |zero=>intro c hc;simpa[Builtin.growBy]using hc
    |succ r ih=>
     intro c hc;simp only[Builtin.growBy];split
     ·exact hc
     ·exact ih _ om
   exact key 4 c om
theorem wR{n:Nat}(h:n<=1073741824):n<aR:=by unfold aR;omega
theorem CG{e size n:Nat}{z:Value}(hz:(zeroValue e).run P w=.ok z w)(hl:z.cells.toList.length=size) :
  (if n*size=0 then(pure #[]:Sem (Array Value))else do pure (Builtin.zeroCells (<-zeroValue e).cells n)).run P w=.ok (bB z.cells.toList n).toArray w:=by
 by_cases h0:n*size=0
 ·rw[if_pos h0]
  have:bB z.cells.toList n=[]:=by apply List.length_eq_zero_iff.1;rw[gE,hl];exact h0
  rw[this];rfl
 ·rw[if_neg h0]
  simp only[Sem.run_bind,hz,Result.andThen_ok,Sem.run_pure]
  congr 1
  apply Array.ext';rw[jF]
theorem ma{t xt ty e:TypeId}{x:Value}{base:Option Addr}{len c size:Nat}{xd:TypeDesc}{n:Nat}{us:List Value}
  (hu:P.underlying t=some (.slice e)) (GN:P.underlying xt=some xd) (hn:bS P e=some size) (hN:Kt P w (cT (some xd)) e size n x us) (gS:len+n<=c) :
  (Builtin.append_ #[t,xt] ty #[.slice base len c,x]).run P w =
   ((match base with|some a=>storeCells (a.add (len*size)) us|none=>pure ():Sem Unit).run P w).andThen fun _ w'=>.ok (.slice base (len+n) c) w':=by
 unfold Builtin.append_;simp only[List.getElem?_toArray,List.getElem?_cons_zero,List.getElem?_cons_succ,Sem.run_bind,aK hu,Result.andThen_ok,b8 hn,aK GN,Sem.run_pure];rcases hN with ⟨hz,h1,h2⟩|⟨hz,k,m,z,it,rfl,c1,c2,rfl,vu,c4,h3,h4,rfl⟩
 ·clear GN
  cases xd<;>first|(exfalso;simp[cT]at hz;done)|skip
  all_goals
   simp only[Bool.false_eq_true,if_false,Bool.not_false,if_true,Sem.run_bind,h1,Result.andThen_ok,gS,h2];cases base with
   |none=>simp
   |some a=>simp
 ·have wl:IntKind.i64.wrap m=m:=wrap_small c1 c2
  have tV:¬(m*(it.bytes:Int)>2 ^ 48):=by
   have h1:m*(it.bytes:Int)<=1073741824*16384:=Int.mul_le_mul c2 om om om;have h2:(2:Int) ^ 48=281474976710656:=by decide
   omega
  obtain⟨k',rfl⟩:∃k,xd=.int k:=by cases xd<;>simp_all [cT]
  simp only[if_true,Sem.run_bind,asInt,asIntOf,Sem.run_pure,Result.andThen_ok,wl];rw[Sem.run_ite,if_neg (show ¬m<0 by omega)];simp only[Sem.run_bind,Sem.run_pure,Result.andThen_ok,gY vu];rw[Sem.run_ite,if_neg tV];simp only[Sem.run_bind,Sem.run_pure,Result.andThen_ok];rw[Sem.run_ite,if_pos gS];simp only[Bool.not_true,Bool.false_eq_true,if_false,Sem.run_bind,CG h3 h4,Result.andThen_ok];cases base with
  |none=>simp
  |some a=>simp
theorem mc{t xt ty e:TypeId}{x:Value}{base:Option Addr}{len c size:Nat}{xd:TypeDesc}{n:Nat}{us cJ:List Value}{it:TypeInfo}{z:Value}
  (hu:P.underlying t=some (.slice e)) (GN:P.underlying xt=some xd) (hn:bS P e=some size) (vu:P.info? e=some it) (qY:it.bytes<=16384) (hz:ia P e=some z)
  (hN:Kt P w (cT (some xd)) e size n x us) (GO:Kt P { w with drawn:=w.drawn+1 } (cT (some xd)) e size n x us)
  (hold:(Builtin.firstCells size len (.slice base len c)).run P { w with drawn:=w.drawn+1 }=.ok cJ.toArray { w with drawn:=w.drawn+1 })
  (gS:c<len+n) (re:len+n<=1073741824) :
  ∃newCap,len+n<=newCap/\(Builtin.append_ #[t,xt] ty #[.slice base len c,x]).run P w =
   .ok (.slice (some ⟨w.heap.size,0,none⟩) (len+n) newCap) (({ w with drawn:=w.drawn+1 }:World).alloc (.cells (cJ.toArray++us.toArray++Builtin.zeroCells z.cells (newCap-(len+n))) e)):=by
 have Uj:¬len+n<=c:=om
 have X7:IntKind.i64.max=9223372036854775807:=by decide
 have Ku:¬(((len+n:Nat):Int)>IntKind.i64.max):=by rw[X7];omega
 have mJ:¬(Builtin.nextslicecap (len+n) c*it.bytes>2 ^ 48):=by
  have h1:=E8 gS;have h2:Builtin.nextslicecap (len+n) c*it.bytes<=(2*1073741824+768)*16384:=Nat.mul_le_mul om qY
  have h3:(2:Nat) ^ 48=281474976710656:=by decide
  omega
 refine⟨(Question.appendCap (len+n) c e).cut (w.tape w.drawn (.appendCap (len+n) c e)),by simp[Question.cut],?_⟩;unfold Builtin.append_;simp only[List.getElem?_toArray,List.getElem?_cons_zero,List.getElem?_cons_succ,Sem.run_bind,aK hu,Result.andThen_ok,b8 hn,aK GN,Sem.run_pure];rcases hN with ⟨X8,h1,h2⟩|⟨X8,k,m,z',it',rfl,c1,c2,rfl,Uk,c4,h3,h4,rfl⟩
 ·have hr:(Builtin.firstCells size n x).run P { w with drawn:=w.drawn+1 }=.ok us.toArray { w with drawn:=w.drawn+1 }:=by
   rcases GO with ⟨_,_,q⟩|⟨q,_⟩
   ·exact q
   ·rw[X8]at q;cases q
  clear GN GO;cases xd<;>first|(exfalso;simp[cT]at X8;done)|skip
  all_goals
   simp only[Bool.false_eq_true,if_false,Bool.not_false,if_true,Sem.run_bind,h1,Result.andThen_ok,Uj,gY vu,Ku,false_and,false_or,mJ,run_choose,Question.forced,run_askRoom,hold,hr,fW hz,newRow,run_newObj,Sem.run_pure];rfl
 ·have wl:IntKind.i64.wrap m=m:=wrap_small c1 c2
  rw[vu]at Uk;obtain rfl:=Option.some.inj Uk;have tV:¬(m*(it.bytes:Int)>2 ^ 48):=by
   have h1:m*(it.bytes:Int)<=1073741824*16384:=Int.mul_le_mul c2 om om om;have h2:(2:Int) ^ 48=281474976710656:=by decide
   omega
  have hz1:(zeroValue e).run P { w with drawn:=w.drawn+1 }=.ok z' { w with drawn:=w.drawn+1 }:=by
   rw[fW hz]at h3;obtain⟨rfl,_⟩:z=z'/\True:=by simpa using h3
   exact fW hz
  obtain⟨k',rfl⟩:∃k,xd=.int k:=by cases xd<;>simp_all [cT]
  simp only[if_true,Sem.run_bind,asInt,asIntOf,Sem.run_pure,Result.andThen_ok,wl];rw[Sem.run_ite,if_neg (show ¬m<0 by omega)];simp only[Sem.run_bind,Sem.run_pure,Result.andThen_ok,gY vu];rw[Sem.run_ite,if_neg tV];simp only[Sem.run_bind,Sem.run_pure,Result.andThen_ok];rw[Sem.run_ite,if_neg Uj];simp only[Sem.run_bind,Result.andThen_ok,gY vu];rw[Sem.run_ite,if_neg (fun q=>Ku q.1)];simp only[Sem.run_bind,Result.andThen_ok,gY vu,Sem.run_pure];rw[Sem.run_ite,if_neg mJ];simp only[Bool.not_true,Bool.false_eq_true,if_false,Sem.run_bind,Result.andThen_ok,run_choose,Question.forced,gY vu,run_askRoom,hold,CG hz1 h4,fW hz,newRow,run_newObj,Sem.run_pure];rfl
end Go.cS
namespace Go.cS
variable{P:Program}{w:World}{J:dI}{s:St}
theorem CR.head{g:Nat->Option Loc}{l us:List Value}{rest:Array Value}(h:fF g l us):CR g l (us.toArray++rest) 0:=by
 intro i v hi;have dR:i<us.length:=by rw[<-h.1];exact(List.getElem?_eq_some_iff.1 hi).1
 refine⟨us[i],?_,h.2 i v _ hi (by simp[dR])⟩;rw[Nat.zero_add,Array.getElem?_append_left (by simpa using dR)];simp[dR]
theorem Io{es:Nat}{cs:List Value}(h:cs.all aE=true):s.new false es cs=some (.pointer (some ⟨s.h.next,0,none⟩),{ s with h:=s.h.push es cs }):=by
 unfold St.new;rw[h];rfl
theorem qo(hR:HR J s w){size n len newCap:Nat}{e:TypeId}{cJ news uo un:List Value}{z:Array Value}(hold:fF J.g cJ uo)(gK:fF J.g news un)(fz:(cJ++news).all aE=true)
  (ho:uo.length=len*size) (hu:un.length=n*size) (hz:z.size=size) (mJ:len+n<=newCap) (tI:len+n<=1073741824) :
  ∃J',Good J s w J' { s with h:=s.h.push size (cJ++news) } (w.alloc (.cells (uo.toArray++un.toArray++Builtin.zeroCells z (newCap-(len+n))) e))/\(∀t L,J.l t=some L->J'.l t=some L) /\
   VG J'.g (.slice (some ⟨s.h.next,0,none⟩) (len+n) (aw size (len+n))) (.slice (some ⟨w.heap.size,0,none⟩) (len+n) newCap)/\fD (s.h.next<=·) J.g J'.g/\(∀t L,J'.l t=some L->J.l t=some L):=by
 have AM:CR J.g (cJ++news) (uo.toArray++un.toArray++Builtin.zeroCells z (newCap-(len+n))) 0:=by
  have:=CR.head (rest:=Builtin.zeroCells z (newCap-(len+n))) (hold.append gK);simpa using this
 obtain⟨J',g1,g2,g3,g4,g6,ga,gb⟩:=hR.new (Io fz) AM e;obtain⟨_,g8⟩:=g6 rfl;refine⟨J',g1,g2,?_,fun k L hk=>(ga k L hk).imp (fun q=>q) (fun q=>om),fun t L ht=>(gb t L ht).elim (fun q=>q) (fun q=>by cases q.1)⟩;have tP:(uo.toArray++un.toArray++Builtin.zeroCells z (newCap-(len+n))).size=newCap*size:=by
  have h1:=gE z.toList (newCap-(len+n));rw[<-jF]at h1;simp only[Array.length_toList,hz]at h1;simp only[Array.size_append,List.size_toArray,ho,hu,h1];rw[<-Nat.add_mul,<-Nat.add_mul]
  congr 1
  omega
 rw[tP]at g8;have q:=VG.gR (g:=J'.g) ⟨s.h.next,0,none⟩ ⟨w.heap.size,0,newCap*size,size⟩ (len+n) (len+n) newCap rfl g8 mJ (wR tI) (by simp);simpa using q
theorem Kv(hR:HR J s w){size n len c' es:Nat}{a:Addr}{L:Loc}{JW cJ news un:List Value}(hL:J.g a.block=some L)(wS:s.h.m.get a.block=some (.live true es JW))(tO:es=size)
  (hold:jR JW a.off (len*size)=some cJ) (gK:fF J.g news un) (fz:news.all aE=true) (hu:un.length=n*size) (mJ:len+n<=c') (Ip:L.o+a.off+c'*L.es<=L.zO) (tI:len+n<=1073741824) :
  ∃cs e,w.heap[L.b]?=some (.cells cs e (0,0))/\L.o+a.off+len*size+un.length<=cs.size/\(∀v∈un,v.oneCell'=true) /\
  ∃J',Good J s w J' { s with h:=(s.h.kill a.block).push size (cJ++news) } (w.setRow L.b (iG cs (L.o+a.off+len*size) un))/\(∀t L,J.l t=some L->J'.l t=some L) /\
   VG J'.g (.slice (some ⟨s.h.next,0,none⟩) (len+n) (aw size (len+n))) (.slice (some ⟨L.b,L.o+a.off,none⟩) (len+n) c')/\fD (s.h.next<=·) J.g J'.g/\(∀t L,J'.l t=some L->J.l t=some L):=by
 subst tO;obtain⟨tO,cs,e,fr,hw,AM,uJ⟩:=hR.cG _ _ _ hL wS;obtain rfl:=uJ rfl;obtain⟨o2,o7,GP⟩:=hR.dg _ _ hL;rw[hw]at o7;obtain rfl:=Option.some.inj o7;have GP:=GP _ _ _ rfl;rw[tO]at Ip;have gS:L.o+a.off+len*es+un.length<=cs.size:=by
  rw[hu,GP];have:len*es+n*es<=c'*es:=by rw[<-Nat.add_mul];exact Nat.mul_le_mul_right _ mJ
  omega
 have oH:∀v∈un,v.oneCell'=true:=by
  intro v XU;obtain⟨i,hi⟩:=List.mem_iff_getElem?.1 XU;have dR:i<news.length:=by rw[gK.1];exact(List.getElem?_eq_some_iff.1 hi).1
  simp only[List.all_eq_true]at fz;exact(gK.2 i news[i] v (by simp[dR]) hi).GI (fz _ (List.getElem_mem dR))
 refine⟨cs,e,hw,gS,oH,?_⟩
 let L':Loc:=⟨L.b,L.o+a.off,L.zO,es⟩
 let g':Nat->Option Loc:=fun id=>if id=s.h.next then some L' else J.g id
 have hblt:a.block<s.h.next:=hR.cP _ _ hL;have vr:∀id L1,J.g id=some L1->g' id=some L1:=fun id L1 h1=>by
  have:=hR.cP _ _ h1;simp only[g',show ¬id=s.h.next by omega,if_false,h1]
 have bV:∀id L1,g' id=some L1->(id=s.h.next/\L1=L')\/(id≠s.h.next/\J.g id=some L1):=fun id L1 h1=>by
  by_cases lP:id=s.h.next
  ·left;simp only[g',lP,if_true,oi]at h1;exact⟨lP,h1.symm⟩
  ·right;simp only[g',lP,if_false]at h1;exact⟨lP,h1⟩
 let uK:=iG cs (L.o+a.off+len*es) un
 have X9:uK.size=cs.size:=oY gS;have AO:(w.setRow L.b uK).heap[L.b]?=some (.cells uK e (0,0)):=setRow_heap w L.b cs uK e _ hw;have Kh:CR g' (cJ++news) uK (L.o+a.off):=by
  obtain⟨r1,r2⟩:=nu hold;intro i v hi;by_cases h1:i<cJ.length
  ·rw[List.getElem?_append_left h1,r2 i om]at hi
   obtain⟨c,hc,hg⟩:=AM _ _ hi;refine⟨c,?_,hg.mono vr⟩;rw[lr gS,if_neg om,<-hc]
   congr 1;omega
  ·rw[List.getElem?_append_right om]at hi
   have dR:i-cJ.length<un.length:=by rw[<-gK.1];exact(List.getElem?_eq_some_iff.1 hi).1
   refine⟨un[i-cJ.length],?_,(gK.2 _ _ _ hi (by simp[dR])).mono vr⟩;rw[lr gS,if_pos ⟨om,om⟩];rw[show L.o+a.off+i-(L.o+a.off+len*es)=i-cJ.length by omega];simp[dR]
 have Iq:∀id b1,((s.h.kill a.block).push es (cJ++news)).m.get id=some b1->b1.alive=true->(id=s.h.next/\b1=.live true es (cJ++news))\/(id≠s.h.next/\id≠a.block/\s.h.m.get id=some b1):=by
  intro id b1 h Ki;simp only[af.push,af.kill,cQ.bL]at h;by_cases h1:s.h.next=id
  ·left;simp only[h1,if_true,oi]at h;exact⟨h1.symm,h.symm⟩
  ·right
   simp only[h1,if_false]at h;by_cases h2:a.block=id
   ·simp only[h2,if_true,oi]at h;subst h;cases Ki
   ·simp only[h2,if_false]at h;exact⟨Ne.symm h1,Ne.symm h2,h⟩
 refine⟨⟨g',J.l⟩,?_,fun t L h=>h,?_,fun k L1 hk=>(bV k L1 hk).elim (fun q=>.inr om) (fun q=>.inl q.2),fun t L h=>h⟩
 ·refine { hr:=?_,mono:=vr,next:=by simp[af.push,af.kill],low:=Nat.min_le_left _ _,size:=by simp,os:=rfl,tape:=rfl,output:=rfl,fresh:=?_,cH:=fun t L h1=>.inr ⟨t,L,h1,rfl⟩,frame:=?_ }
  ·refine { cP:=?_,dg:=?_,cG:=?_,dh:=?_,eE:=hR.eE,dS:=?_,eO:=hR.eO,sep:=?_ }
   ·intro id L1 h1
    rcases bV id L1 h1 with ⟨rfl,_⟩|⟨_,h1⟩
    ·simp[af.push,af.kill]
    ·have:=hR.cP _ _ h1;simp[af.push,af.kill];omega
   ·intro id L1 h1
    rcases bV id L1 h1 with ⟨rfl,rfl⟩|⟨_,h1⟩
    ·exact⟨.cells uK e (0,0),AO,fun c9 e9 f9 q=>by cases q;rw[X9,GP]⟩
    ·by_cases hb:L1.b=L.b
     ·obtain⟨o2,hx,hy⟩:=hR.dg _ _ h1
      rw[hb,hw]at hx;obtain rfl:=Option.some.inj hx;have:=hy _ _ _ rfl;exact⟨.cells uK e (0,0),by rw[hb];exact AO,fun c9 e9 f9 q=>by cases q;omega⟩
     ·rw[setRow_other w _ _ _ hb];exact hR.dg _ _ h1
   ·intro id L1 b1 h1 h2
    cases Ki:b1.alive with
    |false=>cases b1<;>first|trivial|(simp[Cq.alive]at Ki)
    |true=>
    rcases Iq _ _ h2 Ki with ⟨rfl,rfl⟩|⟨dX,Rx,h2⟩
    ·rcases bV _ L1 h1 with ⟨_,rfl⟩|⟨dX,_⟩
     ·exact⟨rfl,uK,e,(0,0),AO,Kh,fun _=>rfl⟩
     ·exact absurd rfl dX
    ·rcases bV id L1 h1 with ⟨rfl,_⟩|⟨_,h1⟩
     ·exact absurd rfl dX
     ·have hb:L1.b≠L.b:=fun hb=>Rx (hR.dh _ _ _ _ _ _ h1 hL h2 wS Ki rfl hb)
      rw[setRow_other w _ _ _ hb];exact(hR.cG _ _ _ h1 h2).mono vr
   ·intro id oS L1 L2 b1 b2 h1 h2 h3 h4 yW Cz hb
    rcases Iq _ _ h3 yW with ⟨rfl,_⟩|⟨dX,Rx,h3⟩<;>rcases Iq _ _ h4 Cz with ⟨rfl,_⟩|⟨EV,Ul,h4⟩
    ·rfl
    ·rcases bV _ L1 h1 with ⟨_,rfl⟩|⟨hx,_⟩
     ·rcases bV _ L2 h2 with ⟨hx,_⟩|⟨_,h2⟩
      ·exact absurd hx EV
      ·exact absurd (hR.dh _ _ _ _ _ _ h2 hL h4 wS Cz rfl hb.symm) Ul
     ·exact absurd rfl hx
    ·rcases bV _ L2 h2 with ⟨_,rfl⟩|⟨hx,_⟩
     ·rcases bV _ L1 h1 with ⟨hx,_⟩|⟨_,h1⟩
      ·exact absurd hx dX
      ·exact absurd (hR.dh _ _ _ _ _ _ h1 hL h3 wS yW rfl hb) Rx
     ·exact absurd rfl hx
    ·rcases bV _ L1 h1 with ⟨hx,_⟩|⟨_,h1⟩
     ·exact absurd hx dX
     ·rcases bV _ L2 h2 with ⟨hx,_⟩|⟨_,h2⟩
      ·exact absurd hx EV
      ·exact hR.dh _ _ _ _ _ _ h1 h2 h3 h4 yW Cz hb
   ·intro t L1 h1
    obtain⟨c9,e9,a1,a2⟩:=hR.dS _ _ h1;have hb:L1.b≠L.b:=fun hb=>hR.sep _ _ _ _ hL h1 hb.symm
    exact⟨c9,e9,by rw[setRow_other w _ _ _ hb];exact a1,fun c hc=>(a2 c hc).mono vr⟩
   ·intro id t L1 L2 h1 h2 hb
    rcases bV id L1 h1 with ⟨rfl,rfl⟩|⟨_,h1⟩
    ·exact hR.sep _ _ _ _ hL h2 hb
    ·exact hR.sep _ _ _ _ h1 h2 hb
  ·intro id L1 h1 h2
   rcases bV id L1 h1 with ⟨rfl,rfl⟩|⟨_,h1⟩
   ·exact .inr ⟨a.block,L,hL,rfl,Nat.min_le_right _ _⟩
   ·rw[h2]at h1;cases h1
  ·intro b hb hg hl
   have:b≠L.b:=fun e=>by
    have h1:=hg a.block L hL e.symm;have h2:Nat.min s.h.low a.block<=a.block:=Nat.min_le_right _ _;simp only[af.push,af.kill]at h1;omega
   exact setRow_other w _ _ _ this
 ·have q:=VG.gR (g:=g') ⟨s.h.next,0,none⟩ L' (len+n) (len+n) c' rfl (by simp[g']) mJ (wR tI) (by simpa[L',tO]using Ip)
  simpa[L']using q
def dE(P:Program)(J:dI)(s:St)(w:World)(x:Sem Value)(v:Value)(s':St)(R Rl:Nat->Prop):Prop:=
 ∃c w' J',x.run P w=.ok c w'/\Good J s w J' s' w'/\(∀t L,J.l t=some L->J'.l t=some L)/\VR J' v c/\s'.env=s.env/\fD R J.g J'.g/\fD Rl J.l J'.l
theorem dE.still{x:Sem Value}{v c:Value}{R Rl:Nat->Prop}(hR:HR J s w)(h:x.run P w=.ok c w)(hv:VR J v c):dE P J s w x v s R Rl:=⟨c,w,J,h,.refl hR,fun _ _ h=>h,hv,rfl,.refl _ _,.refl _ _⟩
theorem bg{r:Option (Value×af)}{v:Value}{s':St}(h:bO s r=some (v,s')):∃h',r=some (v,h')/\s' = { s with h:=h' }:=by
 unfold bO at h;split at h
 ·simp only[oi,pj]at h
  obtain⟨rfl,rfl⟩:=h;exact⟨_,rfl,rfl⟩
 ·cases h
theorem CH(hR:HR J s w){ts:List TypeId}{args aU:List Value}{ty:TypeId}{v:Value}{s':St}(h0:bO s (cN P s.h ts args)=some (v,s'))(ha:args.length=aU.length/\∀(i:Nat) (a b:Value),args[i]?=some a->aU[i]?=some b->VR J a b) :
  dE P J s w (Builtin.append_ ts.toArray ty aU.toArray) v s' (s.h.next<=·) (fun _=>False):=by
 obtain⟨vt,h,rfl⟩:=bg h0;clear h0;unfold cN at h;split at h
 ·rename_i t xt base len c x
  obtain⟨c0,c1,rfl⟩:∃c0 c1,aU=[c0,c1]:=by
   have:=ha.1
   match aU,this with
   | [c0,c1],_=>exact⟨c0,c1,rfl⟩
  have hs:=ha.2 0 _ _ rfl rfl;have hx:=ha.2 1 _ _ rfl rfl;have GQ:=hs.aY (fun a=>by simp);split at h
  ·rename_i e hu
   split at h
   ·rename_i size by_ xd z hn qY GN hz
    split at h
    ·rename_i n news gK
     obtain⟨us,Qh,Ts⟩:=Il (P:=P) hR gK hx;have hN:Kt P w (cT (some xd)) e size n c1 us:=Ts w.drawn;have GO:=Ts (w.drawn+1);obtain⟨Ik,it,vu,Tq⟩:=fK hz;obtain⟨it2,CF,WO⟩:=oZ qY
     rw[vu]at CF;obtain rfl:=Option.some.inj CF;cases wT:Nat.ble (len+n) (cL c)with
     |true=>
      rw[wT]at h;simp only[cond_true]at h;have gS:=Nat.le_of_ble_eq_true wT;cases base with
      |none=>
       dsimp only at h;simp only[oi,pj]at h;obtain⟨rfl,rfl⟩:=h;obtain⟨rfl,rfl,rfl⟩:=GQ.ft;rw[ff fV]at gS;have wE:n=0:=om
       subst wE;refine dE.still hR (c:=.slice none 0 0) ?_ (.cU _ _ (.flat _ rfl));have:=ma (P:=P) (ty:=ty) (base:=none) (len:=0) (c:=0) hu GN hn hN om;simpa using this
      |some a=>
       dsimp only at h;split at h
       ·rename_i s2 hw
        simp only[oi,pj]at h;obtain⟨rfl,rfl⟩:=h;obtain⟨iY,L,c',hL,rfl,q⟩:=GQ.oW (by have:=(iM hw).1;simpa[fT]using this);have NN:cL c<=c':=by
         obtain⟨_,_,e9,q9⟩:=GQ.iy;simp only[Value.slice.injEq,true_and]at e9;rw[e9.2];exact q9
        obtain⟨w',e1,e2,e3,_⟩:=hR.write (P:=P) (a:=fT a (len*size)) (L:=L) (by simp[dI.at,fT,iY,hL]) (iM hw).2 Qh;refine⟨.slice (some ⟨L.b,L.o+a.off,none⟩) (len+n) c',w',J,?_,e2,fun _ _ h=>h,?_,e3,.refl _ _,.refl _ _⟩
        ·have:=ma (P:=P) (ty:=ty) (base:=some ⟨L.b,L.o+a.off,none⟩) (len:=len) (c:=c') hu GN hn hN om
         rw[show([t,xt]:List TypeId).toArray=#[t,xt]from rfl,show([Value.slice (some ⟨L.b,L.o+a.off,none⟩) len c',c1]:List Value).toArray=#[.slice (some ⟨L.b,L.o+a.off,none⟩) len c',c1]from rfl,this];simp only[jg];have Of:(storeCells ⟨L.b,L.o+a.off+len*size,none⟩ us).run P w=.ok () w':=by simpa[fT,Nat.add_assoc]using e1
         rw[Of];rfl
        ·rcases q with ⟨q,rfl⟩|⟨m,rfl,q1,q2,q3⟩
         ·exact .cU _ _ (.gG a L _ _ iY hL q)
         ·exact .cU _ _ (.gR a L _ _ _ iY hL q2 q1 q3)
       ·cases hb:(a.spot.isSome && Nat.beq n 0 && news.isEmpty)with
        |false=>rw[hb]at h;simp at h
        |true=>
         rw[hb]at h;simp only[cond_true,oi,pj]at h;obtain⟨rfl,rfl⟩:=h;simp only[Bool.and_eq_true,List.isEmpty_iff]at hb;obtain⟨⟨hb,vw⟩,rfl⟩:=hb;have wE:=Nat.eq_of_beq_eq_true vw;subst wE;have Ya:=GQ;rcases GQ.dQ with ⟨hs,_⟩|⟨rfl,⟨xs,hsx⟩,a',c',rfl,_⟩
         ·rw[hs]at hb;simp at hb
         ·refine dE.still hR (c:=.slice (some a') 0 c') ?_ (.cU _ _ Ya)
          obtain rfl:=Qh.iL;have:=ma (P:=P) (ty:=ty) (base:=some a') (len:=0) (c:=c') hu GN hn hN om;simpa[storeCells]using this
     |false=>
      rw[wT]at h;simp only[cond_false]at h;have gS:cL c<len+n:=by
       rcases Nat.lt_or_ge (cL c) (len+n)with q|q
       ·exact q
       ·rw[bm q]at wT;cases wT
      cases qZ:(Nat.ble (len+n) 1073741824 && Nat.ble by_ 16384 && news.all aE && Nat.beq z.cells.toList.length size && Nat.beq news.length (n*size))with
      |false=>rw[qZ]at h;simp at h
      |true=>
       rw[qZ]at h;simp only[cond_true]at h;simp only[Bool.and_eq_true]at qZ;obtain⟨⟨⟨⟨d1,d2⟩,d3⟩,d4⟩,d5⟩:=qZ;have re:=Nat.le_of_ble_eq_true d1;have nB:=Nat.le_of_ble_eq_true d2;have WQ:=Nat.eq_of_beq_eq_true d4;have sF:=Nat.eq_of_beq_eq_true d5;have Um:us.length=n*size:=by rw[<-Qh.1,sF]
       cases base with
       |none=>
        obtain⟨rfl,rfl,rfl⟩:=GQ.ft;simp only[Nat.beq_refl,cond_true,oi,pj]at h;obtain⟨rfl,rfl⟩:=h;rw[ff fV]at gS;obtain⟨newCap,mJ,mK⟩:=mc (P:=P) (ty:=ty) (base:=none) (len:=0) (c:=0) (cJ:=[]) hu GN hn vu om hz hN GO (by simp[Builtin.firstCells]) gS re;obtain⟨J',f1,f2,f3,fa,fb⟩:=qo (hR.drew (d:=w.drawn+1)) (size:=size) (n:=n) (len:=0) (newCap:=newCap) (e:=e) (cJ:=[]) (uo:=[]) (z:=z.cells) (.nil _) Qh (by simpa using d3) (by simp) Um (by simpa using WQ) mJ re;exact⟨_,_,J',mK,(Good.drew hR).trans f1,f2,.cU _ _ f3,rfl,fa,fun t L h=>.inl (fb t L h)⟩
       |some a=>
        dsimp only at h;split at h
        ·rename_i cJ Og Un
         obtain⟨iY,L,c',hL,rfl,q⟩:=GQ.oW Og;have hold:=(iH Un).2;have hLa:J.at a=some L:=by simp[dI.at,iY,hL]
         obtain⟨uo,o1,o2,o3⟩:=hR.read hLa hold;have GR:∀c9,(Builtin.firstCells size len (.slice (some ⟨L.b,L.o+a.off,none⟩) len c9)).run P { w with drawn:=w.drawn+1 }=.ok uo.toArray { w with drawn:=w.drawn+1 }:=fun c9=>by
          have:=run_loadCells_list (P:=P) { w with drawn:=w.drawn+1 } ⟨L.b,L.o+a.off,none⟩ uo o3;rw[o2]at this;simp only[Builtin.firstCells];exact this
         have Uo:∃JW Uq Ry,s.h.m.get a.block=some (.live Uq Ry JW)/\jR JW a.off (len*size)=some cJ:=by
          simp only[St.read,St.cells?,iY]at hold;split at hold
          ·rename_i JW Yb
           obtain⟨Uq,Ry,N9⟩:=live_of_cells? Yb;exact⟨JW,Uq,Ry,N9,hold⟩
          ·cases hold
         obtain⟨JW,Uq,Ry,N9,Kw⟩:=Uo;cases hex:Nat.blt c aR with
         |true=>
          rw[hex]at h;simp only[cond_true]at h;cases Rz:cJ.all aE with
          |false=>rw[Rz]at h;simp at h
          |true=>
          rw[Rz]at h;simp only[cond_true,oi,pj]at h;obtain⟨rfl,rfl⟩:=h;have vN:c<aR:=Nat.le_of_ble_eq_true hex;have EC:c'=c:=by
           rcases q with ⟨_,rfl⟩|⟨m,rfl,_⟩
           ·rfl
           ·have:=dv L.es m;omega
          subst EC;rw[ff vN]at gS;obtain⟨newCap,mJ,mK⟩:=mc (P:=P) (ty:=ty) (base:=some ⟨L.b,L.o+a.off,none⟩) (len:=len) (c:=c') (cJ:=uo) hu GN hn vu om hz hN GO (GR c') gS re;obtain⟨J',f1,f2,f3,fa,fb⟩:=qo (hR.drew (d:=w.drawn+1)) (size:=size) (n:=n) (len:=len) (newCap:=newCap) (e:=e) (z:=z.cells) o1 Qh (by rw[List.all_append,Rz,d3];rfl) o2 Um (by simpa using WQ) mJ re;exact⟨_,_,J',mK,(Good.drew hR).trans f1,f2,.cU _ _ f3,rfl,fa,fun t L h=>.inl (fb t L h)⟩
         |false=>
          rw[hex]at h;simp only[cond_false]at h;have vN:aR<=c:=by
           rcases Nat.lt_or_ge c aR with q|q
           ·rw[dW q]at hex;cases hex
           ·exact q
          cases Rz:cJ.all aE with
          |false=>rw[Rz]at h;simp at h
          |true=>
          rw[Rz]at h;simp only[cond_true]at h;split at h
          ·rename_i es Rs wS
           cases tO:Nat.beq es size with
           |false=>rw[tO]at h;simp at h
           |true=>
            rw[tO]at h;simp only[cond_true,oi,pj]at h;obtain⟨rfl,rfl⟩:=h;rw[N9]at wS;obtain⟨rfl,rfl,rfl⟩:Uq=true/\Ry=es/\JW=Rs:=by simpa using wS
            rcases q with ⟨q,_⟩|⟨m,rfl,q1,q2,q3⟩
            ·omega
            ·rw[cg q1]at gS
             by_cases CJ:len+n<=c'
             ·obtain⟨cs,e9,k1,k2,k3,J',k4,k5,k6,ka,kb⟩:=Kv hR hL N9 (Nat.eq_of_beq_eq_true tO) Kw Qh d3 Um CJ q3 re
              refine⟨_,_,J',?_,k4,k5,.cU _ _ k6,rfl,ka,fun t L h=>.inl (kb t L h)⟩;have:=ma (P:=P) (ty:=ty) (base:=some ⟨L.b,L.o+a.off,none⟩) (len:=len) (c:=c') hu GN hn hN CJ;rw[show([t,xt]:List TypeId).toArray=#[t,xt]from rfl,show([Value.slice (some ⟨L.b,L.o+a.off,none⟩) len c',c1]:List Value).toArray=#[.slice (some ⟨L.b,L.o+a.off,none⟩) len c',c1]from rfl,this];simp only[jg];have Of:=run_storeCells_at (P:=P) L.b (L.o+a.off+len*size) e9 us 0 cs w k1 (by simpa using k2) k3;simp only[Nat.add_zero]at Of;rw[Of];rfl
             ·obtain⟨newCap,mJ,mK⟩:=mc (P:=P) (ty:=ty) (base:=some ⟨L.b,L.o+a.off,none⟩) (len:=len) (c:=c') (cJ:=uo) hu GN hn vu om hz hN GO (GR c') om re
              have hk:=Good.kill hR (hR.cP _ _ hL);obtain⟨J',f1,f2,f3,fa,fb⟩:=qo (hk.hr.drew (d:=w.drawn+1)) (size:=size) (n:=n) (len:=len) (newCap:=newCap) (e:=e) (z:=z.cells) o1 Qh (by rw[List.all_append,Rz,d3];rfl) o2 Um (by simpa using WQ) mJ re;exact⟨_,_,J',mK,(hk.trans (Good.drew hk.hr)).trans f1,f2,.cU _ _ f3,rfl,fa,fun t L h=>.inl (fb t L h)⟩
          ·cases h
        ·rename_i xs Og
         cases tJ:Nat.beq c 0 with
         |false=>rw[tJ]at h;simp at h
         |true=>
         rw[tJ]at h;simp only[cond_true,oi,pj]at h;obtain⟨rfl,rfl⟩:=h;have tJ:=Nat.eq_of_beq_eq_true tJ;rcases GQ.dQ with ⟨hs,_⟩|⟨rfl,_,a',c',rfl,hk⟩
         ·rw[hs]at Og;cases Og
         ·obtain⟨rfl,rfl⟩:c=0/\c'=0:=by
           rcases hk with q|q
           ·exact q
           ·have:=fV;omega
          rw[ff fV]at gS;obtain⟨newCap,mJ,mK⟩:=mc (P:=P) (ty:=ty) (base:=some a') (len:=0) (c:=0) (cJ:=[]) hu GN hn vu om hz hN GO (by simp[Builtin.firstCells,loadCells,loadCellsFrom]) gS re;obtain⟨J',f1,f2,f3,fa,fb⟩:=qo (hR.drew (d:=w.drawn+1)) (size:=size) (n:=n) (len:=0) (newCap:=newCap) (e:=e) (cJ:=[]) (uo:=[]) (z:=z.cells) (.nil _) Qh (by simpa using d3) (by simp) Um (by simpa using WQ) mJ re;exact⟨_,_,J',mK,(Good.drew hR).trans f1,f2,.cU _ _ f3,rfl,fa,fun t L h=>.inl (fb t L h)⟩
        ·cases h
    ·cases h
   ·cases h
  ·cases h
 ·cases h
theorem Ir(hR:HR J s w){ts:List TypeId}{args aU:List Value}{ty:TypeId}{v:Value}{s':St}(h0:bO s (ss P s.h ts args)=some (v,s'))(ha:args.length=aU.length/\∀(i:Nat) (a b:Value),args[i]?=some a->aU[i]?=some b->VR J a b) :
  dE P J s w (Builtin.copy_ ts.toArray ty aU.toArray) v s' (s.h.next<=·) (fun _=>False):=by
 obtain⟨vt,h,rfl⟩:=bg h0;clear h0;unfold ss at h;split at h
 ·rename_i t xt base len c x
  obtain⟨c0,c1,rfl⟩:∃c0 c1,aU=[c0,c1]:=by
   have:=ha.1
   match aU,this with
   | [c0,c1],_=>exact⟨c0,c1,rfl⟩
  have hs:=ha.2 0 _ _ rfl rfl;have hx:=ha.2 1 _ _ rfl rfl;have GQ:=hs.aY (fun a=>by simp);split at h
  ·rename_i e hu
   split at h
   ·rename_i size hn
    split at h
    ·rename_i b n cb
     split at h
     ·rename_i l hl
      obtain⟨Ur,Lb,cb',Yc,rfl,_⟩:=(hx.aY (fun a=>by simp)).oW (iH hl).1;obtain⟨l',r1,r2,r3⟩:=hR.read (a:=b) (L:=Lb) (by simp[dI.at,Ur,Yc]) (iH hl).2;have Kw:=run_loadCells_list (P:=P) w ⟨Lb.b,Lb.o+b.off,none⟩ l' r3;rw[r2]at Kw;cases base with
      |none=>
       dsimp only at h;simp only[oi,pj]at h;obtain⟨rfl,rfl⟩:=h;obtain⟨rfl,rfl,rfl⟩:=GQ.ft;refine dE.still hR (c:=.int .i64 (Nat.min n 0:Nat)) ?_ (.cU _ _ (.flat _ rfl));have Yd:(loadCells ⟨Lb.b,Lb.o+b.off,none⟩ (n.min 0*size)).run P w=.ok l'.toArray w:=Kw;simp only[Builtin.copy_,List.getElem?_toArray,List.getElem?_cons_zero,List.getElem?_cons_succ,Sem.run_bind,aK hu,Result.andThen_ok,Builtin.lenOf,Sem.run_pure,b8 hn,Builtin.firstCells,Yd,goInt]
      |some a=>
       dsimp only at h;split at h
       ·rename_i s2 hw
        simp only[oi,pj]at h;obtain⟨rfl,rfl⟩:=h;obtain⟨iY,L,c',hL,rfl,_⟩:=GQ.oW (iM hw).1;obtain⟨w',e1,e2,e3,_⟩:=hR.write (P:=P) (a:=a) (L:=L) (by simp[dI.at,iY,hL]) (iM hw).2 r1;refine⟨.int .i64 (Nat.min n len:Nat),w',J,?_,e2,fun _ _ h=>h,.cU _ _ (.flat _ rfl),e3,.refl _ _,.refl _ _⟩;simp only[Builtin.copy_,List.getElem?_toArray,List.getElem?_cons_zero,List.getElem?_cons_succ,Sem.run_bind,aK hu,Result.andThen_ok,Builtin.lenOf,Sem.run_pure,b8 hn,Builtin.firstCells,Kw,goInt,e1]
       ·cases hb:a.spot.isSome with
        |false=>rw[hb]at h;simp at h
        |true=>
         rw[hb]at h;simp only[cond_true,oi,pj]at h;obtain⟨rfl,rfl⟩:=h;rcases GQ.dQ with ⟨hs,_⟩|⟨rfl,_,a',c',rfl,_⟩
         ·rw[hs]at hb;simp at hb
         ·refine dE.still hR (c:=.int .i64 0) ?_ (.cU _ _ (.flat _ rfl))
          have h0:n.min 0=0:=Nat.min_zero _;simp[Builtin.copy_,aK hu,Builtin.lenOf,b8 hn,Builtin.firstCells,goInt,h0,loadCells,loadCellsFrom,storeCells]
     ·cases hb:(b.spot.isSome && Nat.beq n 0)with
      |false=>rw[hb]at h;simp at h
      |true=>
       rw[hb]at h;simp only[cond_true,oi,pj]at h;obtain⟨rfl,rfl⟩:=h;simp only[Bool.and_eq_true]at hb;rcases(hx.aY (fun a=>by simp)).dQ with ⟨hs,_⟩|⟨rfl,_,a',c',rfl,_⟩
       ·rw[hs]at hb;simp at hb
       ·obtain⟨a2,c2,rfl,_⟩:=GQ.iy
        refine dE.still hR (c:=.int .i64 0) ?_ (.cU _ _ (.flat _ rfl));have h0:Nat.min 0 len=0:=Nat.zero_min _;cases a2 with
        |none=>simp[Builtin.copy_,aK hu,Builtin.lenOf,b8 hn,Builtin.firstCells,goInt,h0,loadCells,loadCellsFrom,storeCells]
        |some a=>simp[Builtin.copy_,aK hu,Builtin.lenOf,b8 hn,Builtin.firstCells,goInt,h0,loadCells,loadCellsFrom,storeCells]
    ·rename_i n cb
     cases hb:Nat.beq n 0 with
     |false=>rw[hb]at h;simp at h
     |true=>
      rw[hb]at h;simp only[cond_true,oi,pj]at h;obtain⟨rfl,rfl⟩:=h;obtain⟨rfl,rfl,rfl⟩:=(hx.aY (fun a=>by simp)).ft;obtain⟨a',c',rfl,_⟩:=GQ.iy;refine dE.still hR (c:=.int .i64 0) ?_ (.cU _ _ (.flat _ rfl));simp only[Builtin.copy_,List.getElem?_toArray,List.getElem?_cons_zero,List.getElem?_cons_succ,Sem.run_bind,aK hu,Result.andThen_ok,Builtin.lenOf,Sem.run_pure,b8 hn,Builtin.firstCells,goInt];have h0:Nat.min 0 len=0:=Nat.zero_min _;cases a' with
      |none=>simp[h0]
      |some a=>simp[h0,storeCells]
    ·cases h
   ·cases h
  ·cases h
 ·cases h
theorem HR.gO(h:HR J s w){b:Cq}{o:Obj}(ho:∀cs e fr,o≠.cells cs e fr)
  (hb:∀g',(∀id L,J.g id=some L->g' id=some L)->BR g' b ⟨w.heap.size,0,0,0⟩ (some o)) :
  ∃J',Good J s w J' { s with h:=s.h.gO b } (w.alloc o)/\J'.l=J.l/\J'.g s.h.next=some ⟨w.heap.size,0,0,0⟩/\fD (s.h.next<=·) J.g J'.g:=by
 have hJ:J.g s.h.next=none:=by
  cases hx:J.g s.h.next with
  |none=>rfl
  |some L=>have:=h.cP _ _ hx;omega
 let L:Loc:=⟨w.heap.size,0,0,0⟩
 let g':Nat->Option Loc:=fun k=>if k=s.h.next then some L else J.g k
 have vr:∀k L1,J.g k=some L1->g' k=some L1:=fun k L1 h1=>by
  have dX:¬k=s.h.next:=fun e=>by rw[e,hJ]at h1;cases h1
  simp only[g',dX,if_false,h1]
 have bV:∀k L1,g' k=some L1->(k=s.h.next/\L1=L)\/(k≠s.h.next/\J.g k=some L1):=fun k L1 h1=>by
  by_cases hk:k=s.h.next
  ·left;simp only[g',hk,if_true,oi]at h1;exact⟨hk,h1.symm⟩
  ·right;simp only[g',hk,if_false]at h1;exact⟨hk,h1⟩
 have oI:(w.alloc o).heap[w.heap.size]?=some o:=by show(w.heap.push _)[w.heap.size]?=_;simp
 have hold:∀k,k<w.heap.size->(w.alloc o).heap[k]?=w.heap[k]?:=fun k hk=>by show(w.heap.push _)[k]?=_;rw[Array.getElem?_push,if_neg om]
 have Ud:(w.alloc o).heap.size=w.heap.size+1:=by show(w.heap.push _).size=_;simp
 refine⟨⟨g',J.l⟩,?_,rfl,by simp[g',L],fun k L1 hk=>(bV k L1 hk).elim (fun q=>.inr om) (fun q=>.inl q.2)⟩;refine { hr:=?_,mono:=vr,next:=by simp[af.gO],low:=Nat.le_refl _,size:=om,os:=rfl,tape:=rfl,output:=rfl,fresh:=?_,cH:=fun t L h1=>.inr ⟨t,L,h1,rfl⟩,frame:=fun b hb _ _=>hold b hb }
 ·refine { cP:=?_,dg:=?_,cG:=?_,dh:=?_,eE:=h.eE,dS:=?_,eO:=h.eO,sep:=?_ }
  ·intro k L1 h1
   rcases bV k L1 h1 with ⟨rfl,_⟩|⟨_,h1⟩
   ·show s.h.next<s.h.next+1;omega
   ·have:=h.cP _ _ h1;show k<s.h.next+1;omega
  ·intro k L1 h1
   rcases bV k L1 h1 with ⟨rfl,rfl⟩|⟨_,h1⟩
   ·exact⟨_,oI,fun c9 e9 f9 q=>absurd q (ho _ _ _)⟩
   ·rw[hold _ (h.lt h1)];exact h.dg _ _ h1
  ·intro k L1 b1 h1 h2
   simp only[af.gO,cQ.bL]at h2;rcases bV k L1 h1 with ⟨rfl,rfl⟩|⟨dX,h1⟩
   ·simp only[if_true,oi]at h2
    subst h2;rw[show L.b=w.heap.size from rfl,oI];exact hb g' vr
   ·simp only[Ne.symm dX,if_false]at h2
    have:=(h.cG _ _ _ h1 h2).mono vr;rw[hold _ (h.lt h1)];exact this
  ·intro k k' L1 L2 b1 b2 h1 h2 h3 h4 yW Cz hb
   simp only[af.gO,cQ.bL]at h3 h4;rcases bV k L1 h1 with ⟨ED,JV⟩|⟨dX,h1⟩<;>rcases bV k' L2 h2 with ⟨Kj,Ue⟩|⟨EV,h2⟩
   ·rw[ED,Kj]
   ·have:=h.lt h2;rw[JV]at hb;simp only[L]at hb;omega
   ·have:=h.lt h1;rw[Ue]at hb;simp only[L]at hb;omega
   ·simp only[Ne.symm dX,if_false]at h3
    simp only[Ne.symm EV,if_false]at h4;exact h.dh _ _ _ _ _ _ h1 h2 h3 h4 yW Cz hb
  ·intro t L1 h1
   obtain⟨Rs,e1,a1,a2⟩:=h.dS _ _ h1;exact⟨Rs,e1,by rw[hold _ (h.Kg h1)];exact a1,fun c hc=>(a2 c hc).mono vr⟩
  ·intro k t L1 L2 h1 h2 hb
   rcases bV k L1 h1 with ⟨rfl,rfl⟩|⟨_,h1⟩
   ·have:=h.Kg h2;simp only[L]at hb;omega
   ·exact h.sep _ _ _ _ h1 h2 hb
 ·intro k L1 h1 h2
  rcases bV k L1 h1 with ⟨rfl,rfl⟩|⟨_,h1⟩
  ·exact .inl (Nat.le_refl _)
  ·rw[h2]at h1;cases h1
theorem HR.iW(h:HR J s w){id:Nat}{L:Loc}(hL:J.g id=some L){b0 b:Cq}(mL:s.h.m.get id=some b0)(Ye:b0.alive=true){o:Obj}(ho:∀cs e fr,o≠.cells cs e fr)(hb:BR J.g b L (some o)) :
  Good J s w J { s with h:=s.h.iW id b } (w.putObj L.b o):=by
 have dR:=h.lt hL;have Qi:(w.putObj L.b o).heap[L.b]?=some o:=World.putObj_heap_same dR;have AQ:∀k,k≠L.b->(w.putObj L.b o).heap[k]?=w.heap[k]?:=fun k hk=>World.putObj_heap_other hk
 refine { hr:=?_,mono:=fun _ _ h=>h,next:=Nat.le_refl _,low:=Nat.min_le_left _ _,size:=by simp,os:=rfl,tape:=rfl,output:=rfl,fresh:=(fun id L h1 h2=>by rw[h2]at h1;cases h1),cH:=fun t L h1=>.inr ⟨t,L,h1,rfl⟩,frame:=?_ }
 ·refine { cP:=h.cP,dg:=?_,cG:=?_,dh:=?_,eE:=h.eE,dS:=?_,eO:=h.eO,sep:=h.sep }
  ·intro k L1 h1
   by_cases e:L1.b=L.b
   ·exact⟨o,by rw[e];exact Qi,fun c9 e9 f9 q=>absurd q (ho _ _ _)⟩
   ·rw[AQ _ e];exact h.dg _ _ h1
  ·intro k L1 b1 h1 h2
   simp only[af.iW,cQ.bL]at h2;by_cases lP:id=k
   ·subst lP
    rw[hL]at h1;obtain rfl:=Option.some.inj h1;simp only[if_true,oi]at h2;subst h2;rw[Qi];exact hb
   ·simp only[lP,if_false]at h2
    cases Ki:b1.alive with
    |false=>cases b1<;>first|trivial|(simp[Cq.alive]at Ki)
    |true=>
     have dX:L1.b≠L.b:=fun hb=>lP (h.dh _ _ _ _ _ _ hL h1 mL h2 Ye Ki hb.symm)
     rw[AQ _ dX];exact h.cG _ _ _ h1 h2
  ·intro k k' L1 L2 b1 b2 h1 h2 h3 h4 yW Cz hb
   simp only[af.iW,cQ.bL]at h3 h4;have l3:∃b,s.h.m.get k=some b/\b.alive=true:=by
    by_cases lP:id=k
    ·subst lP;exact⟨_,mL,Ye⟩
    ·simp only[lP,if_false]at h3;exact⟨_,h3,yW⟩
   have l4:∃b,s.h.m.get k'=some b/\b.alive=true:=by
    by_cases lP:id=k'
    ·subst lP;exact⟨_,mL,Ye⟩
    ·simp only[lP,if_false]at h4;exact⟨_,h4,Cz⟩
   obtain⟨_,l3,v3⟩:=l3;obtain⟨_,l4,v4⟩:=l4;exact h.dh _ _ _ _ _ _ h1 h2 l3 l4 v3 v4 hb
  ·intro t L1 h1
   rw[AQ _ (fun e=>h.sep _ _ _ _ hL h1 e.symm)];exact h.dS _ _ h1
 ·intro b1 EE hg hl
  refine AQ b1 fun e=>?_
  have h1:=hg id L hL e.symm;have h2:Nat.min s.h.low id<=id:=Nat.min_le_right _ _;simp only[af.iW]at h1;omega
theorem MR.cons{g:Nat->Option Loc}{e:Value×Value}{es:List (Value×Value)}{c:MapEntry}{l8:List MapEntry}(h:MR g (e :: es) (c :: l8)):(c.key=e.1/\VG g e.2 c.val)/\MR g es l8:=
 ⟨h.2 0 e c rfl rfl,by have:=h.1;simpa using this,fun i e' c' h1 h2=>h.2 (i+1) e' c' (by simpa using h1) (by simpa using h2)⟩
theorem mM{g:Nat->Option Loc}{kind:TypeDesc}{k:Value}:∀(es:List (Value×Value)) (l8:List MapEntry) (i:Nat) (r:Option (Nat×Value)),MR g es l8->wC kind k es i=some r->
  (r=none/\Instr.findNow kind k l8 i=some none)\/∃j v c e,r=some (i+j,v)/\Instr.findNow kind k l8 i=some (some (i+j,c))/\VG g v c/\j<es.length/\l8[j]?=some e/\Instr.sameNow kind k e.key=some true
 | [],l8,i,r,hm,h=>by
  have:l8=[]:=by have:=hm.1;simp at this;exact List.eq_nil_of_length_eq_zero this.symm
  subst this;simp only[wC,oi]at h;exact .inl ⟨h.symm,rfl⟩
 |e :: es,[],i,r,hm,h=>by have:=hm.1;simp at this
 |e :: es,c :: l8,i,r,hm,h=>by
  obtain⟨⟨h1,h2⟩,h3⟩:=hm.cons;simp only[wC]at h;rw[<-h1]at h;split at h
  ·rename_i hs
   simp only[oi]at h;subst h;exact .inr ⟨0,e.2,c.val,c,rfl,by simp only[Instr.findNow,hs];rfl,h2,by simp,rfl,hs⟩
  ·rename_i hs
   rcases mM es l8 (i+1) r h3 h with ⟨q1,q2⟩|⟨j,v,cv,e9,q1,q2,q3,q4,q5,q6⟩
   ·exact .inl ⟨q1,by simp only[Instr.findNow,hs];exact q2⟩
   ·refine .inr ⟨j+1,v,cv,e9,by rw[q1];congr 2;omega,?_,q3,by simp;omega,by simpa using q5,q6⟩
    simp only[Instr.findNow,hs];rw[q2];congr 3;omega
  ·cases h
theorem ou{kt:TypeId}{kd:TypeDesc}{k:Value}(hk:P.underlying kt=some kd)(hs:iF kd=true)(em:Bool)(n:Nat):(Instr.checkKey em (n+1) kt k).run P w=.ok () w:=by
 unfold Instr.checkKey;rw[Sem.run_bind,aK hk,Result.andThen_ok];cases kd<;>simp[iF]at hs<;>rfl
theorem VR.key{v c:Value}(h:VR J v c)(hk:isKey v=true):c=v:=by
 cases v with
 |int k n=>exact(h.aY (fun a=>by simp)).int
 |string b=>exact(h.aY (fun a=>by simp)).string
 |bool b=>exact(h.aY (fun a=>by simp)).bool
 |_=>simp[isKey]at hk
theorem Oh(a b:ByteArray)(h:(a == b)=true):a=b:=by
 have h1:(a.data == b.data)=true:=h;have h2:a.data=b.data:=by simpa using h1
 cases a;cases b;simp_all
theorem Is(a:ByteArray):(a == a)=true:=by
 show(a.data == a.data)=true;simp
theorem E9{kind:TypeDesc}{k e:Value}(h:Instr.sameNow kind k e=some true):e=k/\∀n,Instr.sameBits n e k=true:=by
 unfold Instr.sameNow at h;split at h
 ·split at h
  ·rename_i hk
   simp at h;subst h;subst hk;exact⟨rfl,fun n=>by cases n<;>simp[Instr.sameBits]⟩
  ·cases h
 ·simp only[oi]at h
  obtain rfl:=Oh _ _ h;exact⟨rfl,fun n=>by cases n<;>simp[Instr.sameBits,Is]⟩
 ·simp at h;subst h;exact⟨rfl,fun n=>by cases n<;>simp[Instr.sameBits]⟩
 ·cases h
theorem AR(hR:HR J s w){x cx:Value}{es:List (Value×Value)}(h:wD s.h x=some es)(hx:VR J x cx) :
  (cx=.map none/\es=[])\/∃id L l8 clock,x=.map (some id)/\cx=.map (some L.b)/\J.g id=some L/\s.h.m.get id=some (.map es)/\w.heap[L.b]?=some (.map l8 clock)/\MR J.g es l8.toList:=by
 unfold wD at h;split at h
 ·simp only[oi]at h;subst h
  exact .inl ⟨(hx.aY (fun a=>by simp)).AK,rfl⟩
 ·rename_i id
  split at h
  ·rename_i es' hm
   simp only[oi]at h;subst h;obtain⟨L,hL,rfl⟩:=(hx.aY (fun a=>by simp)).Oa;obtain⟨l8,clock,h1,h2⟩:=hR.cG _ _ _ hL hm;exact .inr ⟨id,L,l8,clock,rfl,rfl,hL,hm,h1,h2⟩
  ·cases h
 ·cases h
theorem nD{r:Nat}{es:Array MapEntry}{clock:Nat}(hb:w.heap[r]?=some (.map es clock)):(getObj r).run P w=.ok (.map es clock) w:=by simp[getObj,Sem.run,hb]
theorem wU{r:Nat}{es:Array MapEntry}{clock:Nat}(o:Obj)(hb:w.heap[r]?=some (.map es clock)):(setObj r o).run P w=.ok () (w.putObj r o):=by simp[setObj,Sem.run,hb,World.putObj]
theorem wV{g:Nat->Option Loc}{v c:Value}(h:VG g v c)(ok b:Bool):VG g (found ok v b) (if ok then .tuple #[c,.bool b] else c):=by
 cases ok with
 |false=>exact h
 |true=>
  refine .tuple _ _ (by simp) fun i x y hx hy=>?_
  match i with
  |0=>simp at hx hy;subst hx;subst hy;exact h
  |1=>simp at hx hy;subst hx;subst hy;exact .flat _ rfl
  |i+2=>simp at hx
theorem CK(hR:HR J s w){t:TypeId}{x cx k ck v:Value}{ok:Bool}{s':St}(h0:bO s (kH P s.h t x k ok)=some (v,s'))(hx:VR J x cx)(hk:VR J k ck) :
  dE P J s w (Instr.lookup t cx ck ok) v s' (s.h.next<=·) (fun _=>False):=by
 obtain⟨h',h,rfl⟩:=bg h0;unfold kH at h;split at h
 ·rename_i kt et hu
  split at h
  ·rename_i kd z es Qj hz tO
   cases hc:(iF kd && isKey k)with
   |false=>rw[hc]at h;simp at h
   |true=>
    rw[hc]at h;simp only[cond_true]at h;simp only[Bool.and_eq_true]at hc;obtain rfl:=hk.key hc.2;have Tt:=fun em=>ou (P:=P) (w:=w) (k:=ck) Qj hc.1 em 9999
    rcases AR hR tO hx with ⟨rfl,rfl⟩|⟨id,L,l8,clock,rfl,rfl,hL,hm,hw,RA⟩
    ·simp only[wC,oi,pj]at h
     obtain⟨rfl,rfl⟩:=h;refine dE.still hR ?_ (.cU _ _ (wV (VG.of_flat (fK hz).1) ok false));simp only[Instr.lookup,Sem.run_bind,aK hu,Result.andThen_ok,Sem.run_pure,Tt,Instr.findKey,aK Qj,Instr.findNow,fW hz]
    ·split at h
     ·rename_i j u hf
      simp only[oi,pj]at h;obtain⟨rfl,rfl⟩:=h;rcases mM _ _ _ _ RA hf with ⟨q,_⟩|⟨j',v',c',e',q1,q2,q3,_⟩
      ·cases q
      ·simp only[oi,pj]at q1
       obtain⟨rfl,rfl⟩:=q1;refine dE.still hR ?_ (.cU _ _ (wV q3 ok true));simp only[Instr.lookup,Sem.run_bind,aK hu,Result.andThen_ok,nD hw,Sem.run_pure,Tt,Instr.findKey,aK Qj,q2]
     ·rename_i hf
      simp only[oi,pj]at h;obtain⟨rfl,rfl⟩:=h;rcases mM _ _ _ _ RA hf with ⟨_,q2⟩|⟨j',v',c',e',q1,_⟩
      ·refine dE.still hR ?_ (.cU _ _ (wV (VG.of_flat (fK hz).1) ok false))
       simp only[Instr.lookup,Sem.run_bind,aK hu,Result.andThen_ok,nD hw,Sem.run_pure,Tt,Instr.findKey,aK Qj,q2,fW hz]
      ·cases q1
     ·cases h
  ·cases h
 ·cases h
theorem MR.set{g:Nat->Option Loc}{es:List (Value×Value)}{l8:Array MapEntry}(h:MR g es l8.toList){k v c:Value}(hv:VG g v c)(i:Nat):MR g (es.set i (k,v)) (l8.modify i fun e=>{ e with key:=k,val:=c }).toList:=by
 refine⟨by simp[h.1],fun j e x he hx=>?_⟩;rw[List.getElem?_set]at he;simp only[Array.getElem?_toList,Array.getElem?_modify]at hx;by_cases WS:i=j
 ·subst WS
  simp only[if_true]at he hx;cases hc:l8[i]? with
  |none=>rw[hc]at hx;simp at hx
  |some c0=>
   rw[hc]at hx;simp only[Option.map_some,oi]at hx;subst hx;split at he
   ·simp only[oi]at he;subst he;exact⟨rfl,hv⟩
   ·cases he
 ·simp only[WS,if_false]at he hx
  exact h.2 j e x he (by simpa using hx)
theorem MR.push{g:Nat->Option Loc}{es:List (Value×Value)}{l8:Array MapEntry}(h:MR g es l8.toList){k v c:Value}(hv:VG g v c)(b:Nat):MR g (es++[(k,v)]) (l8.push { key:=k,val:=c,born:=b }).toList:=by
 refine⟨by simp[h.1],fun j e x he hx=>?_⟩;have hl:es.length=l8.toList.length:=h.1;simp only[Array.toList_push]at hx;rw[List.getElem?_append]at he hx;by_cases hj:j<es.length
 ·rw[if_pos hj]at he
  rw[if_pos om]at hx;exact h.2 j e x he hx
 ·rw[if_neg hj]at he
  rw[if_neg om]at hx;have:j-es.length=j-l8.toList.length:=om
  rw[this]at he;cases hz:j-l8.toList.length with
  |zero=>rw[hz]at he hx;simp at he hx;subst he;subst hx;exact⟨rfl,hv⟩
  |succ n=>rw[hz]at he;simp at he
theorem uO(hR:HR J s w){t:TypeId}{x cx k ck v cv r:Value}{s':St}(h0:bO s (kI P s.h t x k v)=some (r,s'))(hx:VR J x cx)(hk:VR J k ck)(hv:VR J v cv) :
  ∃w',(Instr.mapUpdate t cx ck cv).run P w=.ok () w'/\Good J s w J s' w'/\r=undef/\s'.env=s.env:=by
 obtain⟨h',h,rfl⟩:=bg h0;unfold kI at h;split at h
 ·rename_i kt et id hu
  split at h
  ·rename_i kd es Qj tO
   cases hc:(iF kd && isKey k && dr v)with
   |false=>rw[hc]at h;simp at h
   |true=>
    rw[hc]at h;simp only[cond_true]at h;simp only[Bool.and_eq_true]at hc;obtain rfl:=hk.key hc.1.2;have hvg:=hv.oX hc.2;have Tt:=fun em=>ou (P:=P) (w:=w) (k:=ck) Qj hc.1.1 em 9999
    obtain⟨L,hL,rfl⟩:=(hx.aY (fun a=>by simp)).Oa;obtain⟨l8,clock,hw,RA⟩:=hR.cG _ _ _ hL tO;split at h
    ·rename_i i u hf
     simp only[oi,pj]at h;obtain⟨rfl,rfl⟩:=h;rcases mM _ _ _ _ RA hf with ⟨q,_⟩|⟨j',v',c',e',q1,q2,q3,q4,q5,q6⟩
     ·cases q
     ·simp only[Nat.zero_add,oi,pj]at q1
      obtain⟨rfl,rfl⟩:=q1;obtain⟨q7,q8⟩:=E9 q6;have Kx:l8[i]?=some e':=by simpa using q5
      refine⟨_,?_,hR.iW hL tO rfl (o:=.map (l8.modify i fun e=>{ e with key:=ck,val:=cv }) clock) (by simp) ⟨_,_,rfl,RA.set hvg i⟩,rfl,rfl⟩;simp only[Instr.mapUpdate,Sem.run_bind,aK hu,Result.andThen_ok,nD hw,Tt,Instr.findKey,aK Qj,q2,Nat.zero_add,Sem.run_pure,Kx,Option.map_some,Option.getD_some,Instr.keyThatStays,q8,if_true];exact wU _ hw
    ·rename_i hf
     simp only[oi,pj]at h;obtain⟨rfl,rfl⟩:=h;rcases mM _ _ _ _ RA hf with ⟨_,q2⟩|⟨j',v',c',e',q1,_⟩
     ·refine⟨_,?_,hR.iW hL tO rfl (o:=.map (l8.push { key:=ck,val:=cv,born:=clock }) (clock+1)) (by simp) ⟨_,_,rfl,RA.push hvg clock⟩,rfl,rfl⟩
      simp only[Instr.mapUpdate,Sem.run_bind,aK hu,Result.andThen_ok,nD hw,Tt,Instr.findKey,aK Qj,q2,Sem.run_pure];exact wU _ hw
     ·cases q1
    ·cases h
  ·cases h
 ·cases h
theorem sG:∀(l:List Value) (bs:List UInt8),bytesOf l=some bs->∃ns:List Int,l=ns.map (.int .u8)/\bs=ns.map (fun n=>UInt8.ofNat n.toNat)
 | [],bs,h=>by simp only[bytesOf,oi]at h;subst h;exact⟨[],rfl,rfl⟩
 |v :: l,bs,h=>by
  unfold bytesOf at h;split at h
  ·rename_i e;cases e
  ·rename_i n r e
   split at h
   ·rename_i l' hl
    simp only[oi]at h;subst h;simp only[List.cons.injEq]at e;obtain⟨rfl,rfl⟩:=e;obtain⟨ns,rfl,rfl⟩:=sG _ _ hl;exact⟨n :: ns,rfl,rfl⟩
   ·cases h
  ·cases h
theorem wW:∀(ns:List Int) (s:ByteArray),ns.foldl (fun r n=>r.push (UInt8.ofNat n.toNat)) s=⟨s.data++(ns.map (fun n=>UInt8.ofNat n.toNat)).toArray⟩
 | [],s=>by simp
 |n :: ns,s=>by
  rw[List.foldl_cons,wW ns];simp[ByteArray.push]
theorem fF.ints{g:Nat->Option Loc}{k:IntKind}:∀(ns:List Int) (l':List Value),fF g (ns.map (.int k)) l'->l'=ns.map (.int k)
 | [],l',h=>h.iL
 |n :: ns,l',h=>by
  obtain⟨v,l2,rfl,hv,hl⟩:=h.head;rw[fF.ints ns l2 hl,hv.int];rfl
theorem It(hR:HR J s w){src dst:TypeId}{a:Option Addr}{n c:Nat}{cx v:Value}(h:oq P s.h src dst a n=some v)(hx:VR J (.slice a n c) cx):(convert src dst cx).run P w=.ok v w/\bk v=true:=by
 unfold oq at h;split at h
 ·rename_i e hs hd
  split at h
  ·rename_i he
   split at h
   ·simp only[oi]at h;subst h
    obtain⟨rfl,rfl,rfl⟩:=(hx.aY (fun a=>by simp)).ft;rw[run_convert_bytes_string w src dst e none 0 0 hs he hd];exact⟨by simp[Conv.bytesToString],rfl⟩
   ·rename_i a
    split at h
    ·rename_i l hl
     split at h
     ·rename_i bs hb
      simp only[oi]at h;subst h;obtain⟨ns,rfl,rfl⟩:=sG _ _ hb;obtain⟨iY,L,c',hL,rfl,_⟩:=(hx.aY (fun a=>by simp)).oW (iH hl).1;obtain⟨l',h1,h2,h3⟩:=hR.read (a:=a) (L:=L) (by simp[dI.at,iY,hL]) (iH hl).2;obtain rfl:=fF.ints _ _ h1;have Kw:=run_loadCells_list (P:=P) w ⟨L.b,L.o+a.off,none⟩ _ h3;rw[h2]at Kw;rw[run_convert_bytes_string w src dst e _ n c' hs he hd,run_bytesToString w _ n c' ns Kw,wW];have e0:ByteArray.empty.data=#[]:=rfl;exact⟨by rw[e0];simp,rfl⟩
     ·cases h
    ·cases hb:(a.spot.isSome && Nat.beq n 0)with
     |false=>rw[hb]at h;simp at h
     |true=>
      rw[hb]at h;simp only[cond_true,oi]at h;subst h;simp only[Bool.and_eq_true]at hb;rcases(hx.aY (fun a=>by simp)).dQ with ⟨qO,_⟩|⟨rfl,_,a',c',rfl,_⟩
      ·rw[qO]at hb;simp at hb
      ·have Kw:(loadCells a' 0).run P w=.ok (([]:List Int).map (Value.int .u8)).toArray w:=by simp[loadCells,loadCellsFrom]
       rw[run_convert_bytes_string w src dst e _ 0 c' hs he hd,run_bytesToString w _ 0 c' [] Kw];exact⟨rfl,rfl⟩
  ·cases h
 ·cases h
theorem Fb(hR:HR J s w){ts:List TypeId}{args aU:List Value}{ty:TypeId}{v:Value}{s':St}(h0:bO s (rC P s.h ts args)=some (v,s'))(ha:args.length=aU.length/\∀(i:Nat) (a b:Value),args[i]?=some a->aU[i]?=some b->VR J a b) :
  dE P J s w (Builtin.clear_ ts.toArray ty aU.toArray) v s' (s.h.next<=·) (fun _=>False):=by
 obtain⟨vt,h,rfl⟩:=bg h0;clear h0;unfold rC at h;split at h
 ·rename_i t base len c
  obtain⟨c0,rfl⟩:∃c0,aU=[c0]:=by
   have:=ha.1
   match aU,this with
   | [c0],_=>exact⟨c0,rfl⟩
  have hs:=(ha.2 0 _ _ rfl rfl).aY (fun a=>by simp);split at h
  ·rename_i e hu
   split at h
   ·simp only[oi,pj]at h;obtain⟨rfl,rfl⟩:=h
    obtain⟨rfl,rfl,rfl⟩:=hs.ft;exact dE.still hR (c:=undef) (by simp[Builtin.clear_,aK hu,undef]) (.cU _ _ (VG.of_flat rfl))
   ·rename_i a
    cases hb:Nat.beq len 0 with
    |true=>
     rw[hb]at h;simp only[cond_true,oi,pj]at h;obtain⟨rfl,rfl⟩:=h;have:=Nat.eq_of_beq_eq_true hb;subst this;obtain⟨a',c',rfl,_⟩:=hs.iy;exact dE.still hR (c:=undef) (by cases a'<;>simp[Builtin.clear_,aK hu,undef]) (.cU _ _ (VG.of_flat rfl))
    |false=>
     rw[hb]at h;simp only[cond_false]at h;have dX:=Nat.ne_of_beq_eq_false hb;split at h
     ·rename_i z hz
      split at h
      ·rename_i h' hw
       simp only[oi,pj]at h;obtain⟨rfl,rfl⟩:=h;obtain⟨iY,L,c',hL,rfl,_⟩:=hs.oW (iM hw).1;obtain⟨w',e1,e2,e3,_⟩:=hR.write (P:=P) (a:=a) (L:=L) (by simp[dI.at,iY,hL]) (iM hw).2 (lA (lu (fK hz).1) len);refine⟨undef,w',J,?_,e2,fun _ _ h=>h,.cU _ _ (VG.of_flat rfl),e3,.refl _ _,.refl _ _⟩;have hzc:(Builtin.zeroCells z.cells len).toList=bB z.cells.toList len:=jF z.cells len;obtain⟨m,rfl⟩:∃m,len=m+1:=⟨len-1,om⟩;simp only[Builtin.clear_,List.getElem?_toArray,List.getElem?_cons_zero,Sem.run_bind,aK hu,Result.andThen_ok,fW hz,hzc,e1,Sem.run_pure,undef]
      ·cases h
     ·cases h
  ·cases h
 ·cases h
theorem Fe(hR:HR J s w){t:TypeId}{a:Addr}{L:Loc}(hL:J.at a=some L){v cv:Value}{s':St}(h:mu P s t a v=some s')(hv:VR J v cv) :
  ∃w',(storeVar t ⟨L.b,L.o+a.off,none⟩ cv).run P w=.ok () w'/\Good J s w J s' w'/\s'.env=s.env:=by
 unfold mu at h;split at h
 ·rename_i n hn
  cases hb:Nat.beq v.cells.toList.length n with
  |false=>rw[hb]at h;simp at h
  |true=>
   rw[hb]at h;simp only[cond_true]at h;have hlen:=Nat.eq_of_beq_eq_true hb;have fz:v.cells.toList.all aE=true:=by
    unfold St.write at h;cases ho:v.cells.toList.all aE with
    |true=>rfl
    |false=>rw[ho]at h;simp at h
   have Rw:=hv.cells fz;obtain⟨w',e1,e2,e3,_⟩:=hR.write (P:=P) hL h Rw;refine⟨w',?_,e2,e3⟩;have tP:cv.cells.size=n:=by have:=Rw.1;simp at this hlen;omega
   simp only[storeVar,Sem.run_bind,b8 hn,Result.andThen_ok];rw[Sem.run_ite,if_neg (by simp[tP])];simpa using e1
 ·cases h
def oJ(J:dI)(s:St)(a:Act)(l:List Operand):Prop:=∀x v,x∈l->bH s x=some v->VR J v (a.eval x)
theorem ER.ev{a:Act}(h:ER J s a)(l:List Operand):oJ J s a l:=fun _ _ _ hx=>h.eval hx
theorem oJ.tail{a:Act}{x:Operand}{l:List Operand}(h:oJ J s a (x :: l)):oJ J s a l:=fun y v hy hv=>h y v (List.mem_cons_of_mem _ hy) hv
theorem oJ.sub{a:Act}{l l':List Operand}(h:oJ J s a l)(hl:∀x∈l',x∈l):oJ J s a l':=fun y v hy hv=>h y v (hl y hy) hv
theorem jG{a:Act}:∀(l:List Operand) (_:oJ J s a l) (vs:List Value),gP s l=some vs->vs.length=(l.map a.eval).length/\∀(i:Nat) (x y:Value),vs[i]?=some x->(l.map a.eval)[i]?=some y->VR J x y
 | [],_,vs,h=>by simp only[gP,oi]at h;subst h;exact⟨rfl,fun i x y h=>by simp at h⟩
 |o :: l,hE,vs,h=>by
  simp only[gP]at h;split at h
  ·rename_i v hv
   split at h
   ·rename_i r hr
    simp only[oi]at h;subst h;obtain⟨h1,h2⟩:=jG l hE.tail r hr;refine⟨by simp at h1 ⊢;exact h1,fun i x y hx hy=>?_⟩;cases i with
    |zero=>simp at hx hy;subst hx;subst hy;exact hE _ _ (by simp) hv
    |succ i=>simp only[List.getElem?_cons_succ,List.map_cons]at hx hy;exact h2 i x y hx hy
   ·cases h
  ·cases h
theorem mw{a:Act}:∀(l:List (Nat×Operand)) (_:oJ J s a (l.map (·.2))) (vs:List (Nat×Value)),fU s l=some vs->sE J vs (l.map fun(i,x)=>(i,a.eval x))
 | [],_,vs,h=>by simp only[fU,oi]at h;subst h;exact⟨rfl,fun i x y h=>by simp at h⟩
 |(k,o) :: l,hE,vs,h=>by
  simp only[fU]at h;split at h
  ·rename_i v hv
   split at h
   ·rename_i r hr
    simp only[oi]at h;subst h;obtain⟨h1,h2⟩:=mw l (oJ.tail hE) r hr;refine⟨by simp at h1 ⊢;exact h1,fun i x y hx hy=>?_⟩;cases i with
    |zero=>simp at hx hy;subst hx;subst hy;exact⟨rfl,hE _ _ (by simp) hv⟩
    |succ i=>simp only[List.getElem?_cons_succ,List.map_cons]at hx hy;exact h2 i x y hx hy
   ·cases h
  ·cases h
theorem o8{a:Act}{x:Option Operand}(hE:oJ J s a x.toList){v:Option Value}(h:jc s x=some v):qX J v (x.map a.eval):=by
 cases x with
 |none=>simp only[jc,oi]at h;subst h;trivial
 |some x=>
  simp only[jc]at h;split at h
  ·rename_i u hu;simp only[oi]at h;subst h;exact hE _ _ (by simp) hu
  ·cases h
theorem vO{l:List Value}{c:List Value}(h:l.length=c.length/\∀(i:Nat) (x y:Value),l[i]?=some x->c[i]?=some y->VR J x y)(hn:l.all dr=true):fF J.g l c:=
 ⟨h.1,fun i x y hx hy=>(h.2 i x y hx hy).oX (by simp only[List.all_eq_true]at hn;exact hn x (List.mem_of_getElem? hx))⟩
def CL(P:Program)(J:dI)(s:St)(w:World)(x:Sem Next)(v:Value)(s':St)(R Rl:Nat->Prop):Prop:=
 ∃n c w' J',x.run P w=.ok n w'/\(n=.value c\/(n=.skip/\c=undef))/\Good J s w J' s' w'/\(∀t L,J.l t=some L->J'.l t=some L)/\VR J' v c/\s'.env=s.env/\fD R J.g J'.g/\fD Rl J.l J'.l
theorem dE.op{x:Sem Value}{v:Value}{s':St}{R Rl:Nat->Prop}(h:dE P J s w x v s' R Rl):CL P J s w (x >>= fun u=>Pure.pure (Next.value u)) v s' R Rl:=by
 obtain⟨c,w',J',h1,h2,h3,h4,h5⟩:=h;exact⟨.value c,c,w',J',by simp[h1],.inl rfl,h2,h3,h4,h5⟩
theorem GS{a:Act}{mk:kY}{loc:Bool}{o:Oper}{v:Value}{s':St}(hR:HR J s w)(hM:zQ J s w mk)(hE:oJ J s a o.op.operands.toList)(hK:∀{loc:Bool} {es:Nat} {cells:List Value} {r:Value×St},mk loc es cells=some r->cells.all aE=true)(h:gm P mk loc o.op s=some (v,s')):CL P J s w (execOp a.eval o) v s' (fun k=>(Ct o.op loc=true/\GJ mk k)\/(GH o.op=true/\s.h.next<=k)) (fun t=>Cu o.op loc=true/\Kl mk t):=by
 unfold gm at h;unfold execOp;have ev:∀{x:Operand} {v:Value},bH s x=some v->x∈o.op.operands.toList->VR J v (a.eval x):=fun h1 h2=>hE _ _ h2 h1
 split at h
 ·
  rename_i x ho;simp only[ho];split at h
  ·rename_i u hu
   simp only[oi,pj]at h;obtain⟨rfl,rfl⟩:=h;exact⟨.value (a.eval x),a.eval x,w,J,by simp,.inl rfl,.refl hR,fun _ _ h=>h,ev hu (by simp[ho,Op.operands]),rfl,.refl _ _,.refl _ _⟩
  ·cases h
 ·
  rename_i x ho;simp only[ho];split at h
  ·rename_i u hu
   simp only[oi,pj]at h;obtain⟨rfl,rfl⟩:=h;exact⟨.value (a.eval x),a.eval x,w,J,by simp,.inl rfl,.refl hR,fun _ _ h=>h,ev hu (by simp[ho,Op.operands]),rfl,.refl _ _,.refl _ _⟩
  ·cases h
 ·
  rename_i c x y ho;simp only[ho];split at h
  ·rename_i hc
   have Us:=((ev hc (by simp[ho,Op.operands])).aY (fun a=>by simp)).bool;split at h
   ·rename_i u hu
    simp only[oi,pj]at h;obtain⟨rfl,rfl⟩:=h;exact⟨.value (a.eval x),a.eval x,w,J,by simp[asBool,Us],.inl rfl,.refl hR,fun _ _ h=>h,ev hu (by simp[ho,Op.operands]),rfl,.refl _ _,.refl _ _⟩
   ·cases h
  ·rename_i hc
   have Us:=((ev hc (by simp[ho,Op.operands])).aY (fun a=>by simp)).bool;split at h
   ·rename_i u hu
    simp only[oi,pj]at h;obtain⟨rfl,rfl⟩:=h;exact⟨.value (a.eval y),a.eval y,w,J,by simp[asBool,Us],.inl rfl,.refl hR,fun _ _ h=>h,ev hu (by simp[ho,Op.operands]),rfl,.refl _ _,.refl _ _⟩
   ·cases h
  ·cases h
 ·
  rename_i e ho;simp only[ho];split at h
  ·rename_i z n hz hn
   obtain⟨Ik,_⟩:=fK hz;obtain⟨J',g1,g2,g3,g4,_,ga,gb⟩:=hM _ _ _ _ _ _ e h (CR.AL (lu Ik));refine dE.op ⟨_,_,J',?_,g1,g2,g3,g4,ga.mono (fun _ q=>.inl ⟨by simp[Ct,q.1],q.2⟩),gb.mono (fun _ q=>⟨by simp[Cu,q.1],q.2⟩)⟩;simp only[Instr.alloc,Sem.run_bind,fW hz,Result.andThen_ok,newVar,newRow,run_newObj,Sem.run_pure];simp[World.alloc_eq]
  ·cases h
 ·
  rename_i e x ho;simp only[ho];split at h
  ·rename_i u n hu hn
   have fz:u.cells.toList.all aE=true:=hK h;have AM:=CR.AL ((ev hu (by simp[ho,Op.operands])).cells fz);obtain⟨J',g1,g2,g3,g4,_,ga,gb⟩:=hM _ _ _ _ _ _ e h AM;refine dE.op ⟨_,_,J',?_,g1,g2,g3,g4,ga.mono (fun _ q=>.inl ⟨by simp[Ct,q.1],q.2⟩),gb.mono (fun _ q=>⟨by simp[Cu,q.1],q.2⟩)⟩;simp only[Instr.box,Sem.run_bind,Result.andThen_ok,newVar,newRow,run_newObj,Sem.run_pure];simp[World.alloc_eq]
  ·cases h
 ·
  rename_i t parts ho;simp only[ho];split at h
  ·rename_i l hl
   split at h
   ·rename_i u hu
    simp only[oi,pj]at h;obtain⟨rfl,rfl⟩:=h;obtain⟨c,e1,e2⟩:=E6 (P:=P) (w:=w) (cparts:=parts.map fun(i,x)=>(i,a.eval x)) hu (by have:=mw parts.toList (hE.sub (by simp[ho,Op.operands])) _ hl;simpa using this);exact dE.op (dE.still hR e1 (.cU _ _ e2))
   ·cases h
  ·cases h
 ·
  rename_i t len parts ho;simp only[ho];split at h
  ·rename_i l hl
   obtain⟨c,w',J',e1,e2,e3,e4,e5,ea,eb⟩:=vv (P:=P) hM (cparts:=parts.map fun(i,x)=>(i,a.eval x)) h (by have:=mw parts.toList (hE.sub (by simp[ho,Op.operands])) _ hl;simpa using this);exact dE.op ⟨c,w',J',e1,e2,e3,.cU _ _ e4,e5,ea.mono (fun _ q=>.inl ⟨rfl,q⟩),eb.mono (fun _ q=>q.elim)⟩
  ·cases h
 ·
  rename_i t x ho;simp only[ho];split at h
  ·rename_i ad hu
   split at h
   ·rename_i u hv
    simp only[oi,pj]at h;obtain⟨rfl,rfl⟩:=h;obtain⟨L,hL,hc⟩:=(ev hu (by simp[ho,Op.operands])).oV;obtain⟨c,e1,e2⟩:=zP (P:=P) hR hL hv;exact dE.op (dE.still hR (c:=c) (by simp[Instr.loadAt,hc,Instr.sureAddr,e1]) (.cU _ _ e2))
   ·cases h
  ·cases h
 ·
  rename_i t x y ho;simp only[ho];split at h
  ·rename_i ad u hx hu
   split at h
   ·rename_i s2 ql
    simp only[oi,pj]at h;obtain⟨rfl,rfl⟩:=h;obtain⟨L,hL,hc⟩:=(ev hx (by simp[ho,Op.operands])).oV;obtain⟨w',e1,e2,e3⟩:=Fe (P:=P) hR hL ql (ev hu (by simp[ho,Op.operands]));exact⟨.skip,undef,w',J,by simp[Instr.storeAt,hc,Instr.sureAddr,e1],.inr ⟨rfl,rfl⟩,e2,fun _ _ h=>h,.cU _ _ (VG.of_flat rfl),e3,.refl _ _,.refl _ _⟩
   ·cases h
  ·cases h
 ·
  rename_i x ho;simp only[ho];split at h
  ·rename_i ad hu
   simp only[oi,pj]at h;obtain⟨rfl,rfl⟩:=h;have hv:=ev hu (by simp[ho,Op.operands]);obtain⟨L,hL,hc⟩:=hv.oV;exact⟨.value (a.eval x),a.eval x,w,J,by simp[hc],.inl rfl,.refl hR,fun _ _ h=>h,hv,rfl,.refl _ _,.refl _ _⟩
  ·rename_i f first cap hu
   simp only[oi,pj]at h;obtain⟨rfl,rfl⟩:=h;have hv:=ev hu (by simp[ho,Op.operands]);obtain⟨x',y',hc,_,_⟩:=(hv.aY (fun a=>by simp)).Ke;exact⟨.value (a.eval x),a.eval x,w,J,by simp[hc],.inl rfl,.refl hR,fun _ _ h=>h,hv,rfl,.refl _ _,.refl _ _⟩
  ·cases h
 ·
  rename_i op t x y yt ho;simp only[ho];split at h
  ·rename_i u1 u2 h1 h2
   split at h
   ·rename_i u hu
    simp only[oi,pj]at h;obtain⟨rfl,rfl⟩:=h;obtain⟨e1,e2⟩:=Kr (P:=P) (w:=w) (X:=x) (Y:=y) hu (ev h1 (by simp[ho,Op.operands])) (ev h2 (by simp[ho,Op.operands]));exact dE.op (dE.still hR e1 (.cU _ _ (.flat _ e2)))
   ·cases h
  ·cases h
 ·
  rename_i op t x ho;simp only[ho];split at h
  ·rename_i u1 h1
   split at h
   ·rename_i u hu
    simp only[oi,pj]at h;obtain⟨rfl,rfl⟩:=h;obtain⟨e1,e2⟩:=Oc (P:=P) (w:=w) hu (ev h1 (by simp[ho,Op.operands]));exact dE.op (dE.still hR e1 (.cU _ _ (.flat _ e2)))
   ·cases h
  ·cases h
 ·
  rename_i src dst x ho;simp only[ho];split at h
  ·rename_i a n c h1
   split at h
   ·rename_i u hu
    simp only[oi,pj]at h;obtain⟨rfl,rfl⟩:=h;obtain⟨e1,e2⟩:=It (P:=P) hR hu (ev h1 (by simp[ho,Op.operands]));exact dE.op (dE.still hR e1 (.cU _ _ (.flat _ e2)))
   ·cases h
  ·rename_i u1 _ h1
   split at h
   ·rename_i u hu
    simp only[oi,pj]at h;obtain⟨rfl,rfl⟩:=h;obtain⟨e1,e2⟩:=Ie (P:=P) (w:=w) hu (ev h1 (by simp[ho,Op.operands]));exact dE.op (dE.still hR e1 (.cU _ _ (.flat _ e2)))
   ·cases h
  ·cases h
 ·
  rename_i fn first cap ho
  simp only[ho];split at h
  ·rename_i f l r h1 h2
   cases hb:(l.all dr && r.all dr)with
   |false=>rw[hb]at h;simp at h
   |true=>
    rw[hb]at h;simp only[cond_true,oi,pj]at h;obtain⟨rfl,rfl⟩:=h;simp only[Bool.and_eq_true]at hb;have g1:=vO (jG first.toList (hE.sub (by simp[ho,Op.operands];grind)) _ h1) hb.1;have g2:=vO (jG cap.toList (hE.sub (by simp[ho,Op.operands];grind)) _ h2) hb.2;refine dE.op (dE.still hR (c:=.func (.func f) (first.map a.eval) (cap.map a.eval)) (by simp[Instr.makeFunc]) (.cU _ _ ?_));exact .func _ _ _ _ _ (by simpa using g1.1) (by simpa using g2.1) (fun i u v hu hv=>g1.2 i u v (by simpa using hu) (by simpa using hv)) (fun i u v hu hv=>g2.2 i u v (by simpa using hu) (by simpa using hv))
  ·cases h
 ·
  rename_i t l c ho;simp only[ho];split at h
  ·rename_i u1 u2 h1 h2
   obtain⟨r,w',J',e1,e2,e3,e4,e5,ea,eb⟩:=wQ (P:=P) hM h (ev h1 (by simp[ho,Op.operands])) (ev h2 (by simp[ho,Op.operands]));exact dE.op ⟨r,w',J',e1,e2,e3,.cU _ _ e4,e5,ea.mono (fun _ q=>.inl ⟨rfl,q⟩),eb.mono (fun _ q=>q.elim)⟩
  ·cases h
 ·
  rename_i t x lo hi mx ho;simp only[ho];split at h
  ·rename_i u b1 b2 b3 h1 h2 h3 h4
   split at h
   ·rename_i r hr
    simp only[oi,pj]at h;obtain⟨rfl,rfl⟩:=h;obtain⟨c,e1,e2⟩:=E5 (P:=P) (w:=w) hr (ev h1 (by simp[ho,Op.operands])) (o8 (hE.sub (by simp[ho,Op.operands];grind)) h2) (o8 (hE.sub (by simp[ho,Op.operands];grind)) h3) (o8 (hE.sub (by simp[ho,Op.operands];grind)) h4);exact dE.op (dE.still hR e1 (.cU _ _ e2))
   ·cases h
  ·cases h
 ·
  rename_i t x f ho;simp only[ho];split at h
  ·rename_i u h1
   split at h
   ·rename_i r hr
    simp only[oi,pj]at h;obtain⟨rfl,rfl⟩:=h;obtain⟨c,e1,e2⟩:=wK (P:=P) (w:=w) hr (ev h1 (by simp[ho,Op.operands]));exact dE.op (dE.still hR e1 e2)
   ·cases h
  ·cases h
 ·
  rename_i t x f ho;simp only[ho];split at h
  ·rename_i u h1
   split at h
   ·rename_i r hr
    simp only[oi,pj]at h;obtain⟨rfl,rfl⟩:=h;obtain⟨c,e1,e2⟩:=EW (P:=P) (w:=w) hr (ev h1 (by simp[ho,Op.operands]));exact dE.op (dE.still hR e1 (.cU _ _ e2))
   ·cases h
  ·cases h
 ·
  rename_i t x i ho;simp only[ho];split at h
  ·rename_i u1 u2 h1 h2
   split at h
   ·rename_i r hr
    simp only[oi,pj]at h;obtain⟨rfl,rfl⟩:=h;obtain⟨c,e1,e2⟩:=wL (P:=P) (w:=w) hr (ev h1 (by simp[ho,Op.operands])) (ev h2 (by simp[ho,Op.operands]));exact dE.op (dE.still hR e1 e2)
   ·cases h
  ·cases h
 ·
  rename_i t x i ho;simp only[ho];split at h
  ·rename_i u1 u2 h1 h2
   split at h
   ·rename_i r hr
    simp only[oi,pj]at h;obtain⟨rfl,rfl⟩:=h;obtain⟨c,e1,e2⟩:=EX (P:=P) (w:=w) hr (ev h1 (by simp[ho,Op.operands])) (ev h2 (by simp[ho,Op.operands]));exact dE.op (dE.still hR e1 (.cU _ _ e2))
   ·cases h
  ·cases h
 ·
  rename_i x i ho;simp only[ho];split at h
  ·rename_i vs h1
   split at h
   ·rename_i r hr
    simp only[oi,pj]at h;obtain⟨rfl,rfl⟩:=h;obtain⟨ys,hc,hy⟩:=((ev h1 (by simp[ho,Op.operands])).aY (fun a=>by simp)).Kd;have dR:i<ys.toList.length:=by rw[<-hy.1];exact(List.getElem?_eq_some_iff.1 hr).1
    have hx:ys[i]?=some (ys.toList[i]):=by simp at dR ⊢
    exact dE.op (dE.still hR (c:=ys.toList[i]) (by simp[Instr.extract,hc,hx]) (.cU _ _ (hy.2 i r _ hr (by simp at dR ⊢))))
   ·cases h
  ·cases h
 ·
  rename_i b args argTypes ho;simp only[ho,resolve];split at h
  ·rename_i l hl
   have iN:=jG args.toList (hE.sub (by simp[ho,Op.operands,Call.operands])) _ hl;have Ff:args.map a.eval=(args.toList.map a.eval).toArray:=by apply Array.ext';simp
   split at h
   ·rename_i x
    split at h
    ·rename_i t ht
     split at h
     ·rename_i u hu
      simp only[oi,pj]at h;obtain⟨rfl,rfl⟩:=h;obtain⟨c0,tJ⟩:∃c0,args.toList.map a.eval=[c0]:=by
       have:=iN.1
       match hm:args.toList.map a.eval,this with
       | [c0],_=>exact⟨c0,rfl⟩
      have hx:=iN.2 0 x c0 rfl (by rw[tJ];rfl);obtain⟨e1,e2⟩:=Km (P:=P) (w:=w) (ty:=o.type) hu hx;have Yf:argTypes=#[t]:=by apply Array.ext';simpa using ht
      refine⟨.value u,u,w,J,?_,.inl rfl,.refl hR,fun _ _ h=>h,.cU _ _ (.flat _ e2),rfl,.refl _ _,.refl _ _⟩;simp[invoke,builtin,Ff,tJ,Yf,e1]
     ·cases h
    ·cases h
   ·rename_i x
    split at h
    ·rename_i t ht
     split at h
     ·rename_i u hu
      simp only[oi,pj]at h;obtain⟨rfl,rfl⟩:=h;obtain⟨c0,tJ⟩:∃c0,args.toList.map a.eval=[c0]:=by
       have:=iN.1
       match hm:args.toList.map a.eval,this with
       | [c0],_=>exact⟨c0,rfl⟩
      have hx:=iN.2 0 x c0 rfl (by rw[tJ];rfl);obtain⟨e1,e2⟩:=Kn (P:=P) (w:=w) (ty:=o.type) hu hx;have Yf:argTypes=#[t]:=by apply Array.ext';simpa using ht
      refine⟨.value u,u,w,J,?_,.inl rfl,.refl hR,fun _ _ h=>h,.cU _ _ (.flat _ e2),rfl,.refl _ _,.refl _ _⟩;simp[invoke,builtin,Ff,tJ,Yf,e1]
     ·cases h
    ·cases h
   ·rename_i x r
    split at h
    ·rename_i u hu
     simp only[oi,pj]at h;obtain⟨rfl,rfl⟩:=h;obtain⟨c0,cr,tJ⟩:∃c0 cr,args.toList.map a.eval=c0 :: cr:=by
      have:=iN.1
      match hm:args.toList.map a.eval,this with
      |c0 :: cr,_=>exact⟨c0,cr,rfl⟩
     rw[tJ]at iN;obtain⟨c,e1,e2⟩:=tQ (P:=P) (w:=w) (F:=Builtin.max2) (fun x y v h=>(Ig h).1) (fun x y v h=>EY h) r cr x c0 u hu (iN.2 0 x c0 rfl rfl) ⟨by have:=iN.1;simpa using this,fun i p q hp hq=>iN.2 (i+1) p q (by simpa using hp) (by simpa using hq)⟩;refine⟨.value c,c,w,J,?_,.inl rfl,.refl hR,fun _ _ h=>h,e2,rfl,.refl _ _,.refl _ _⟩;simp[invoke,builtin,Ff,tJ,Builtin.max_,e1]
    ·cases h
   ·rename_i x r
    split at h
    ·rename_i u hu
     simp only[oi,pj]at h;obtain⟨rfl,rfl⟩:=h;obtain⟨c0,cr,tJ⟩:∃c0 cr,args.toList.map a.eval=c0 :: cr:=by
      have:=iN.1
      match hm:args.toList.map a.eval,this with
      |c0 :: cr,_=>exact⟨c0,cr,rfl⟩
     rw[tJ]at iN;obtain⟨c,e1,e2⟩:=tQ (P:=P) (w:=w) (F:=Builtin.min2) (fun x y v h=>(Ih h).1) (fun x y v h=>EZ h) r cr x c0 u hu (iN.2 0 x c0 rfl rfl) ⟨by have:=iN.1;simpa using this,fun i p q hp hq=>iN.2 (i+1) p q (by simpa using hp) (by simpa using hq)⟩;refine⟨.value c,c,w,J,?_,.inl rfl,.refl hR,fun _ _ h=>h,e2,rfl,.refl _ _,.refl _ _⟩;simp[invoke,builtin,Ff,tJ,Builtin.min_,e1]
    ·cases h
   ·obtain⟨c,w',J',e1,e2,e3,e4,e5,ea,eb⟩:=CH (P:=P) hR (ty:=o.type) h iN
    refine⟨.value c,c,w',J',?_,.inl rfl,e2,e3,e4,e5,ea.mono (fun _ q=>.inr ⟨rfl,q⟩),eb.mono (fun _ q=>q.elim)⟩;simp[invoke,builtin,Ff]at e1 ⊢;rw[e1];rfl
   ·obtain⟨c,w',J',e1,e2,e3,e4,e5,ea,eb⟩:=Ir (P:=P) hR (ty:=o.type) h iN
    refine⟨.value c,c,w',J',?_,.inl rfl,e2,e3,e4,e5,ea.mono (fun _ q=>.inr ⟨rfl,q⟩),eb.mono (fun _ q=>q.elim)⟩;simp[invoke,builtin,Ff]at e1 ⊢;rw[e1];rfl
   ·obtain⟨c,w',J',e1,e2,e3,e4,e5,ea,eb⟩:=Fb (P:=P) hR (ty:=o.type) h iN
    refine⟨.value c,c,w',J',?_,.inl rfl,e2,e3,e4,e5,ea.mono (fun _ q=>.inr ⟨rfl,q⟩),eb.mono (fun _ q=>q.elim)⟩;simp[invoke,builtin,Ff]at e1 ⊢;rw[e1];rfl
   ·cases h
  ·cases h
 ·
  rename_i t ho;simp only[ho];obtain⟨h',h1,rfl⟩:=bg h;simp only[oi,pj]at h1;obtain⟨rfl,rfl⟩:=h1;obtain⟨J',e1,e2,e3,e4⟩:=hR.gO (b:=.map []) (o:=.map #[] 0) (by simp) (fun g' _=>⟨#[],0,rfl,rfl,fun i e c h=>by simp at h⟩);exact dE.op ⟨.map (some w.heap.size),w.alloc (.map #[] 0),J',by simp[Instr.makeMap],e1,fun t L h=>by rw[e2];exact h,.cU _ _ (.wH _ _ e3),rfl,e4.mono (fun _ q=>.inr ⟨rfl,q⟩),by rw[e2];exact .refl _ _⟩
 ·
  rename_i t x i ok ho;simp only[ho];split at h
  ·rename_i u1 u2 h1 h2
   obtain⟨c,w',J',e1,e2,e3,e4,e5,ea,eb⟩:=CK (P:=P) hR h (ev h1 (by simp[ho,Op.operands])) (ev h2 (by simp[ho,Op.operands]));exact dE.op ⟨c,w',J',e1,e2,e3,e4,e5,ea.mono (fun _ q=>.inr ⟨rfl,q⟩),eb.mono (fun _ q=>q.elim)⟩
  ·cases h
 ·
  rename_i t m k x ho;simp only[ho];split at h
  ·rename_i u1 u2 u3 h1 h2 h3
   obtain⟨w',e1,e2,rfl,e3⟩:=uO (P:=P) hR h (ev h1 (by simp[ho,Op.operands])) (ev h2 (by simp[ho,Op.operands])) (ev h3 (by simp[ho,Op.operands]));exact⟨.skip,undef,w',J,by simp[e1],.inr ⟨rfl,rfl⟩,e2,fun _ _ h=>h,.cU _ _ (VG.of_flat rfl),e3,.refl _ _,.refl _ _⟩
  ·cases h
 ·
  rename_i t m k x ho;simp only[ho];split at h
  ·rename_i u1 u2 u3 h1 h2 h3
   obtain⟨w',e1,e2,rfl,e3⟩:=uO (P:=P) hR h (ev h1 (by simp[ho,Op.operands])) (ev h2 (by simp[ho,Op.operands])) (ev h3 (by simp[ho,Op.operands]));exact⟨.skip,undef,w',J,by simp[e1],.inr ⟨rfl,rfl⟩,e2,fun _ _ h=>h,.cU _ _ (VG.of_flat rfl),e3,.refl _ _,.refl _ _⟩
  ·cases h
 ·cases h
