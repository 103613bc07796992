import Derived.Test.YtdpbiegfljmhmaaSimA
import Derived.Laws.BytesString
set_option linter.unusedSimpArgs false
set_option linter.unusedVariables false
namespace Go.cL
variable{P:Program}{w:World}{J:dH}{s:St}
theorem xH{t:TypeId}{x cx v:Value}{f:Nat}(h:lA P t x f=some v)(hx:VR J x cx):∃c,(Instr.fieldAt t cx f).run P w=.ok c w/\VR J v c:=by
 unfold lA at h;split at h
 ·rename_i fs a hu
  split at h
  ·rename_i fd hf
   split at h
   ·rename_i n hn
    cases hb:Nat.beq n 0 with
    |true=>rw[hb]at h;simp at h
    |false=>
     rw[hb]at h;simp only[cond_false,oi]at h;subst h;obtain⟨L,hL,rfl⟩:=hx.pG;have xq:=Nat.ne_of_beq_eq_false hb;have Mh:fs[f]?=some fd:=by simpa using hf
     refine⟨_,?_,VR.Ma hL fd.offset⟩;simp[Instr.fieldAt,aI hu,Mh,Instr.sureAddr,fieldPlace,cg hn,xq,jq]
   ·cases h
  ·cases h
 ·cases h
theorem xI{t:TypeId}{x cx ix ci v:Value}(h:lD P t x ix=some v)(hx:VR J x cx)(hi:VR J ix ci):∃c,(Instr.indexAt t cx ci).run P w=.ok c w/\VR J v c:=by
 unfold lD at h;split at h
 ·rename_i len e a k i hu
  split at h
  ·rename_i n hn
   split at h
   ·rename_i dV
    simp only[oi]at h;subst h;obtain⟨L,hL,rfl⟩:=hx.pG;obtain rfl:=(hi.aZ (fun a=>by simp)).int;refine⟨_,?_,VR.Ma hL _⟩;simp[Instr.indexAt,asIntOf,aI hu,Instr.sureAddr,dV.1,dV.2,cg hn,jq]
   ·cases h
  ·cases h
 ·rename_i e a len c k i hu
  split at h
  ·rename_i n hn
   split at h
   ·rename_i dV
    simp only[oi]at h;subst h;obtain⟨hs,L,c',hL,rfl,_⟩:=(hx.aZ (fun a=>by simp)).Tl om;obtain rfl:=(hi.aZ (fun a=>by simp)).int;refine⟨_,?_,VR.Ma (a:=a) (L:=L) (by simp[dH.at,hs,hL]) _⟩;simp[Instr.indexAt,asIntOf,aI hu,dV.1,dV.2,cg hn,jq]
   ·cases h
  ·cases h
 ·cases h
theorem kZ{v cv:Value}{y y' n:Nat}{code:BoundsCode}(h:bound v y=some n)(hv:VR J v cv)(hy:y<=y'):(Instr.sliceBound cv y' code).run P w=.ok n w/\n<=y:=by
 unfold bound at h;split at h
 ·rename_i k i
  split at h
  ·rename_i hi
   simp only[oi]at h;subst h;obtain rfl:=(hv.aZ (fun a=>by simp)).int;refine⟨?_,om⟩;have h2:i<=(y':Int):=om
   simp[Instr.sliceBound,asIntOf,hi.1,h2]
  ·cases h
 ·cases h
def rJ(J:dH):Option Value->Option Value->Prop
 |none,none=>True
 |some v,some c=>VR J v c
 |_,_=>False
theorem xJ{isS:Bool}{len c c':Nat}{lo hi mx Ib Mp cmx:Option Value}{m h l:Nat}(hc:c<=c')
  (hm:gG mx c=some m)
  (hh:iG hi mx len m=some h)
  (hl:ia lo h=some l)
  (h1:rJ J lo Ib) (h2:rJ J hi Mp) (h3:rJ J mx cmx) :
  (Instr.sliceBounds isS len c' Ib Mp cmx).run P w=.ok (l,h,if mx.isSome then m else c') w/\(lo=none->l=0)/\l<=h/\(mx.isSome=true->m<=c):=by
 cases mx with
 |none=>
  cases cmx with
  |some _=>exact h3.elim
  |none=>
   simp only[gG,oi]at hm;subst hm;cases hi with
   |none=>
    cases Mp with
    |some _=>exact h2.elim
    |none=>
     simp only[iG,oi]at hh;subst hh;cases lo with
     |none=>
      cases Ib with
      |some _=>exact h1.elim
      |none=>simp only[ia,oi]at hl;subst hl;exact⟨by simp[Instr.sliceBounds],fun _=>rfl,Nat.zero_le _,by simp⟩
     |some v=>
      cases Ib with
      |none=>exact h1.elim
      |some cv=>
       obtain⟨e1,e2⟩:=kZ (P:=P) (w:=w) (code:=.sliceB) hl h1 (Nat.le_refl _);exact⟨by simp[Instr.sliceBounds,e1],by simp,e2,by simp⟩
   |some hv=>
    cases Mp with
    |none=>exact h2.elim
    |some chv=>
     have e0:=fun code=>kZ (P:=P) (w:=w) (code:=code) hh h2 hc
     cases lo with
     |none=>
      cases Ib with
      |some _=>exact h1.elim
      |none=>
       simp only[ia,oi]at hl;subst hl;refine⟨?_,fun _=>rfl,Nat.zero_le _,by simp⟩;cases isS<;>simp[Instr.sliceBounds,(e0 _).1]
     |some v=>
      cases Ib with
      |none=>exact h1.elim
      |some cv=>
       obtain⟨e1,e2⟩:=kZ (P:=P) (w:=w) (code:=.sliceB) hl h1 (Nat.le_refl _);refine⟨?_,by simp,e2,by simp⟩;cases isS<;>simp[Instr.sliceBounds,(e0 _).1,e1]
 |some mv=>
  cases cmx with
  |none=>exact h3.elim
  |some cmv=>
   have em:=fun code=>kZ (P:=P) (w:=w) (code:=code) hm h3 hc
   cases hi with
   |none=>simp[iG]at hh
   |some hv=>
    cases Mp with
    |none=>exact h2.elim
    |some chv=>
     have e0:=fun code=>kZ (P:=P) (w:=w) (code:=code) hh h2 (Nat.le_refl _)
     cases lo with
     |none=>
      cases Ib with
      |some _=>exact h1.elim
      |none=>
       simp only[ia,oi]at hl;subst hl;refine⟨?_,fun _=>rfl,Nat.zero_le _,fun _=>(em .index).2⟩;cases isS<;>simp[Instr.sliceBounds,(em _).1,(e0 _).1]
     |some v=>
      cases Ib with
      |none=>exact h1.elim
      |some cv=>
       obtain⟨e1,e2⟩:=kZ (P:=P) (w:=w) (code:=.slice3C) hl h1 (Nat.le_refl _);refine⟨?_,by simp,e2,fun _=>(em .index).2⟩;cases isS<;>simp[Instr.sliceBounds,(em _).1,(e0 _).1,e1]
theorem xK{isS:Bool}{a:Option Addr}{a':Option Addr}{len c c' size:Nat}{lo hi mx Ib Mp cmx:Option Value}{v:Value}(h:lj a len c size lo hi mx=some v)
  (hv:VG J.g (.slice a len c) (.slice a' len c')) (h1:rJ J lo Ib) (h2:rJ J hi Mp) (h3:rJ J mx cmx) :
  ∃l h m,(Instr.sliceBounds isS len c' Ib Mp cmx).run P w=.ok (l,h,m) w/\VG J.g v (.slice (if m=l then a' else a'.map (·.add (l*size))) (h-l) (m-l)):=by
 obtain⟨_,_,e,nQ⟩:=hv.iE;simp only[Value.slice.injEq,true_and]at e;obtain⟨rfl,rfl⟩:=e;unfold lj at h;split at h
 ·cases h
 ·rename_i m hm
  split at h
  ·cases h
  ·rename_i zT hh
   split at h
   ·cases h
   ·rename_i l hl
    obtain⟨e1,e2,e3,e4⟩:=xJ (P:=P) (w:=w) (isS:=isS) nQ hm hh hl h1 h2 h3;cases hb:Nat.ble zT m with
    |false=>rw[hb]at h;simp at h
    |true=>
     rw[hb]at h;simp only[cond_true]at h;have hhm:zT<=m:=Nat.le_of_ble_eq_true hb;refine⟨l,zT,if mx.isSome then m else c',e1,?_⟩;cases hx:(Nat.blt c aS || mx.isSome)with
     |true=>
      rw[hx]at h;simp only[cond_true,oi]at h;subst h;have hmm:(if mx.isSome then m else c')=m:=by
       cases mx with
       |some _=>rfl
       |none=>
        simp only[Option.isSome_none,Bool.or_false]at hx;have hc:c<aS:=Nat.le_of_ble_eq_true hx;simp only[gG,oi]at hm;rw[fe hc]at hm;cases a with
        |none=>obtain⟨rfl,rfl,e⟩:=hv.ft;simp at e;simp[e,<-hm]
        |some a=>
         rcases hv.dO with ⟨_,L,c2,_,e,q⟩|⟨rfl,_,a2,c2,e,q⟩
         ·simp only[Value.slice.injEq,true_and]at e
          obtain⟨_,rfl⟩:=e;rcases q with ⟨_,rfl⟩|⟨m',rfl,_⟩
          ·simp[hm]
          ·have:=dr L.es m';omega
         ·simp only[Value.slice.injEq,true_and]at e
          rcases q with ⟨rfl,rfl⟩|rfl
          ·simp[e.2,<-hm]
          ·omega
      rw[hmm];have Zf:m<aS:=by
       have Tu:m<=cM c:=by
        cases mx with
        |some _=>exact e4 rfl
        |none=>simp only[gG,oi]at hm;omega
       have:=Nat.mod_lt c fZ;unfold cM at Tu;omega
      cases a with
      |none=>
       obtain⟨rfl,rfl,e⟩:=hv.ft;simp only[Value.slice.injEq]at e;obtain⟨rfl,_,rfl⟩:=e;have PR:m=0:=by
        have Tu:m<=cM 0:=by
         cases mx with
         |some _=>exact e4 rfl
         |none=>simp only[gG,oi]at hm;omega
        rw[fe fZ]at Tu;omega
       subst PR;have:zT=0:=om
       subst this;have:l=0:=om
       subst this;exact .flat _ rfl
      |some a=>
       rcases hv.dO with ⟨hs,L,c2,hL,e,q⟩|⟨rfl,⟨xs,hs⟩,a2,c2,e,q⟩
       rotate_left
       ·simp only[Value.slice.injEq,true_and]at e
        obtain⟨rfl,rfl⟩:=e;have PR:m=0:=by
         have Tu:m<=cM c:=by
          cases mx with
          |some _=>exact e4 rfl
          |none=>simp only[gG,oi]at hm;omega
         have h00:cM c=0:=by
          rcases q with ⟨rfl,_⟩|rfl
          ·rfl
          ·simp[cM]
         omega
        subst PR;have:zT=0:=om
        subst this;have:l=0:=om
        subst this;exact .ky a a2 xs hs
       simp only[Value.slice.injEq,true_and]at e;obtain⟨rfl,rfl⟩:=e;cases Tu:Nat.beq m l with
       |true=>
        have:=Nat.eq_of_beq_eq_true Tu;simp only[cond_true,this,if_true];exact .gN a L _ _ hs hL om
       |false=>
        have:=Nat.ne_of_beq_eq_false Tu;simp only[cond_false,this,if_false,Option.map_some,jq];have q:=VG.gN (g:=J.g) (fV a (l*size)) L (zT-l) (m-l) (by simpa[fV]using hs) (by simpa[fV]using hL) om;simpa[fV,Nat.add_assoc]using q
     |false=>
      rw[hx]at h;simp only[cond_false]at h;simp only[Bool.or_eq_false_iff]at hx;obtain⟨JJ,Pq⟩:=hx;have Bs:aS<=c:=by
       rcases Nat.lt_or_ge c aS with q|q
       ·rw[dU q]at JJ;cases JJ
       ·exact q
      cases mx with
      |some _=>simp at Pq
      |none=>
       simp only[gG,oi]at hm;simp only[Option.isSome_none,Bool.false_eq_true,if_false];cases a with
       |none=>obtain⟨rfl,rfl,_⟩:=hv.ft;have:=fZ;omega
       |some a=>
        rcases hv.dO with ⟨hs,L,c2,hL,e,q⟩|⟨rfl,⟨xs,hs⟩,a2,c2,e,q⟩
        rotate_left
        ·simp only[Value.slice.injEq,true_and]at e
         obtain⟨rfl,rfl⟩:=e;obtain rfl:c=aS:=by
          rcases q with ⟨rfl,_⟩|rfl
          ·have:=fZ;omega
          ·rfl
         have h00:cM aS=0:=by simp[cM]
         have:m=0:=om
         subst this;have:zT=0:=om
         subst this;have:l=0:=om
         subst this;rw[show Nat.beq 0 0=true from rfl]at h;simp only[cond_true,oi]at h;subst h;have e0:(if c'=0 then(some a2:Option Addr)else(some a2:Option Addr).map (·.add (0*size)))=some a2:=by
          split
          ·rfl
          ·simp[Addr.add]
         rw[e0,Nat.sub_zero];exact .jG _ _ xs _ hs
        simp only[Value.slice.injEq,true_and]at e;obtain⟨rfl,rfl⟩:=e;rcases q with ⟨q,_⟩|⟨m',rfl,q1,q2,q3⟩
        ·omega
        ·rw[ct q1]at hm
         subst hm;cases gq:Nat.beq l 0 with
         |true=>
          rw[gq]at h;simp only[cond_true,oi]at h;subst h;have:=Nat.eq_of_beq_eq_true gq;subst this;have e0:(if c'=0 then(some ⟨L.b,L.o+a.off,none⟩:Option Addr)else(some ⟨L.b,L.o+a.off,none⟩:Option Addr).map (·.add (0*size)))=some ⟨L.b,L.o+a.off,none⟩:=by
           split
           ·rfl
           ·simp[Addr.add]
          rw[e0,Nat.sub_zero,Nat.sub_zero];exact .gW a L _ _ _ hs hL q2 q1 q3
         |false=>
          rw[gq]at h;simp only[cond_false]at h;cases DT:(Nat.blt l m' && Nat.beq (au L.es m' / aS) (size+1))with
          |false=>
           rw[DT]at h;simp only[cond_false]at h;cases Vq:Nat.beq l m' with
           |false=>rw[Vq]at h;simp at h
           |true=>
            rw[Vq]at h;simp only[cond_true,oi]at h;subst h;have:=Nat.eq_of_beq_eq_true Vq;have e1:zT-l=0:=om
            rw[e1];split
            ·exact .jG _ _ 0 _ rfl
            ·exact .jG _ _ 0 _ rfl
          |true=>
           rw[DT]at h;simp only[cond_true,oi]at h;subst h;simp only[Bool.and_eq_true]at DT;have g1:l<m':=Nat.le_of_ble_eq_true DT.1;have g2:=Nat.eq_of_beq_eq_true DT.2;rw[jZ q1]at g2;have g3:L.es=size:=om
           have dS:¬c'=l:=om
           simp only[dS,if_false,Option.map_some,jq];have q:=VG.gW (g:=J.g) (fV a (l*size)) L (zT-l) (m'-l) (c'-l) (by simpa[fV]using hs) (by simpa[fV]using hL) om om (by
            simp only[fV];have e9:l*size+(c'-l)*L.es=c'*L.es:=by rw[g3,<-Nat.add_mul];congr 1;omega
            omega)
           rw[g3]at q;simpa[fV,Nat.add_assoc]using q
theorem Gq{t:TypeId}{x cx v:Value}{lo hi mx Ib Mp cmx:Option Value}(h:gM P t x lo hi mx=some v)(hx:VR J x cx)(h1:rJ J lo Ib)(h2:rJ J hi Mp)(h3:rJ J mx cmx) :
  ∃c,(Instr.sliceAt t cx Ib Mp cmx).run P w=.ok c w/\VG J.g v c:=by
 unfold gM at h;split at h
 ·rename_i str hu
  split at h
  ·cases h
  ·split at h
   ·cases h
   ·rename_i zT hh
    split at h
    ·cases h
    ·rename_i l hl
     simp only[oi]at h;subst h;obtain rfl:=(hx.aZ (fun a=>by simp)).string;cases cmx with
     |some _=>exact h3.elim
     |none=>
      obtain⟨e1,_,_,_⟩:=xJ (P:=P) (w:=w) (isS:=false) (len:=str.size) (c:=str.size) (m:=str.size) (mx:=none) (cmx:=none) (Nat.le_refl _) rfl hh hl h1 h2 trivial;exact⟨_,by simp[Instr.sliceAt,Instr.slice,aI hu,e1],.flat _ rfl⟩
 ·rename_i e a len c hu
  split at h
  ·rename_i n hn
   obtain⟨a',c',rfl,_⟩:=(hx.aZ (fun a=>by simp)).iE;obtain⟨l,hh,m,e1,e2⟩:=xK (P:=P) (w:=w) (isS:=true) h (hx.aZ (fun a=>by simp)) h1 h2 h3;exact⟨_,by simp[Instr.sliceAt,Instr.slice,aI hu,e1,cg hn],e2⟩
  ·cases h
 ·rename_i n e a hu
  split at h
  ·rename_i z jI hz
   obtain⟨L,hL,rfl⟩:=hx.pG;simp only[dH.at,jI]at hL;cases hns:Nat.blt n aS with
   |false=>rw[hns]at h;simp at h
   |true=>
    rw[hns]at h;simp only[cond_true]at h;have hv:=VG.gN (g:=J.g) a L n n jI hL (Nat.le_of_ble_eq_true hns);obtain⟨l,hh,m,e1,e2⟩:=xK (P:=P) (w:=w) (isS:=false) h hv h1 h2 h3;refine⟨_,?_,e2⟩;simp only[Instr.sliceAt,Sem.run_bind,aI hu,Instr.sureAddr,Sem.run_pure,Result.andThen_ok,e1,cg hz]
    congr 2
    split<;>rfl
  ·cases h
 ·cases h
end Go.cL
namespace Go.cL
variable{P:Program}{w:World}{J:dH}{s:St}
theorem DU(off:Nat):∀(vs:List Value) (k:Nat) (cells:Array Value),off+k+vs.length<=cells.size->
  (vs.zipIdx k).foldl (fun(cs:Array Value) (p:Value×Nat)=>cs.setIfInBounds (off+p.2) p.1) cells=iM cells (off+k) vs
 | [],k,cells,_=>by
  apply Array.ext';simp[iM]
 |v :: rest,k,cells,h=>by
  simp only[List.length_cons]at h;simp only[List.zipIdx_cons,List.foldl_cons];rw[DU off rest (k+1) _ (by simp;omega)];apply Array.ext_getElem?;intro i;rw[lG (by simp;omega),lG (by simp;omega)];simp only[Array.getElem?_setIfInBounds,List.length_cons];by_cases h1:i=off+k
  ·subst h1
   rw[if_neg om,if_pos rfl,if_pos om,if_pos ⟨om,om⟩];simp
  ·by_cases h2:off+(k+1)<=i/\i<off+(k+1)+rest.length
   ·rw[if_pos h2,if_pos ⟨om,om⟩]
    obtain⟨d,hd⟩:∃d,i-(off+k)=d+1:=⟨i-(off+k)-1,om⟩;rw[hd,show i-(off+(k+1))=d by omega];simp
   ·rw[if_neg h2,if_neg om,if_neg om]
def sZ(J:dH)(l l':List (Nat×Value)):Prop:=l.length=l'.length/\∀(i:Nat) (p q:Nat×Value),l[i]?=some p->l'[i]?=some q->p.1=q.1/\VR J p.2 q.2
theorem kT{place:Nat->Option (Nat×Nat)}{place':Nat->Option (Nat×Nat)}(hpl:∀i x,place i=some x->place' i=some x):∀(l l':List (Nat×Value)) (cells:List Value) (kz:Array Value) (cs:List Value),
  iD place cells l=some cs->sZ J l l'->fG J.g cells kz.toList->∃j6,Instr.fill place' kz l'=some j6/\fG J.g cs j6.toList
 | [],l',cells,kz,cs,h,hp,hc=>by
  have:l'=[]:=by have:=hp.1;cases l'<;>simp_all
  subst this;simp only[iD,oi]at h;subst h;exact⟨kz,rfl,hc⟩
 |(i,v) :: l,l',cells,kz,cs,h,hp,hc=>by
  cases l' with
  |nil=>have:=hp.1;simp at this
  |cons q l'=>
   obtain⟨i',c⟩:=q;obtain⟨e1,e2⟩:=hp.2 0 _ _ rfl rfl;simp only at e1 e2;subst e1;simp only[iD]at h;split at h
   ·rename_i off size hpi
    cases hb:(Nat.beq v.cells.toList.length size && v.cells.toList.all aD)with
    |false=>rw[hb]at h;simp at h
    |true=>
     rw[hb]at h;simp only[cond_true]at h;simp only[Bool.and_eq_true]at hb;split at h
     ·rename_i jH FR
      have Tv:=e2.cells hb.2;have v5:=Nat.eq_of_beq_eq_true hb.1;obtain⟨gi,qJ⟩:=mm FR;have hlen:c.cells.size=size:=by have:=Tv.1;simp at this v5;omega
      have gX:off+c.cells.size<=kz.size:=by have:=hc.1;have:=Tv.1;simp at *;omega
      have oT:fG J.g jH (iM kz off c.cells.toList).toList:=by
       rw[qJ];simp only[iM];have hl:=Tv.1;rw[hl];have:=(hc.take off).append (Tv.append (hc.drop (off+c.cells.toList.length)));simpa[List.append_assoc]using this
      have sI:sZ J l l':=⟨by have:=hp.1;simpa using this,fun k p q h1 h2=>hp.2 (k+1) p q (by simpa using h1) (by simpa using h2)⟩;obtain⟨j6,f1,f2⟩:=kT hpl l l' jH (iM kz off c.cells.toList) cs h sI oT;refine⟨j6,?_,f2⟩;have Wv:c.cells.zipIdx.foldl (fun(cs:Array Value) (p:Value×Nat)=>cs.setIfInBounds (off+p.2) p.1) kz=iM kz off c.cells.toList:=by
       have:=DU off c.cells.toList 0 kz (by simpa using gX);rw[Nat.add_zero]at this;rw[<-this,<-Array.foldl_toList];simp
      simp only[Instr.fill,hpl _ _ hpi];rw[if_neg (by simp[hlen];omega)];show Instr.fill place' (c.cells.zipIdx.foldl (fun(cs:Array Value) (p:Value×Nat)=>cs.setIfInBounds (off+p.2) p.1) kz) l'=some j6;rw[Wv];exact f1
     ·cases h
   ·cases h
theorem vi(P:Program):∀(fs:List Field),fs.all (fun f=>(P.info? f.type).isSome)=true->∃places,fs.mapM (fun f=>(P.info? f.type).map fun i=>(f.offset,i.size))=some places/\∀i x,iR P fs i=some x->places[i]?=some x
 | [],_=>⟨[],rfl,fun i x h=>by simp[iR]at h⟩
 |f :: fs,h=>by
  simp only[List.all_cons,Bool.and_eq_true]at h;obtain⟨pl,h1,h2⟩:=vi P fs h.2;obtain⟨i,hi⟩:=Option.isSome_iff_exists.1 h.1;refine⟨(f.offset,i.size) :: pl,by simp[List.mapM_cons,hi,h1],fun k x hk=>?_⟩;cases k with
  |zero=>simp[iR,bY,hi]at hk;simp[hk]
  |succ k=>simp only[List.getElem?_cons_succ];exact h2 k x (by simpa[iR]using hk)
theorem Gr{t:TypeId}{parts:List (Nat×Value)}{cparts:Array (Nat×Value)}{v:Value}(h:uw P t parts=some v)(hp:sZ J parts cparts.toList):∃c,(Instr.build t cparts).run P w=.ok c w/\VG J.g v c:=by
 unfold uw at h;split at h
 ·rename_i z hz
  obtain⟨JK,it,vR,Vr⟩:=fM hz;split at h
  ·rename_i fs hu
   cases ha:fs.toList.all (fun f=>(P.info? f.type).isSome)with
   |false=>rw[ha]at h;simp at h
   |true=>
    rw[ha]at h;simp only[cond_true]at h;split at h
    ·rename_i cs Bs
     simp only[oi]at h;subst h;obtain⟨pl,p1,p2⟩:=vi P fs.toList ha;obtain⟨j6,f1,f2⟩:=kT (place':=(pl.toArray[·]?)) (fun i x hx=>by simpa using p2 i x hx) parts cparts.toList _ _ _ Bs hp (lH JK);refine⟨.agg j6,run_build w t cparts j6 (by simp only[Program.built,vR,hu,Vr,p1];exact f1),?_⟩;have:=f2.agg;simpa using this
    ·cases h
  ·rename_i n e hu
   split at h
   ·rename_i k hk
    split at h
    ·rename_i cs Bs
     simp only[oi]at h;subst h;obtain⟨ie,hie,Ic⟩:=xF hk;obtain⟨j6,f1,f2⟩:=kT (place':=fun i=>some (i*ie.size,ie.size)) (fun i x hx=>by rw[Ic];exact hx) parts cparts.toList _ _ _ Bs hp (lH JK);refine⟨.agg j6,run_build w t cparts j6 (by simp only[Program.built,vR,hu,Vr,hie];exact f1),?_⟩;have:=f2.agg;simpa using this
    ·cases h
   ·cases h
  ·cases h
 ·cases h
theorem gL(z:List Value):∀n,(bF z n).length=n*z.length
 |0=>by simp[bF]
 |n+1=>by simp[bF,gL z n,Nat.add_mul];omega
theorem xL(z:List Value):∀n i,i<n*z.length->(bF z n)[i]?=z[i % z.length]?
 |0,i,h=>by simp at h
 |n+1,i,h=>by
  have hz:0<z.length:=by
   rcases Nat.eq_zero_or_pos z.length with q|q
   ·rw[q]at h;simp at h
   ·exact q
  simp only[bF];by_cases hi:i<z.length
  ·rw[List.getElem?_append_left hi,Nat.mod_eq_of_lt hi]
  ·rw[List.getElem?_append_right om,xL z n (i-z.length) (by rw[Nat.add_mul]at h;omega)]
   congr 1
   exact(Nat.mod_eq_sub_mod om).symm
theorem jJ(z:Array Value)(n:Nat):((Array.range (n*z.size)).map (fun i=>z[i % z.size]!)).toList=bF z.toList n:=by
 apply List.ext_getElem?;intro i;by_cases h:i<n*z.size
 ·have hz:0<z.size:=by
   rcases Nat.eq_zero_or_pos z.size with q|q
   ·rw[q]at h;simp at h
   ·exact q
  have hm:i % z.size<z.size:=Nat.mod_lt _ hz;rw[xL _ _ _ (by simpa using h)];simp[h,hm]
 ·have h1:((Array.range (n*z.size)).map (fun i=>z[i % z.size]!)).toList.length=n*z.size:=by simp
  have h2:=gL z.toList n;simp only[Array.length_toList]at h2;rw[List.getElem?_eq_none om,List.getElem?_eq_none om]
theorem lI{g:Nat->Option Loc}{z:List Value}(h:fG g z z):∀n,fG g (bF z n) (bF z n)
 |0=>.nil _
 |n+1=>h.append (lI h n)
theorem vS{mk:lr}(hM:AL J s w mk){t:TypeId}{len:Nat}{parts:List (Nat×Value)}{cparts:Array (Nat×Value)}{v:Value}{s':St}(h:eE P mk t len parts=some (v,s'))(hp:sZ J parts cparts.toList) :
  ∃c w' J',(Instr.buildSlice t len cparts).run P w=.ok c w'/\Good J s w J' s' w'/\(∀t L,J.l t=some L->J'.l t=some L)/\VG J'.g v c/\s'.env=s.env/\fD (H9 mk) J.g J'.g/\fD (fun _=>False) J.l J'.l:=by
 unfold eE at h;split at h
 ·rename_i e hu
  split at h
  ·rename_i n z hn hz
   obtain⟨JK,it,vR,Vr⟩:=fM hz;cases hb:(Nat.ble (len*n) 16777216 && Nat.beq z.cells.toList.length n && Nat.ble len 16777216)with
   |false=>rw[hb]at h;simp at h
   |true=>
    rw[hb]at h;simp only[cond_true]at h;simp only[Bool.and_eq_true]at hb;have FQ:=Nat.le_of_ble_eq_true hb.1.1;have xM:=Nat.eq_of_beq_eq_true hb.1.2;have hb3:=Nat.le_of_ble_eq_true hb.2;split at h
    ·rename_i cs Bs
     split at h
     ·rename_i a s2 oT
      simp only[oi,pj]at h;obtain⟨rfl,rfl⟩:=h
      let z0:Array Value:=if len*n=0 then #[] else z.cells
      have xN:((Array.range (len*n)).map (fun i=>z0[i % z0.size]!)).toList=bF z.cells.toList len:=by
       by_cases h0:len*n=0
       ·have hl:(bF z.cells.toList len)=[]:=by
         apply List.length_eq_zero_iff.1;rw[gL,xM];exact h0
        rw[hl,h0];simp
       ·have:z0=z.cells:=by simp[z0,h0]
        rw[this];have:=jJ z.cells len;rw[show z.cells.size=n by simpa using xM]at this ⊢;exact this
      obtain⟨j6,f1,f2⟩:=kT (place':=fun i=>some (i*n,n)) (fun i x hx=>hx) parts cparts.toList _ ((Array.range (len*n)).map (fun i=>z0[i % z0.size]!)) _ Bs hp (by rw[xN];exact lI (lH JK) len);obtain⟨J',g1,g2,g3,g4,g6,ga,gb⟩:=hM _ _ _ j6 _ _ e oT (by have:=CR.BB f2;simpa using this);obtain⟨id,g7,g8⟩:=g6 rfl;simp only[Value.pointer.injEq,oi]at g7;subst g7;refine⟨.slice (some ⟨w.heap.size,0,none⟩) len len,w.alloc (.cells j6 e),J',?_,g1,g2,?_,g4,ga.mono (fun _ q=>q.2),gb.mono (fun _ q=>by cases q.1)⟩
      ·simp only[Instr.buildSlice,Sem.run_bind,aI hu,Result.andThen_ok,cg hn]
       rw[Sem.run_ite,if_neg om];by_cases h0:len*n=0
       ·have PV:z0=#[]:=by simp[z0,h0]
        rw[PV]at f1;rw[if_pos h0];simp only[Sem.run_bind,Sem.run_pure,Result.andThen_ok,f1,newRow,run_newObj];rfl
       ·have PV:z0=z.cells:=by simp[z0,h0]
        rw[PV]at f1;rw[if_neg h0];simp only[Sem.run_bind,Sem.run_pure,Result.andThen_ok,gf hz,f1,newRow,run_newObj];rfl
      ·have hlen:len<aS:=by unfold aS;omega
       have q:=VG.gN (g:=J'.g) ⟨id,0,none⟩ _ len len rfl g8 hlen;simpa using q
     ·cases h
    ·cases h
  ·cases h
 ·cases h
end Go.cL
namespace Go.cL
variable{P:Program}{w:World}{J:dH}{s:St}
theorem wrap_small{n:Int}(h0:0<=n)(h1:n<=1073741824):IntKind.i64.wrap n=n:=by
 unfold IntKind.wrap;have e:(2 ^ IntKind.i64.bits:Int)=18446744073709551616:=by decide
 have e2:(2 ^ (IntKind.i64.bits-1):Int)=9223372036854775808:=by decide
 simp only[e,e2];rw[Int.emod_eq_of_lt h0 om];simp only[IntKind.signed,Bool.true_and,decide_eq_true_eq];rw[if_neg om]
theorem xO{mk:lr}(hM:AL J s w mk){t:TypeId}{l c cl cc v:Value}{s':St}(h:fL P mk t l c=some (v,s'))(hl:VR J l cl)(hc:VR J c cc) :
  ∃r w' J',(Instr.makeSlice t cl cc).run P w=.ok r w'/\Good J s w J' s' w'/\(∀t L,J.l t=some L->J'.l t=some L)/\VG J'.g v r/\s'.env=s.env/\fD (H9 mk) J.g J'.g/\fD (fun _=>False) J.l J'.l:=by
 unfold fL at h;split at h
 ·rename_i e k1 l k2 c hu
  obtain rfl:=(hl.aZ (fun a=>by simp)).int;obtain rfl:=(hc.aZ (fun a=>by simp)).int;split at h
  ·rename_i n z by_ hn hz rF
   split at h
   ·rename_i rK
    obtain⟨c1,c2,c3,c4,c5⟩:=rK;split at h
    ·rename_i a s2 oT
     simp only[oi,pj]at h;obtain⟨rfl,rfl⟩:=h;obtain⟨JK,it,vR,Vr⟩:=fM hz;obtain⟨it2,DV,Zg⟩:=pK rF
     rw[vR]at DV;obtain rfl:=Option.some.inj DV
     let z0:Array Value:=if c.toNat*n=0 then #[] else z.cells
     have xN:((Array.range (c.toNat*n)).map (fun i=>z0[i % z0.size]!)).toList=bF z.cells.toList c.toNat:=by
      by_cases h0:c.toNat*n=0
      ·have hl:(bF z.cells.toList c.toNat)=[]:=by
        apply List.length_eq_zero_iff.1;rw[gL,c5];exact h0
       rw[hl,h0];simp
      ·have:z0=z.cells:=by simp[z0,h0]
       rw[this];have:=jJ z.cells c.toNat;rw[show z.cells.size=n by simpa using c5]at this ⊢;exact this
     obtain⟨J',g1,g2,g3,g4,g6,ga,gb⟩:=hM _ _ _ ((Array.range (c.toNat*n)).map (fun i=>z0[i % z0.size]!)) _ _ e oT (by rw[show(Array.range (c.toNat*n)).map (fun i=>z0[i % z0.size]!)=(bF z.cells.toList c.toNat).toArray from Array.ext' (by rw[xN])];exact CR.BB (lI (g:=J.g) (lH JK) c.toNat));obtain⟨id,g7,g8⟩:=g6 rfl;simp only[Value.pointer.injEq,oi]at g7;subst g7;refine⟨.slice (some ⟨w.heap.size,0,none⟩) l.toNat c.toNat,w.alloc (.cells ((Array.range (c.toNat*n)).map (fun i=>z0[i % z0.size]!)) e),J',?_,g1,g2,?_,g4,ga.mono (fun _ q=>q.2),gb.mono (fun _ q=>by cases q.1)⟩
     ·have wl:IntKind.i64.wrap l=l:=wrap_small c1 om
      have wc:IntKind.i64.wrap c=c:=wrap_small om c3;have um:¬((by_:Int)*c>2 ^ 48):=by
       have h1:(by_:Int)*c<=16384*1073741824:=Int.mul_le_mul om c3 om om;have h2:(2:Int) ^ 48=281474976710656:=by decide
       omega
      have Gs:¬((((decide (c<0) || decide ((by_:Int)*c>2 ^ 48)) || decide (l<0)) || decide (l>c))=true):=by
       simp only[Bool.or_eq_true,decide_eq_true_eq,not_or];exact⟨⟨⟨om,um⟩,om⟩,om⟩
      by_cases h0:c.toNat*n=0
      ·have PV:z0=#[]:=by simp[z0,h0]
       simp only[Instr.makeSlice,Sem.run_bind,aI hu,asInt,asIntOf,Sem.run_pure,Result.andThen_ok,ic vR,Zg,wl,wc];rw[Sem.run_ite,if_neg Gs];simp only[Sem.run_pure,Result.andThen_ok,Sem.run_bind,run_askRoom,cg hn];rw[Sem.run_ite,if_pos h0];simp only[Sem.run_pure,Result.andThen_ok,Sem.run_bind,newRow,run_newObj,PV];rfl
      ·have PV:z0=z.cells:=by simp[z0,h0]
       simp only[Instr.makeSlice,Sem.run_bind,aI hu,asInt,asIntOf,Sem.run_pure,Result.andThen_ok,ic vR,Zg,wl,wc];rw[Sem.run_ite,if_neg Gs];simp only[Sem.run_pure,Result.andThen_ok,Sem.run_bind,run_askRoom,cg hn];rw[Sem.run_ite,if_neg h0];simp only[Sem.run_pure,Result.andThen_ok,Sem.run_bind,gf hz,newRow,run_newObj,PV];rfl
     ·have q:=VG.gN (g:=J'.g) ⟨id,0,none⟩ _ l.toNat c.toNat rfl g8 (by unfold aS;omega)
      simpa using q
    ·cases h
   ·cases h
  ·cases h
 ·cases h
theorem HR.drew{d:Nat}(h:HR J s w):HR J s { w with drawn:=d }:=
 { cS:=h.cS,di:=h.di,cH:=h.cH,dj:=h.dj,dX:=h.dX,dP:=h.dP,dZ:=h.dZ,sep:=h.sep }
theorem Good.drew{d:Nat}(h:HR J s w):Good J s w J s { w with drawn:=d } where
 hr:=h.drew
 mono:=fun _ _ h=>h
 next:=Nat.le_refl _
 low:=Nat.le_refl _
 size:=Nat.le_refl _
 os:=rfl
 tape:=rfl
 output:=rfl
 fresh:=(fun id L h1 h2=>by rw[h2]at h1;cases h1)
 cI:=fun t L h1=>.inr ⟨t,L,h1,rfl⟩
 frame:=fun _ _ _ _=>rfl
theorem Good.kill (h : HR J s w) {b : Nat} (_hb : b < s.h.next) : Good J s w J { s with h := s.h.kill b } w where
  hr := { cS := h.cS, di := h.di, dX := h.dX, dP := h.dP, dZ := h.dZ, sep := h.sep
          cH := fun id L b1 h1 h2 => by
            simp only [af.kill, cQ.bO] at h2
            by_cases e : b = id
            · simp only [e, if_true, oi] at h2; subst h2; trivial
            · simp only [e, if_false] at h2; exact h.cH _ _ _ h1 h2
          dj := fun id pD L L' b1 b2 h1 h2 h3 h4 zH DN hb9 => by
            simp only [af.kill, cQ.bO] at h3 h4
            by_cases e : b = id
            · simp only [e, if_true, oi] at h3; subst h3; cases zH
            · by_cases e' : b = pD
              · simp only [e', if_true, oi] at h4; subst h4; cases DN
              · simp only [e, if_false] at h3
                simp only [e', if_false] at h4
                exact h.dj _ _ _ _ _ _ h1 h2 h3 h4 zH DN hb9 }
  mono := fun _ _ h => h
  next := Nat.le_refl _
  low := Nat.min_le_left _ _
  size := Nat.le_refl _
  os := rfl
  tape := rfl
  output := rfl
  fresh := (fun id L h1 h2 => by rw [h2] at h1; cases h1)
  cI := fun t L h1 => .inr ⟨t, L, h1, rfl⟩
  frame := fun _ _ _ _ => rfl
theorem jK(z:Array Value)(n:Nat):(Builtin.zeroCells z n).toList=bF z.toList n:=jJ z n
def Mq(P:Program)(w:World)(iP:Bool)(e size n:Nat)(cx:Value)(us:List Value):Prop:=
 (iP=false/\(Builtin.lenOf cx).run P w=.ok n w/\(Builtin.firstCells size n cx).run P w=.ok us.toArray w) \/
 (iP=true/\∃k m z it,cx=.int k m/\0<=m/\m<=1073741824/\n=m.toNat/\P.info? e=some it/\it.bytes<=16384/\(zeroValue e).run P w=.ok z w/\z.cells.toList.length=size/\us=bF z.cells.toList n)
theorem JL(hR:HR J s w){e:TypeId}{size:Nat}{iP:Bool}{x cx:Value}{n:Nat}{news:List Value}(h:jC P s.h e size iP x=some (n,news))(hx:VR J x cx) :
  ∃us,fG J.g news us/\∀d,Mq P { w with drawn:=d } iP e size n cx us:=by
 unfold jC at h;cases iP with
 |true=>
  simp only[cond_true]at h;split at h
  ·rename_i k m z by_ hz rF
   split at h
   ·rename_i rK
    obtain⟨c1,c2,c3,c4⟩:=rK;simp only[oi,pj]at h;obtain⟨rfl,rfl⟩:=h;obtain rfl:=(hx.aZ (fun a=>by simp)).int;obtain⟨JK,it,vR,Vr⟩:=fM hz;obtain⟨it2,DV,Zg⟩:=pK rF
    rw[vR]at DV;obtain rfl:=Option.some.inj DV;exact⟨bF z.cells.toList m.toNat,lI (lH JK) _,fun d=>.inr ⟨rfl,k,m,z,it,rfl,c1,c2,rfl,vR,om,gf hz,c4,rfl⟩⟩
   ·cases h
  ·cases h
 |false=>
  simp only[cond_false]at h;split at h
  ·rename_i a m c
   split at h
   ·rename_i l hl
    simp only[oi,pj]at h;obtain⟨rfl,rfl⟩:=h;obtain⟨hs,L,c',hL,rfl,_⟩:=(hx.aZ (fun a=>by simp)).pH (iN hl).1;obtain⟨l',h1,h2,h3⟩:=hR.read (a:=a) (L:=L) (by simp[dH.at,hs,hL]) (iN hl).2;have:=fun d=>run_loadCells_list (P:=P) { w with drawn:=d } ⟨L.b,L.o+a.off,none⟩ l' h3
    rw[h2]at this;exact⟨l',h1,fun d=>.inl ⟨rfl,by simp[Builtin.lenOf],by simp[Builtin.firstCells,this d]⟩⟩
   ·cases hb:(a.spot.isSome && Nat.beq m 0)with
    |false=>rw[hb]at h;simp at h
    |true=>
     rw[hb]at h;simp only[cond_true,oi,pj]at h;obtain⟨rfl,rfl⟩:=h;simp only[Bool.and_eq_true]at hb;rcases(hx.aZ (fun a=>by simp)).dO with ⟨hs,_⟩|⟨rfl,_,a',c',rfl,_⟩
     ·rw[hs]at hb;simp at hb
     ·exact⟨[],.nil _,fun d=>.inl ⟨rfl,by simp[Builtin.lenOf],by simp[Builtin.firstCells,loadCells,loadCellsFrom]⟩⟩
  ·rename_i m c
   cases hb:Nat.beq m 0 with
   |false=>rw[hb]at h;simp at h
   |true=>
    rw[hb]at h;simp only[cond_true,oi,pj]at h;obtain⟨rfl,rfl⟩:=h;obtain⟨rfl,rfl,rfl⟩:=(hx.aZ (fun a=>by simp)).ft;exact⟨[],.nil _,fun d=>.inl ⟨rfl,by simp[Builtin.lenOf],by simp[Builtin.firstCells]⟩⟩
  ·rename_i b
   simp only[oi,pj]at h;obtain⟨rfl,rfl⟩:=h;obtain rfl:=(hx.aZ (fun a=>by simp)).string;refine⟨_,fG.flat (by simp only[List.all_map,List.all_eq_true];intro a _;rfl),fun d=>.inl ⟨rfl,by simp[Builtin.lenOf],?_⟩⟩;have e:b.extract 0 b.size=b:=by simp
   simp only[Builtin.firstCells,e,Sem.run_pure]
   congr 1
   apply Array.ext';simp
  ·cases h
theorem Gu{JM c:Nat}(h:c<JM):Builtin.nextslicecap JM c<=2*JM+768:=by
 unfold Builtin.nextslicecap;split
 ·omega
 ·split
  ·omega
  ·have key:∀rounds c,c<=2*JM+768->Builtin.growBy JM rounds c<=2*JM+768:=by
    intro rounds
    induction rounds with
    |zero=>intro c hc;simpa[Builtin.growBy]using hc
    |succ r ih=>
     intro c hc;simp only[Builtin.growBy];split
     ·exact hc
     ·exact ih _ om
   exact key 4 c om
theorem xP{n:Nat}(h:n<=1073741824):n<aS:=by unfold aS;omega
theorem DW{e size n:Nat}{z:Value}(hz:(zeroValue e).run P w=.ok z w)(hl:z.cells.toList.length=size) :
  (if n*size=0 then(pure #[]:Sem (Array Value))else do pure (Builtin.zeroCells (<-zeroValue e).cells n)).run P w=.ok (bF z.cells.toList n).toArray w:=by
 by_cases h0:n*size=0
 ·rw[if_pos h0]
  have:bF z.cells.toList n=[]:=by apply List.length_eq_zero_iff.1;rw[gL,hl];exact h0
  rw[this];rfl
 ·rw[if_neg h0]
  simp only[Sem.run_bind,hz,Result.andThen_ok,Sem.run_pure]
  congr 1
  apply Array.ext';rw[jK]
theorem mo{t xt ty e:TypeId}{x:Value}{base:Option Addr}{len c size:Nat}{xd:TypeDesc}{n:Nat}{us:List Value}
  (hu:P.underlying t=some (.slice e)) (Ie:P.underlying xt=some xd) (hn:bY P e=some size) (hN:Mq P w (cV (some xd)) e size n x us) (gX:len+n<=c) :
  (Builtin.append_ #[t,xt] ty #[.slice base len c,x]).run P w =
   ((match base with|some a=>storeCells (a.add (len*size)) us|none=>pure ():Sem Unit).run P w).andThen fun _ w'=>.ok (.slice base (len+n) c) w':=by
 unfold Builtin.append_;simp only[List.getElem?_toArray,List.getElem?_cons_zero,List.getElem?_cons_succ,Sem.run_bind,aI hu,Result.andThen_ok,cg hn,aI Ie,Sem.run_pure];rcases hN with ⟨hz,h1,h2⟩|⟨hz,k,m,z,it,rfl,c1,c2,rfl,vR,c4,h3,h4,rfl⟩
 ·clear Ie
  cases xd<;>first|(exfalso;simp[cV]at hz;done)|skip
  all_goals
   simp only[Bool.false_eq_true,if_false,Bool.not_false,if_true,Sem.run_bind,h1,Result.andThen_ok,gX,h2];cases base with
   |none=>simp
   |some a=>simp
 ·have wl:IntKind.i64.wrap m=m:=wrap_small c1 c2
  have um:¬(m*(it.bytes:Int)>2 ^ 48):=by
   have h1:m*(it.bytes:Int)<=1073741824*16384:=Int.mul_le_mul c2 om om om;have h2:(2:Int) ^ 48=281474976710656:=by decide
   omega
  obtain⟨k',rfl⟩:∃k,xd=.int k:=by cases xd<;>simp_all [cV]
  simp only[if_true,Sem.run_bind,asInt,asIntOf,Sem.run_pure,Result.andThen_ok,wl];rw[Sem.run_ite,if_neg (show ¬m<0 by omega)];simp only[Sem.run_bind,Sem.run_pure,Result.andThen_ok,ic vR];rw[Sem.run_ite,if_neg um];simp only[Sem.run_bind,Sem.run_pure,Result.andThen_ok];rw[Sem.run_ite,if_pos gX];simp only[Bool.not_true,Bool.false_eq_true,if_false,Sem.run_bind,DW h3 h4,Result.andThen_ok];cases base with
  |none=>simp
  |some a=>simp
theorem mq{t xt ty e:TypeId}{x:Value}{base:Option Addr}{len c size:Nat}{xd:TypeDesc}{n:Nat}{us cJ:List Value}{it:TypeInfo}{z:Value}
  (hu:P.underlying t=some (.slice e)) (Ie:P.underlying xt=some xd) (hn:bY P e=some size) (vR:P.info? e=some it) (rF:it.bytes<=16384) (hz:il P e=some z)
  (hN:Mq P w (cV (some xd)) e size n x us) (Ig:Mq P { w with drawn:=w.drawn+1 } (cV (some xd)) e size n x us)
  (hold:(Builtin.firstCells size len (.slice base len c)).run P { w with drawn:=w.drawn+1 }=.ok cJ.toArray { w with drawn:=w.drawn+1 })
  (gX:c<len+n) (rL:len+n<=1073741824) :
  ∃newCap,len+n<=newCap/\(Builtin.append_ #[t,xt] ty #[.slice base len c,x]).run P w =
   .ok (.slice (some ⟨w.heap.size,0,none⟩) (len+n) newCap) (({ w with drawn:=w.drawn+1 }:World).alloc (.cells (cJ.toArray++us.toArray++Builtin.zeroCells z.cells (newCap-(len+n))) e)):=by
 have Ww:¬len+n<=c:=om
 have aaj:IntKind.i64.max=9223372036854775807:=by decide
 have Mr:¬(((len+n:Nat):Int)>IntKind.i64.max):=by rw[aaj];omega
 have nQ:¬(Builtin.nextslicecap (len+n) c*it.bytes>2 ^ 48):=by
  have h1:=Gu gX;have h2:Builtin.nextslicecap (len+n) c*it.bytes<=(2*1073741824+768)*16384:=Nat.mul_le_mul om rF
  have h3:(2:Nat) ^ 48=281474976710656:=by decide
  omega
 refine⟨(Question.appendCap (len+n) c e).cut (w.tape w.drawn (.appendCap (len+n) c e)),by simp[Question.cut],?_⟩;unfold Builtin.append_;simp only[List.getElem?_toArray,List.getElem?_cons_zero,List.getElem?_cons_succ,Sem.run_bind,aI hu,Result.andThen_ok,cg hn,aI Ie,Sem.run_pure];rcases hN with ⟨hzr,h1,h2⟩|⟨hzr,k,m,z',it',rfl,c1,c2,rfl,Wx,c4,h3,h4,rfl⟩
 ·have hr:(Builtin.firstCells size n x).run P { w with drawn:=w.drawn+1 }=.ok us.toArray { w with drawn:=w.drawn+1 }:=by
   rcases Ig with ⟨_,_,q⟩|⟨q,_⟩
   ·exact q
   ·rw[hzr]at q;cases q
  clear Ie Ig;cases xd<;>first|(exfalso;simp[cV]at hzr;done)|skip
  all_goals
   simp only[Bool.false_eq_true,if_false,Bool.not_false,if_true,Sem.run_bind,h1,Result.andThen_ok,Ww,ic vR,Mr,false_and,false_or,nQ,run_choose,Question.forced,run_askRoom,hold,hr,gf hz,newRow,run_newObj,Sem.run_pure];rfl
 ·have wl:IntKind.i64.wrap m=m:=wrap_small c1 c2
  rw[vR]at Wx;obtain rfl:=Option.some.inj Wx;have um:¬(m*(it.bytes:Int)>2 ^ 48):=by
   have h1:m*(it.bytes:Int)<=1073741824*16384:=Int.mul_le_mul c2 om om om;have h2:(2:Int) ^ 48=281474976710656:=by decide
   omega
  have hz1:(zeroValue e).run P { w with drawn:=w.drawn+1 }=.ok z' { w with drawn:=w.drawn+1 }:=by
   rw[gf hz]at h3;obtain⟨rfl,_⟩:z=z'/\True:=by simpa using h3
   exact gf hz
  obtain⟨k',rfl⟩:∃k,xd=.int k:=by cases xd<;>simp_all [cV]
  simp only[if_true,Sem.run_bind,asInt,asIntOf,Sem.run_pure,Result.andThen_ok,wl];rw[Sem.run_ite,if_neg (show ¬m<0 by omega)];simp only[Sem.run_bind,Sem.run_pure,Result.andThen_ok,ic vR];rw[Sem.run_ite,if_neg um];simp only[Sem.run_bind,Sem.run_pure,Result.andThen_ok];rw[Sem.run_ite,if_neg Ww];simp only[Sem.run_bind,Result.andThen_ok,ic vR];rw[Sem.run_ite,if_neg (fun q=>Mr q.1)];simp only[Sem.run_bind,Result.andThen_ok,ic vR,Sem.run_pure];rw[Sem.run_ite,if_neg nQ];simp only[Bool.not_true,Bool.false_eq_true,if_false,Sem.run_bind,Result.andThen_ok,run_choose,Question.forced,ic vR,run_askRoom,hold,DW hz1 h4,gf hz,newRow,run_newObj,Sem.run_pure];rfl
end Go.cL
namespace Go.cL
variable{P:Program}{w:World}{J:dH}{s:St}
theorem CR.head{g:Nat->Option Loc}{l us:List Value}{rest:Array Value}(h:fG g l us):CR g l (us.toArray++rest) 0:=by
 intro i v hi;have dV:i<us.length:=by rw[<-h.1];exact(List.getElem?_eq_some_iff.1 hi).1
 refine⟨us[i],?_,h.2 i v _ hi (by simp[dV])⟩;rw[Nat.zero_add,Array.getElem?_append_left (by simpa using dV)];simp[dV]
theorem JN{es:Nat}{cs:List Value}(h:cs.all aD=true):s.new false es cs=some (.pointer (some ⟨s.h.next,0,none⟩),{ s with h:=s.h.push es cs }):=by
 unfold St.new;rw[h];rfl
theorem qK(hR:HR J s w){size n len newCap:Nat}{e:TypeId}{cJ news uo un:List Value}{z:Array Value}(hold:fG J.g cJ uo)(gP:fG J.g news un)(fz:(cJ++news).all aD=true)
  (ho:uo.length=len*size) (hu:un.length=n*size) (hz:z.size=size) (nQ:len+n<=newCap) (uf:len+n<=1073741824) :
  ∃J',Good J s w J' { s with h:=s.h.push size (cJ++news) } (w.alloc (.cells (uo.toArray++un.toArray++Builtin.zeroCells z (newCap-(len+n))) e))/\(∀t L,J.l t=some L->J'.l t=some L) /\
   VG J'.g (.slice (some ⟨s.h.next,0,none⟩) (len+n) (au size (len+n))) (.slice (some ⟨w.heap.size,0,none⟩) (len+n) newCap)/\fD (s.h.next<=·) J.g J'.g/\(∀t L,J'.l t=some L->J.l t=some L):=by
 have BC:CR J.g (cJ++news) (uo.toArray++un.toArray++Builtin.zeroCells z (newCap-(len+n))) 0:=by
  have:=CR.head (rest:=Builtin.zeroCells z (newCap-(len+n))) (hold.append gP);simpa using this
 obtain⟨J',g1,g2,g3,g4,g6,ga,gb⟩:=hR.new (JN fz) BC e;obtain⟨_,g8⟩:=g6 rfl;refine⟨J',g1,g2,?_,fun k L hk=>(ga k L hk).imp (fun q=>q) (fun q=>om),fun t L ht=>(gb t L ht).elim (fun q=>q) (fun q=>by cases q.1)⟩;have v5:(uo.toArray++un.toArray++Builtin.zeroCells z (newCap-(len+n))).size=newCap*size:=by
  have h1:=gL z.toList (newCap-(len+n));rw[<-jK]at h1;simp only[Array.length_toList,hz]at h1;simp only[Array.size_append,List.size_toArray,ho,hu,h1];rw[<-Nat.add_mul,<-Nat.add_mul]
  congr 1
  omega
 rw[v5]at g8;have q:=VG.gW (g:=J'.g) ⟨s.h.next,0,none⟩ ⟨w.heap.size,0,newCap*size,size⟩ (len+n) (len+n) newCap rfl g8 nQ (xP uf) (by simp);simpa using q
theorem Ms(hR:HR J s w){size n len c' es:Nat}{a:Addr}{L:Loc}{Lj cJ news un:List Value}(hL:J.g a.block=some L)(xQ:s.h.m.get a.block=some (.live true es Lj))(FU:es=size)
  (hold:jX Lj a.off (len*size)=some cJ) (gP:fG J.g news un) (fz:news.all aD=true) (hu:un.length=n*size) (nQ:len+n<=c') (JO:L.o+a.off+c'*L.es<=L.AJ) (uf:len+n<=1073741824) :
  ∃cs e,w.heap[L.b]?=some (.cells cs e (0,0))/\L.o+a.off+len*size+un.length<=cs.size/\(∀v∈un,v.oneCell'=true) /\
  ∃J',Good J s w J' { s with h:=(s.h.kill a.block).push size (cJ++news) } (w.setRow L.b (iM cs (L.o+a.off+len*size) un))/\(∀t L,J.l t=some L->J'.l t=some L) /\
   VG J'.g (.slice (some ⟨s.h.next,0,none⟩) (len+n) (au size (len+n))) (.slice (some ⟨L.b,L.o+a.off,none⟩) (len+n) c')/\fD (s.h.next<=·) J.g J'.g/\(∀t L,J'.l t=some L->J.l t=some L):=by
 subst FU;obtain⟨FU,cs,e,fr,hw,BC,ve⟩:=hR.cH _ _ _ hL xQ;obtain rfl:=ve rfl;obtain⟨o2,pv,Ih⟩:=hR.di _ _ hL;rw[hw]at pv;obtain rfl:=Option.some.inj pv;have Ih:=Ih _ _ _ rfl;rw[FU]at JO;have gX:L.o+a.off+len*es+un.length<=cs.size:=by
  rw[hu,Ih];have:len*es+n*es<=c'*es:=by rw[<-Nat.add_mul];exact Nat.mul_le_mul_right _ nQ
  omega
 have oS:∀v∈un,v.oneCell'=true:=by
  intro v hvm;obtain⟨i,hi⟩:=List.mem_iff_getElem?.1 hvm;have dV:i<news.length:=by rw[gP.1];exact(List.getElem?_eq_some_iff.1 hi).1
  simp only[List.all_eq_true]at fz;exact(gP.2 i news[i] v (by simp[dV]) hi).H8 (fz _ (List.getElem_mem dV))
 refine⟨cs,e,hw,gX,oS,?_⟩
 let L':Loc:=⟨L.b,L.o+a.off,L.AJ,es⟩
 let g':Nat->Option Loc:=fun id=>if id=s.h.next then some L' else J.g id
 have hblt:a.block<s.h.next:=hR.cS _ _ hL;have vQ:∀id L1,J.g id=some L1->g' id=some L1:=fun id L1 h1=>by
  have:=hR.cS _ _ h1;simp only[g',show ¬id=s.h.next by omega,if_false,h1]
 have b8:∀id L1,g' id=some L1->(id=s.h.next/\L1=L')\/(id≠s.h.next/\J.g id=some L1):=fun id L1 h1=>by
  by_cases me:id=s.h.next
  ·left;simp only[g',me,if_true,oi]at h1;exact⟨me,h1.symm⟩
  ·right;simp only[g',me,if_false]at h1;exact⟨me,h1⟩
 let vf:=iM cs (L.o+a.off+len*es) un
 have aak:vf.size=cs.size:=pJ gX;have BD:(w.setRow L.b vf).heap[L.b]?=some (.cells vf e (0,0)):=setRow_heap w L.b cs vf e _ hw;have Mc:CR g' (cJ++news) vf (L.o+a.off):=by
  obtain⟨r1,r2⟩:=nO hold;intro i v hi;by_cases h1:i<cJ.length
  ·rw[List.getElem?_append_left h1,r2 i om]at hi
   obtain⟨c,hc,hg⟩:=BC _ _ hi;refine⟨c,?_,hg.mono vQ⟩;rw[lG gX,if_neg om,<-hc]
   congr 1;omega
  ·rw[List.getElem?_append_right om]at hi
   have dV:i-cJ.length<un.length:=by rw[<-gP.1];exact(List.getElem?_eq_some_iff.1 hi).1
   refine⟨un[i-cJ.length],?_,(gP.2 _ _ _ hi (by simp[dV])).mono vQ⟩;rw[lG gX,if_pos ⟨om,om⟩];rw[show L.o+a.off+i-(L.o+a.off+len*es)=i-cJ.length by omega];simp[dV]
 have JP:∀id b1,((s.h.kill a.block).push es (cJ++news)).m.get id=some b1->b1.alive=true->(id=s.h.next/\b1=.live true es (cJ++news))\/(id≠s.h.next/\id≠a.block/\s.h.m.get id=some b1):=by
  intro id b1 h Md;simp only[af.push,af.kill,cQ.bO]at h;by_cases h1:s.h.next=id
  ·left;simp only[h1,if_true,oi]at h;exact⟨h1.symm,h.symm⟩
  ·right
   simp only[h1,if_false]at h;by_cases h2:a.block=id
   ·simp only[h2,if_true,oi]at h;subst h;cases Md
   ·simp only[h2,if_false]at h;exact⟨Ne.symm h1,Ne.symm h2,h⟩
 refine⟨⟨g',J.l⟩,?_,fun t L h=>h,?_,fun k L1 hk=>(b8 k L1 hk).elim (fun q=>.inr om) (fun q=>.inl q.2),fun t L h=>h⟩
 ·refine { hr:=?_,mono:=vQ,next:=by simp[af.push,af.kill],low:=Nat.min_le_left _ _,size:=by simp,os:=rfl,tape:=rfl,output:=rfl,fresh:=?_,cI:=fun t L h1=>.inr ⟨t,L,h1,rfl⟩,frame:=?_ }
  ·refine { cS:=?_,di:=?_,cH:=?_,dj:=?_,dX:=hR.dX,dP:=?_,dZ:=hR.dZ,sep:=?_ }
   ·intro id L1 h1
    rcases b8 id L1 h1 with ⟨rfl,_⟩|⟨_,h1⟩
    ·simp[af.push,af.kill]
    ·have:=hR.cS _ _ h1;simp[af.push,af.kill];omega
   ·intro id L1 h1
    rcases b8 id L1 h1 with ⟨rfl,rfl⟩|⟨_,h1⟩
    ·exact⟨.cells vf e (0,0),BD,fun c9 e9 f9 q=>by cases q;rw[aak,Ih]⟩
    ·by_cases hb:L1.b=L.b
     ·obtain⟨o2,hx,hy⟩:=hR.di _ _ h1
      rw[hb,hw]at hx;obtain rfl:=Option.some.inj hx;have:=hy _ _ _ rfl;exact⟨.cells vf e (0,0),by rw[hb];exact BD,fun c9 e9 f9 q=>by cases q;omega⟩
     ·rw[setRow_other w _ _ _ hb];exact hR.di _ _ h1
   ·intro id L1 b1 h1 h2
    cases Md:b1.alive with
    |false=>cases b1<;>first|trivial|(simp[DE.alive]at Md)
    |true=>
    rcases JP _ _ h2 Md with ⟨rfl,rfl⟩|⟨dS,Tw,h2⟩
    ·rcases b8 _ L1 h1 with ⟨_,rfl⟩|⟨dS,_⟩
     ·exact⟨rfl,vf,e,(0,0),BD,Mc,fun _=>rfl⟩
     ·exact absurd rfl dS
    ·rcases b8 id L1 h1 with ⟨rfl,_⟩|⟨_,h1⟩
     ·exact absurd rfl dS
     ·have hb:L1.b≠L.b:=fun hb=>Tw (hR.dj _ _ _ _ _ _ h1 hL h2 xQ Md rfl hb)
      rw[setRow_other w _ _ _ hb];exact(hR.cH _ _ _ h1 h2).mono vQ
   ·intro id pD L1 L2 b1 b2 h1 h2 h3 h4 zH DN hb
    rcases JP _ _ h3 zH with ⟨rfl,_⟩|⟨dS,Tw,h3⟩<;>rcases JP _ _ h4 DN with ⟨rfl,_⟩|⟨Gk,Wy,h4⟩
    ·rfl
    ·rcases b8 _ L1 h1 with ⟨_,rfl⟩|⟨hx,_⟩
     ·rcases b8 _ L2 h2 with ⟨hx,_⟩|⟨_,h2⟩
      ·exact absurd hx Gk
      ·exact absurd (hR.dj _ _ _ _ _ _ h2 hL h4 xQ DN rfl hb.symm) Wy
     ·exact absurd rfl hx
    ·rcases b8 _ L2 h2 with ⟨_,rfl⟩|⟨hx,_⟩
     ·rcases b8 _ L1 h1 with ⟨hx,_⟩|⟨_,h1⟩
      ·exact absurd hx dS
      ·exact absurd (hR.dj _ _ _ _ _ _ h1 hL h3 xQ zH rfl hb) Tw
     ·exact absurd rfl hx
    ·rcases b8 _ L1 h1 with ⟨hx,_⟩|⟨_,h1⟩
     ·exact absurd hx dS
     ·rcases b8 _ L2 h2 with ⟨hx,_⟩|⟨_,h2⟩
      ·exact absurd hx Gk
      ·exact hR.dj _ _ _ _ _ _ h1 h2 h3 h4 zH DN hb
   ·intro t L1 h1
    obtain⟨c9,e9,a1,a2⟩:=hR.dP _ _ h1;have hb:L1.b≠L.b:=fun hb=>hR.sep _ _ _ _ hL h1 hb.symm
    exact⟨c9,e9,by rw[setRow_other w _ _ _ hb];exact a1,fun c hc=>(a2 c hc).mono vQ⟩
   ·intro id t L1 L2 h1 h2 hb
    rcases b8 id L1 h1 with ⟨rfl,rfl⟩|⟨_,h1⟩
    ·exact hR.sep _ _ _ _ hL h2 hb
    ·exact hR.sep _ _ _ _ h1 h2 hb
  ·intro id L1 h1 h2
   rcases b8 id L1 h1 with ⟨rfl,rfl⟩|⟨_,h1⟩
   ·exact .inr ⟨a.block,L,hL,rfl,Nat.min_le_right _ _⟩
   ·rw[h2]at h1;cases h1
  ·intro b hb hg hl
   have:b≠L.b:=fun e=>by
    have h1:=hg a.block L hL e.symm;have h2:Nat.min s.h.low a.block<=a.block:=Nat.min_le_right _ _;simp only[af.push,af.kill]at h1;omega
   exact setRow_other w _ _ _ this
 ·have q:=VG.gW (g:=g') ⟨s.h.next,0,none⟩ L' (len+n) (len+n) c' rfl (by simp[g']) nQ (xP uf) (by simpa[L',FU]using JO)
  simpa[L']using q
def dD(P:Program)(J:dH)(s:St)(w:World)(x:Sem Value)(v:Value)(s':St)(R Rl:Nat->Prop):Prop:=
 ∃c w' J',x.run P w=.ok c w'/\Good J s w J' s' w'/\(∀t L,J.l t=some L->J'.l t=some L)/\VR J' v c/\s'.env=s.env/\fD R J.g J'.g/\fD Rl J.l J'.l
theorem dD.still{x:Sem Value}{v c:Value}{R Rl:Nat->Prop}(hR:HR J s w)(h:x.run P w=.ok c w)(hv:VR J v c):dD P J s w x v s R Rl:=⟨c,w,J,h,.refl hR,fun _ _ h=>h,hv,rfl,.refl _ _,.refl _ _⟩
theorem bj{r:Option (Value×af)}{v:Value}{s':St}(h:bT s r=some (v,s')):∃h',r=some (v,h')/\s' = { s with h:=h' }:=by
 unfold bT at h;split at h
 ·simp only[oi,pj]at h
  obtain⟨rfl,rfl⟩:=h;exact⟨_,rfl,rfl⟩
 ·cases h
theorem DX(hR:HR J s w){ts:List TypeId}{args aP:List Value}{ty:TypeId}{v:Value}{s':St}(h0:bT s (cO P s.h ts args)=some (v,s'))(ha:args.length=aP.length/\∀(i:Nat) (a b:Value),args[i]?=some a->aP[i]?=some b->VR J a b) :
  dD P J s w (Builtin.append_ ts.toArray ty aP.toArray) v s' (s.h.next<=·) (fun _=>False):=by
 obtain⟨sI,h,rfl⟩:=bj h0;clear h0;unfold cO at h;split at h
 ·rename_i t xt base len c x
  obtain⟨c0,c1,rfl⟩:∃c0 c1,aP=[c0,c1]:=by
   have:=ha.1
   match aP,this with
   | [c0,c1],_=>exact⟨c0,c1,rfl⟩
  have hs:=ha.2 0 _ _ rfl rfl;have hx:=ha.2 1 _ _ rfl rfl;have Ii:=hs.aZ (fun a=>by simp);split at h
  ·rename_i e hu
   split at h
   ·rename_i size by_ xd z hn rF Ie hz
    split at h
    ·rename_i n news gP
     obtain⟨us,R8,Vs⟩:=JL (P:=P) hR gP hx;have hN:Mq P w (cV (some xd)) e size n c1 us:=Vs w.drawn;have Ig:=Vs (w.drawn+1);obtain⟨JK,it,vR,Vr⟩:=fM hz;obtain⟨it2,DV,Zg⟩:=pK rF
     rw[vR]at DV;obtain rfl:=Option.some.inj DV;cases xR:Nat.ble (len+n) (cM c)with
     |true=>
      rw[xR]at h;simp only[cond_true]at h;have gX:=Nat.le_of_ble_eq_true xR;cases base with
      |none=>
       dsimp only at h;simp only[oi,pj]at h;obtain⟨rfl,rfl⟩:=h;obtain⟨rfl,rfl,rfl⟩:=Ii.ft;rw[fe fZ]at gX;have xq:n=0:=om
       subst xq;refine dD.still hR (c:=.slice none 0 0) ?_ (.cX _ _ (.flat _ rfl));have:=mo (P:=P) (ty:=ty) (base:=none) (len:=0) (c:=0) hu Ie hn hN om;simpa using this
      |some a=>
       dsimp only at h;split at h
       ·rename_i s2 hw
        simp only[oi,pj]at h;obtain⟨rfl,rfl⟩:=h;obtain⟨jI,L,c',hL,rfl,q⟩:=Ii.pH (by have:=(iT hw).1;simpa[fV]using this);have Pr:cM c<=c':=by
         obtain⟨_,_,e9,q9⟩:=Ii.iE;simp only[Value.slice.injEq,true_and]at e9;rw[e9.2];exact q9
        obtain⟨w',e1,e2,e3,_⟩:=hR.write (P:=P) (a:=fV a (len*size)) (L:=L) (by simp[dH.at,fV,jI,hL]) (iT hw).2 R8;refine⟨.slice (some ⟨L.b,L.o+a.off,none⟩) (len+n) c',w',J,?_,e2,fun _ _ h=>h,?_,e3,.refl _ _,.refl _ _⟩
        ·have:=mo (P:=P) (ty:=ty) (base:=some ⟨L.b,L.o+a.off,none⟩) (len:=len) (c:=c') hu Ie hn hN om
         rw[show([t,xt]:List TypeId).toArray=#[t,xt]from rfl,show([Value.slice (some ⟨L.b,L.o+a.off,none⟩) len c',c1]:List Value).toArray=#[.slice (some ⟨L.b,L.o+a.off,none⟩) len c',c1]from rfl,this];simp only[jq];have PW:(storeCells ⟨L.b,L.o+a.off+len*size,none⟩ us).run P w=.ok () w':=by simpa[fV,Nat.add_assoc]using e1
         rw[PW];rfl
        ·rcases q with ⟨q,rfl⟩|⟨m,rfl,q1,q2,q3⟩
         ·exact .cX _ _ (.gN a L _ _ jI hL q)
         ·exact .cX _ _ (.gW a L _ _ _ jI hL q2 q1 q3)
       ·cases hb:(a.spot.isSome && Nat.beq n 0 && news.isEmpty)with
        |false=>rw[hb]at h;simp at h
        |true=>
         rw[hb]at h;simp only[cond_true,oi,pj]at h;obtain⟨rfl,rfl⟩:=h;simp only[Bool.and_eq_true,List.isEmpty_iff]at hb;obtain⟨⟨hb,xM⟩,rfl⟩:=hb;have xq:=Nat.eq_of_beq_eq_true xM;subst xq;have aal:=Ii;rcases Ii.dO with ⟨hs,_⟩|⟨rfl,⟨xs,hsx⟩,a',c',rfl,_⟩
         ·rw[hs]at hb;simp at hb
         ·refine dD.still hR (c:=.slice (some a') 0 c') ?_ (.cX _ _ aal)
          obtain rfl:=R8.iS;have:=mo (P:=P) (ty:=ty) (base:=some a') (len:=0) (c:=c') hu Ie hn hN om;simpa[storeCells]using this
     |false=>
      rw[xR]at h;simp only[cond_false]at h;have gX:cM c<len+n:=by
       rcases Nat.lt_or_ge (cM c) (len+n)with q|q
       ·exact q
       ·rw[bz q]at xR;cases xR
      cases rK:(Nat.ble (len+n) 1073741824 && Nat.ble by_ 16384 && news.all aD && Nat.beq z.cells.toList.length size && Nat.beq news.length (n*size))with
      |false=>rw[rK]at h;simp at h
      |true=>
       rw[rK]at h;simp only[cond_true]at h;simp only[Bool.and_eq_true]at rK;obtain⟨⟨⟨⟨d1,d2⟩,d3⟩,d4⟩,d5⟩:=rK;have rL:=Nat.le_of_ble_eq_true d1;have nG:=Nat.le_of_ble_eq_true d2;have Zh:=Nat.eq_of_beq_eq_true d4;have sM:=Nat.eq_of_beq_eq_true d5;have Wz:us.length=n*size:=by rw[<-R8.1,sM]
       cases base with
       |none=>
        obtain⟨rfl,rfl,rfl⟩:=Ii.ft;simp only[Nat.beq_refl,cond_true,oi,pj]at h;obtain⟨rfl,rfl⟩:=h;rw[fe fZ]at gX;obtain⟨newCap,nQ,mV⟩:=mq (P:=P) (ty:=ty) (base:=none) (len:=0) (c:=0) (cJ:=[]) hu Ie hn vR om hz hN Ig (by simp[Builtin.firstCells]) gX rL;obtain⟨J',f1,f2,f3,fa,fb⟩:=qK (hR.drew (d:=w.drawn+1)) (size:=size) (n:=n) (len:=0) (newCap:=newCap) (e:=e) (cJ:=[]) (uo:=[]) (z:=z.cells) (.nil _) R8 (by simpa using d3) (by simp) Wz (by simpa using Zh) nQ rL;exact⟨_,_,J',mV,(Good.drew hR).trans f1,f2,.cX _ _ f3,rfl,fa,fun t L h=>.inl (fb t L h)⟩
       |some a=>
        dsimp only at h;split at h
        ·rename_i cJ PX WA
         obtain⟨jI,L,c',hL,rfl,q⟩:=Ii.pH PX;have hold:=(iN WA).2;have hLa:J.at a=some L:=by simp[dH.at,jI,hL]
         obtain⟨uo,o1,o2,o3⟩:=hR.read hLa hold;have Ij:∀c9,(Builtin.firstCells size len (.slice (some ⟨L.b,L.o+a.off,none⟩) len c9)).run P { w with drawn:=w.drawn+1 }=.ok uo.toArray { w with drawn:=w.drawn+1 }:=fun c9=>by
          have:=run_loadCells_list (P:=P) { w with drawn:=w.drawn+1 } ⟨L.b,L.o+a.off,none⟩ uo o3;rw[o2]at this;simp only[Builtin.firstCells];exact this
         have WB:∃Lj WD Tx,s.h.m.get a.block=some (.live WD Tx Lj)/\jX Lj a.off (len*size)=some cJ:=by
          simp only[St.read,St.cells?,jI]at hold;split at hold
          ·rename_i Lj aam
           obtain⟨WD,Tx,PR⟩:=live_of_cells? aam;exact⟨Lj,WD,Tx,PR,hold⟩
          ·cases hold
         obtain⟨Lj,WD,Tx,PR,Mt⟩:=WB;cases hex:Nat.blt c aS with
         |true=>
          rw[hex]at h;simp only[cond_true]at h;cases Ty:cJ.all aD with
          |false=>rw[Ty]at h;simp at h
          |true=>
          rw[Ty]at h;simp only[cond_true,oi,pj]at h;obtain⟨rfl,rfl⟩:=h;have Bs:c<aS:=Nat.le_of_ble_eq_true hex;have FV:c'=c:=by
           rcases q with ⟨_,rfl⟩|⟨m,rfl,_⟩
           ·rfl
           ·have:=dr L.es m;omega
          subst FV;rw[fe Bs]at gX;obtain⟨newCap,nQ,mV⟩:=mq (P:=P) (ty:=ty) (base:=some ⟨L.b,L.o+a.off,none⟩) (len:=len) (c:=c') (cJ:=uo) hu Ie hn vR om hz hN Ig (Ij c') gX rL;obtain⟨J',f1,f2,f3,fa,fb⟩:=qK (hR.drew (d:=w.drawn+1)) (size:=size) (n:=n) (len:=len) (newCap:=newCap) (e:=e) (z:=z.cells) o1 R8 (by rw[List.all_append,Ty,d3];rfl) o2 Wz (by simpa using Zh) nQ rL;exact⟨_,_,J',mV,(Good.drew hR).trans f1,f2,.cX _ _ f3,rfl,fa,fun t L h=>.inl (fb t L h)⟩
         |false=>
          rw[hex]at h;simp only[cond_false]at h;have Bs:aS<=c:=by
           rcases Nat.lt_or_ge c aS with q|q
           ·rw[dU q]at hex;cases hex
           ·exact q
          cases Ty:cJ.all aD with
          |false=>rw[Ty]at h;simp at h
          |true=>
          rw[Ty]at h;simp only[cond_true]at h;split at h
          ·rename_i es Tq xQ
           cases FU:Nat.beq es size with
           |false=>rw[FU]at h;simp at h
           |true=>
            rw[FU]at h;simp only[cond_true,oi,pj]at h;obtain⟨rfl,rfl⟩:=h;rw[PR]at xQ;obtain⟨rfl,rfl,rfl⟩:WD=true/\Tx=es/\Lj=Tq:=by simpa using xQ
            rcases q with ⟨q,_⟩|⟨m,rfl,q1,q2,q3⟩
            ·omega
            ·rw[ct q1]at gX
             by_cases DY:len+n<=c'
             ·obtain⟨cs,e9,k1,k2,k3,J',k4,k5,k6,ka,kb⟩:=Ms hR hL PR (Nat.eq_of_beq_eq_true FU) Mt R8 d3 Wz DY q3 rL
              refine⟨_,_,J',?_,k4,k5,.cX _ _ k6,rfl,ka,fun t L h=>.inl (kb t L h)⟩;have:=mo (P:=P) (ty:=ty) (base:=some ⟨L.b,L.o+a.off,none⟩) (len:=len) (c:=c') hu Ie hn hN DY;rw[show([t,xt]:List TypeId).toArray=#[t,xt]from rfl,show([Value.slice (some ⟨L.b,L.o+a.off,none⟩) len c',c1]:List Value).toArray=#[.slice (some ⟨L.b,L.o+a.off,none⟩) len c',c1]from rfl,this];simp only[jq];have PW:=run_storeCells_at (P:=P) L.b (L.o+a.off+len*size) e9 us 0 cs w k1 (by simpa using k2) k3;simp only[Nat.add_zero]at PW;rw[PW];rfl
             ·obtain⟨newCap,nQ,mV⟩:=mq (P:=P) (ty:=ty) (base:=some ⟨L.b,L.o+a.off,none⟩) (len:=len) (c:=c') (cJ:=uo) hu Ie hn vR om hz hN Ig (Ij c') om rL
              have hk:=Good.kill hR (hR.cS _ _ hL);obtain⟨J',f1,f2,f3,fa,fb⟩:=qK (hk.hr.drew (d:=w.drawn+1)) (size:=size) (n:=n) (len:=len) (newCap:=newCap) (e:=e) (z:=z.cells) o1 R8 (by rw[List.all_append,Ty,d3];rfl) o2 Wz (by simpa using Zh) nQ rL;exact⟨_,_,J',mV,(hk.trans (Good.drew hk.hr)).trans f1,f2,.cX _ _ f3,rfl,fa,fun t L h=>.inl (fb t L h)⟩
          ·cases h
        ·rename_i xs PX
         cases vj:Nat.beq c 0 with
         |false=>rw[vj]at h;simp at h
         |true=>
         rw[vj]at h;simp only[cond_true,oi,pj]at h;obtain⟨rfl,rfl⟩:=h;have vj:=Nat.eq_of_beq_eq_true vj;rcases Ii.dO with ⟨hs,_⟩|⟨rfl,_,a',c',rfl,hk⟩
         ·rw[hs]at PX;cases PX
         ·obtain⟨rfl,rfl⟩:c=0/\c'=0:=by
           rcases hk with q|q
           ·exact q
           ·have:=fZ;omega
          rw[fe fZ]at gX;obtain⟨newCap,nQ,mV⟩:=mq (P:=P) (ty:=ty) (base:=some a') (len:=0) (c:=0) (cJ:=[]) hu Ie hn vR om hz hN Ig (by simp[Builtin.firstCells,loadCells,loadCellsFrom]) gX rL;obtain⟨J',f1,f2,f3,fa,fb⟩:=qK (hR.drew (d:=w.drawn+1)) (size:=size) (n:=n) (len:=0) (newCap:=newCap) (e:=e) (cJ:=[]) (uo:=[]) (z:=z.cells) (.nil _) R8 (by simpa using d3) (by simp) Wz (by simpa using Zh) nQ rL;exact⟨_,_,J',mV,(Good.drew hR).trans f1,f2,.cX _ _ f3,rfl,fa,fun t L h=>.inl (fb t L h)⟩
        ·cases h
    ·cases h
   ·cases h
  ·cases h
 ·cases h
theorem JQ(hR:HR J s w){ts:List TypeId}{args aP:List Value}{ty:TypeId}{v:Value}{s':St}(h0:bT s (sO P s.h ts args)=some (v,s'))(ha:args.length=aP.length/\∀(i:Nat) (a b:Value),args[i]?=some a->aP[i]?=some b->VR J a b) :
  dD P J s w (Builtin.copy_ ts.toArray ty aP.toArray) v s' (s.h.next<=·) (fun _=>False):=by
 obtain⟨sI,h,rfl⟩:=bj h0;clear h0;unfold sO at h;split at h
 ·rename_i t xt base len c x
  obtain⟨c0,c1,rfl⟩:∃c0 c1,aP=[c0,c1]:=by
   have:=ha.1
   match aP,this with
   | [c0,c1],_=>exact⟨c0,c1,rfl⟩
  have hs:=ha.2 0 _ _ rfl rfl;have hx:=ha.2 1 _ _ rfl rfl;have Ii:=hs.aZ (fun a=>by simp);split at h
  ·rename_i e hu
   split at h
   ·rename_i size hn
    split at h
    ·rename_i b n cb
     split at h
     ·rename_i l hl
      obtain⟨WE,Lb,cb',hLb,rfl,_⟩:=(hx.aZ (fun a=>by simp)).pH (iN hl).1;obtain⟨l',r1,r2,r3⟩:=hR.read (a:=b) (L:=Lb) (by simp[dH.at,WE,hLb]) (iN hl).2;have Mt:=run_loadCells_list (P:=P) w ⟨Lb.b,Lb.o+b.off,none⟩ l' r3;rw[r2]at Mt;cases base with
      |none=>
       dsimp only at h;simp only[oi,pj]at h;obtain⟨rfl,rfl⟩:=h;obtain⟨rfl,rfl,rfl⟩:=Ii.ft;refine dD.still hR (c:=.int .i64 (Nat.min n 0:Nat)) ?_ (.cX _ _ (.flat _ rfl));have aan:(loadCells ⟨Lb.b,Lb.o+b.off,none⟩ (n.min 0*size)).run P w=.ok l'.toArray w:=Mt;simp only[Builtin.copy_,List.getElem?_toArray,List.getElem?_cons_zero,List.getElem?_cons_succ,Sem.run_bind,aI hu,Result.andThen_ok,Builtin.lenOf,Sem.run_pure,cg hn,Builtin.firstCells,aan,goInt]
      |some a=>
       dsimp only at h;split at h
       ·rename_i s2 hw
        simp only[oi,pj]at h;obtain⟨rfl,rfl⟩:=h;obtain⟨jI,L,c',hL,rfl,_⟩:=Ii.pH (iT hw).1;obtain⟨w',e1,e2,e3,_⟩:=hR.write (P:=P) (a:=a) (L:=L) (by simp[dH.at,jI,hL]) (iT hw).2 r1;refine⟨.int .i64 (Nat.min n len:Nat),w',J,?_,e2,fun _ _ h=>h,.cX _ _ (.flat _ rfl),e3,.refl _ _,.refl _ _⟩;simp only[Builtin.copy_,List.getElem?_toArray,List.getElem?_cons_zero,List.getElem?_cons_succ,Sem.run_bind,aI hu,Result.andThen_ok,Builtin.lenOf,Sem.run_pure,cg hn,Builtin.firstCells,Mt,goInt,e1]
       ·cases hb:a.spot.isSome with
        |false=>rw[hb]at h;simp at h
        |true=>
         rw[hb]at h;simp only[cond_true,oi,pj]at h;obtain⟨rfl,rfl⟩:=h;rcases Ii.dO with ⟨hs,_⟩|⟨rfl,_,a',c',rfl,_⟩
         ·rw[hs]at hb;simp at hb
         ·refine dD.still hR (c:=.int .i64 0) ?_ (.cX _ _ (.flat _ rfl))
          have h0:n.min 0=0:=Nat.min_zero _;simp[Builtin.copy_,aI hu,Builtin.lenOf,cg hn,Builtin.firstCells,goInt,h0,loadCells,loadCellsFrom,storeCells]
     ·cases hb:(b.spot.isSome && Nat.beq n 0)with
      |false=>rw[hb]at h;simp at h
      |true=>
       rw[hb]at h;simp only[cond_true,oi,pj]at h;obtain⟨rfl,rfl⟩:=h;simp only[Bool.and_eq_true]at hb;rcases(hx.aZ (fun a=>by simp)).dO with ⟨hs,_⟩|⟨rfl,_,a',c',rfl,_⟩
       ·rw[hs]at hb;simp at hb
       ·obtain⟨a2,c2,rfl,_⟩:=Ii.iE
        refine dD.still hR (c:=.int .i64 0) ?_ (.cX _ _ (.flat _ rfl));have h0:Nat.min 0 len=0:=Nat.zero_min _;cases a2 with
        |none=>simp[Builtin.copy_,aI hu,Builtin.lenOf,cg hn,Builtin.firstCells,goInt,h0,loadCells,loadCellsFrom,storeCells]
        |some a=>simp[Builtin.copy_,aI hu,Builtin.lenOf,cg hn,Builtin.firstCells,goInt,h0,loadCells,loadCellsFrom,storeCells]
    ·rename_i n cb
     cases hb:Nat.beq n 0 with
     |false=>rw[hb]at h;simp at h
     |true=>
      rw[hb]at h;simp only[cond_true,oi,pj]at h;obtain⟨rfl,rfl⟩:=h;obtain⟨rfl,rfl,rfl⟩:=(hx.aZ (fun a=>by simp)).ft;obtain⟨a',c',rfl,_⟩:=Ii.iE;refine dD.still hR (c:=.int .i64 0) ?_ (.cX _ _ (.flat _ rfl));simp only[Builtin.copy_,List.getElem?_toArray,List.getElem?_cons_zero,List.getElem?_cons_succ,Sem.run_bind,aI hu,Result.andThen_ok,Builtin.lenOf,Sem.run_pure,cg hn,Builtin.firstCells,goInt];have h0:Nat.min 0 len=0:=Nat.zero_min _;cases a' with
      |none=>simp[h0]
      |some a=>simp[h0,storeCells]
    ·cases h
   ·cases h
  ·cases h
 ·cases h
theorem HR.gT(h:HR J s w){b:DE}{o:Obj}(ho:∀cs e fr,o≠.cells cs e fr)
  (hb:∀g',(∀id L,J.g id=some L->g' id=some L)->BR g' b ⟨w.heap.size,0,0,0⟩ (some o)) :
  ∃J',Good J s w J' { s with h:=s.h.gT b } (w.alloc o)/\J'.l=J.l/\J'.g s.h.next=some ⟨w.heap.size,0,0,0⟩/\fD (s.h.next<=·) J.g J'.g:=by
 have hJ:J.g s.h.next=none:=by
  cases hx:J.g s.h.next with
  |none=>rfl
  |some L=>have:=h.cS _ _ hx;omega
 let L:Loc:=⟨w.heap.size,0,0,0⟩
 let g':Nat->Option Loc:=fun k=>if k=s.h.next then some L else J.g k
 have vQ:∀k L1,J.g k=some L1->g' k=some L1:=fun k L1 h1=>by
  have dS:¬k=s.h.next:=fun e=>by rw[e,hJ]at h1;cases h1
  simp only[g',dS,if_false,h1]
 have b8:∀k L1,g' k=some L1->(k=s.h.next/\L1=L)\/(k≠s.h.next/\J.g k=some L1):=fun k L1 h1=>by
  by_cases hk:k=s.h.next
  ·left;simp only[g',hk,if_true,oi]at h1;exact⟨hk,h1.symm⟩
  ·right;simp only[g',hk,if_false]at h1;exact⟨hk,h1⟩
 have oT:(w.alloc o).heap[w.heap.size]?=some o:=by show(w.heap.push _)[w.heap.size]?=_;simp
 have hold:∀k,k<w.heap.size->(w.alloc o).heap[k]?=w.heap[k]?:=fun k hk=>by show(w.heap.push _)[k]?=_;rw[Array.getElem?_push,if_neg om]
 have Wq:(w.alloc o).heap.size=w.heap.size+1:=by show(w.heap.push _).size=_;simp
 refine⟨⟨g',J.l⟩,?_,rfl,by simp[g',L],fun k L1 hk=>(b8 k L1 hk).elim (fun q=>.inr om) (fun q=>.inl q.2)⟩;refine { hr:=?_,mono:=vQ,next:=by simp[af.gT],low:=Nat.le_refl _,size:=om,os:=rfl,tape:=rfl,output:=rfl,fresh:=?_,cI:=fun t L h1=>.inr ⟨t,L,h1,rfl⟩,frame:=fun b hb _ _=>hold b hb }
 ·refine { cS:=?_,di:=?_,cH:=?_,dj:=?_,dX:=h.dX,dP:=?_,dZ:=h.dZ,sep:=?_ }
  ·intro k L1 h1
   rcases b8 k L1 h1 with ⟨rfl,_⟩|⟨_,h1⟩
   ·show s.h.next<s.h.next+1;omega
   ·have:=h.cS _ _ h1;show k<s.h.next+1;omega
  ·intro k L1 h1
   rcases b8 k L1 h1 with ⟨rfl,rfl⟩|⟨_,h1⟩
   ·exact⟨_,oT,fun c9 e9 f9 q=>absurd q (ho _ _ _)⟩
   ·rw[hold _ (h.lt h1)];exact h.di _ _ h1
  ·intro k L1 b1 h1 h2
   simp only[af.gT,cQ.bO]at h2;rcases b8 k L1 h1 with ⟨rfl,rfl⟩|⟨dS,h1⟩
   ·simp only[if_true,oi]at h2
    subst h2;rw[show L.b=w.heap.size from rfl,oT];exact hb g' vQ
   ·simp only[Ne.symm dS,if_false]at h2
    have:=(h.cH _ _ _ h1 h2).mono vQ;rw[hold _ (h.lt h1)];exact this
  ·intro k k' L1 L2 b1 b2 h1 h2 h3 h4 zH DN hb
   simp only[af.gT,cQ.bO]at h3 h4;rcases b8 k L1 h1 with ⟨FW,Li⟩|⟨dS,h1⟩<;>rcases b8 k' L2 h2 with ⟨Me,Wr⟩|⟨Gk,h2⟩
   ·rw[FW,Me]
   ·have:=h.lt h2;rw[Li]at hb;simp only[L]at hb;omega
   ·have:=h.lt h1;rw[Wr]at hb;simp only[L]at hb;omega
   ·simp only[Ne.symm dS,if_false]at h3
    simp only[Ne.symm Gk,if_false]at h4;exact h.dj _ _ _ _ _ _ h1 h2 h3 h4 zH DN hb
  ·intro t L1 h1
   obtain⟨Tq,e1,a1,a2⟩:=h.dP _ _ h1;exact⟨Tq,e1,by rw[hold _ (h.Mb h1)];exact a1,fun c hc=>(a2 c hc).mono vQ⟩
  ·intro k t L1 L2 h1 h2 hb
   rcases b8 k L1 h1 with ⟨rfl,rfl⟩|⟨_,h1⟩
   ·have:=h.Mb h2;simp only[L]at hb;omega
   ·exact h.sep _ _ _ _ h1 h2 hb
 ·intro k L1 h1 h2
  rcases b8 k L1 h1 with ⟨rfl,rfl⟩|⟨_,h1⟩
  ·exact .inl (Nat.le_refl _)
  ·rw[h2]at h1;cases h1
theorem HR.jc(h:HR J s w){id:Nat}{L:Loc}(hL:J.g id=some L){b0 b:DE}(nE:s.h.m.get id=some b0)(ha0:b0.alive=true){o:Obj}(ho:∀cs e fr,o≠.cells cs e fr)(hb:BR J.g b L (some o)) :
  Good J s w J { s with h:=s.h.jc id b } (w.putObj L.b o):=by
 have dV:=h.lt hL;have Sa:(w.putObj L.b o).heap[L.b]?=some o:=World.putObj_heap_same dV;have BE:∀k,k≠L.b->(w.putObj L.b o).heap[k]?=w.heap[k]?:=fun k hk=>World.putObj_heap_other hk
 refine { hr:=?_,mono:=fun _ _ h=>h,next:=Nat.le_refl _,low:=Nat.min_le_left _ _,size:=by simp,os:=rfl,tape:=rfl,output:=rfl,fresh:=(fun id L h1 h2=>by rw[h2]at h1;cases h1),cI:=fun t L h1=>.inr ⟨t,L,h1,rfl⟩,frame:=?_ }
 ·refine { cS:=h.cS,di:=?_,cH:=?_,dj:=?_,dX:=h.dX,dP:=?_,dZ:=h.dZ,sep:=h.sep }
  ·intro k L1 h1
   by_cases e:L1.b=L.b
   ·exact⟨o,by rw[e];exact Sa,fun c9 e9 f9 q=>absurd q (ho _ _ _)⟩
   ·rw[BE _ e];exact h.di _ _ h1
  ·intro k L1 b1 h1 h2
   simp only[af.jc,cQ.bO]at h2;by_cases me:id=k
   ·subst me
    rw[hL]at h1;obtain rfl:=Option.some.inj h1;simp only[if_true,oi]at h2;subst h2;rw[Sa];exact hb
   ·simp only[me,if_false]at h2
    cases Md:b1.alive with
    |false=>cases b1<;>first|trivial|(simp[DE.alive]at Md)
    |true=>
     have dS:L1.b≠L.b:=fun hb=>me (h.dj _ _ _ _ _ _ hL h1 nE h2 ha0 Md hb.symm)
     rw[BE _ dS];exact h.cH _ _ _ h1 h2
  ·intro k k' L1 L2 b1 b2 h1 h2 h3 h4 zH DN hb
   simp only[af.jc,cQ.bO]at h3 h4;have l3:∃b,s.h.m.get k=some b/\b.alive=true:=by
    by_cases me:id=k
    ·subst me;exact⟨_,nE,ha0⟩
    ·simp only[me,if_false]at h3;exact⟨_,h3,zH⟩
   have l4:∃b,s.h.m.get k'=some b/\b.alive=true:=by
    by_cases me:id=k'
    ·subst me;exact⟨_,nE,ha0⟩
    ·simp only[me,if_false]at h4;exact⟨_,h4,DN⟩
   obtain⟨_,l3,v3⟩:=l3;obtain⟨_,l4,v4⟩:=l4;exact h.dj _ _ _ _ _ _ h1 h2 l3 l4 v3 v4 hb
  ·intro t L1 h1
   rw[BE _ (fun e=>h.sep _ _ _ _ hL h1 e.symm)];exact h.dP _ _ h1
 ·intro b1 FQ hg hl
  refine BE b1 fun e=>?_
  have h1:=hg id L hL e.symm;have h2:Nat.min s.h.low id<=id:=Nat.min_le_right _ _;simp only[af.jc]at h1;omega
theorem MR.cons{g:Nat->Option Loc}{e:Value×Value}{es:List (Value×Value)}{c:MapEntry}{mn:List MapEntry}(h:MR g (e :: es) (c :: mn)):(c.key=e.1/\VG g e.2 c.val)/\MR g es mn:=
 ⟨h.2 0 e c rfl rfl,by have:=h.1;simpa using this,fun i e' c' h1 h2=>h.2 (i+1) e' c' (by simpa using h1) (by simpa using h2)⟩
theorem mW{g:Nat->Option Loc}{kind:TypeDesc}{k:Value}:∀(es:List (Value×Value)) (mn:List MapEntry) (i:Nat) (r:Option (Nat×Value)),MR g es mn->xi kind k es i=some r->
  (r=none/\Instr.findNow kind k mn i=some none)\/∃j v c e,r=some (i+j,v)/\Instr.findNow kind k mn i=some (some (i+j,c))/\VG g v c/\j<es.length/\mn[j]?=some e/\Instr.sameNow kind k e.key=some true
 | [],mn,i,r,hm,h=>by
  have:mn=[]:=by have:=hm.1;simp at this;exact List.eq_nil_of_length_eq_zero this.symm
  subst this;simp only[xi,oi]at h;exact .inl ⟨h.symm,rfl⟩
 |e :: es,[],i,r,hm,h=>by have:=hm.1;simp at this
 |e :: es,c :: mn,i,r,hm,h=>by
  obtain⟨⟨h1,h2⟩,h3⟩:=hm.cons;simp only[xi]at h;rw[<-h1]at h;split at h
  ·rename_i hs
   simp only[oi]at h;subst h;exact .inr ⟨0,e.2,c.val,c,rfl,by simp only[Instr.findNow,hs];rfl,h2,by simp,rfl,hs⟩
  ·rename_i hs
   rcases mW es mn (i+1) r h3 h with ⟨q1,q2⟩|⟨j,v,cv,e9,q1,q2,q3,q4,q5,q6⟩
   ·exact .inl ⟨q1,by simp only[Instr.findNow,hs];exact q2⟩
   ·refine .inr ⟨j+1,v,cv,e9,by rw[q1];congr 2;omega,?_,q3,by simp;omega,by simpa using q5,q6⟩
    simp only[Instr.findNow,hs];rw[q2];congr 3;omega
  ·cases h
theorem oL{kt:TypeId}{kd:TypeDesc}{k:Value}(hk:P.underlying kt=some kd)(hs:iL kd=true)(em:Bool)(n:Nat):(Instr.checkKey em (n+1) kt k).run P w=.ok () w:=by
 unfold Instr.checkKey;rw[Sem.run_bind,aI hk,Result.andThen_ok];cases kd<;>simp[iL]at hs<;>rfl
theorem VR.key{v c:Value}(h:VR J v c)(hk:isKey v=true):c=v:=by
 cases v with
 |int k n=>exact(h.aZ (fun a=>by simp)).int
 |string b=>exact(h.aZ (fun a=>by simp)).string
 |bool b=>exact(h.aZ (fun a=>by simp)).bool
 |_=>simp[isKey]at hk
theorem PY(a b:ByteArray)(h:(a == b)=true):a=b:=by
 have h1:(a.data == b.data)=true:=h;have h2:a.data=b.data:=by simpa using h1
 cases a;cases b;simp_all
theorem JR(a:ByteArray):(a == a)=true:=by
 show(a.data == a.data)=true;simp
theorem Gv{kind:TypeDesc}{k e:Value}(h:Instr.sameNow kind k e=some true):e=k/\∀n,Instr.sameBits n e k=true:=by
 unfold Instr.sameNow at h;split at h
 ·split at h
  ·rename_i hk
   simp at h;subst h;subst hk;exact⟨rfl,fun n=>by cases n<;>simp[Instr.sameBits]⟩
  ·cases h
 ·simp only[oi]at h
  obtain rfl:=PY _ _ h;exact⟨rfl,fun n=>by cases n<;>simp[Instr.sameBits,JR]⟩
 ·simp at h;subst h;exact⟨rfl,fun n=>by cases n<;>simp[Instr.sameBits]⟩
 ·cases h
theorem BF(hR:HR J s w){x cx:Value}{es:List (Value×Value)}(h:xj s.h x=some es)(hx:VR J x cx) :
  (cx=.map none/\es=[])\/∃id L mn clock,x=.map (some id)/\cx=.map (some L.b)/\J.g id=some L/\s.h.m.get id=some (.map es)/\w.heap[L.b]?=some (.map mn clock)/\MR J.g es mn.toList:=by
 unfold xj at h;split at h
 ·simp only[oi]at h;subst h
  exact .inl ⟨(hx.aZ (fun a=>by simp)).BA,rfl⟩
 ·rename_i id
  split at h
  ·rename_i WG hm
   simp only[oi]at h;subst h;obtain⟨L,hL,rfl⟩:=(hx.aZ (fun a=>by simp)).PS;obtain⟨mn,clock,h1,h2⟩:=hR.cH _ _ _ hL hm;exact .inr ⟨id,L,mn,clock,rfl,rfl,hL,hm,h1,h2⟩
  ·cases h
 ·cases h
theorem nR{r:Nat}{es:Array MapEntry}{clock:Nat}(hb:w.heap[r]?=some (.map es clock)):(getObj r).run P w=.ok (.map es clock) w:=by simp[getObj,Sem.run,hb]
theorem xS{r:Nat}{es:Array MapEntry}{clock:Nat}(o:Obj)(hb:w.heap[r]?=some (.map es clock)):(setObj r o).run P w=.ok () (w.putObj r o):=by simp[setObj,Sem.run,hb,World.putObj]
theorem xT{g:Nat->Option Loc}{v c:Value}(h:VG g v c)(ok b:Bool):VG g (found ok v b) (if ok then .tuple #[c,.bool b] else c):=by
 cases ok with
 |false=>exact h
 |true=>
  refine .tuple _ _ (by simp) fun i x y hx hy=>?_
  match i with
  |0=>simp at hx hy;subst hx;subst hy;exact h
  |1=>simp at hx hy;subst hx;subst hy;exact .flat _ rfl
  |i+2=>simp at hx
theorem DZ(hR:HR J s w){t:TypeId}{x cx k ck v:Value}{ok:Bool}{s':St}(h0:bT s (kP P s.h t x k ok)=some (v,s'))(hx:VR J x cx)(hk:VR J k ck) :
  dD P J s w (Instr.lookup t cx ck ok) v s' (s.h.next<=·) (fun _=>False):=by
 obtain⟨h',h,rfl⟩:=bj h0;unfold kP at h;split at h
 ·rename_i kt et hu
  split at h
  ·rename_i kd z es Sb hz FU
   cases hc:(iL kd && isKey k)with
   |false=>rw[hc]at h;simp at h
   |true=>
    rw[hc]at h;simp only[cond_true]at h;simp only[Bool.and_eq_true]at hc;obtain rfl:=hk.key hc.2;have Vt:=fun em=>oL (P:=P) (w:=w) (k:=ck) Sb hc.1 em 9999
    rcases BF hR FU hx with ⟨rfl,rfl⟩|⟨id,L,mn,clock,rfl,rfl,hL,hm,hw,Tz⟩
    ·simp only[xi,oi,pj]at h
     obtain⟨rfl,rfl⟩:=h;refine dD.still hR ?_ (.cX _ _ (xT (VG.of_flat (fM hz).1) ok false));simp only[Instr.lookup,Sem.run_bind,aI hu,Result.andThen_ok,Sem.run_pure,Vt,Instr.findKey,aI Sb,Instr.findNow,gf hz]
    ·split at h
     ·rename_i j u hf
      simp only[oi,pj]at h;obtain⟨rfl,rfl⟩:=h;rcases mW _ _ _ _ Tz hf with ⟨q,_⟩|⟨j',v',c',e',q1,q2,q3,_⟩
      ·cases q
      ·simp only[oi,pj]at q1
       obtain⟨rfl,rfl⟩:=q1;refine dD.still hR ?_ (.cX _ _ (xT q3 ok true));simp only[Instr.lookup,Sem.run_bind,aI hu,Result.andThen_ok,nR hw,Sem.run_pure,Vt,Instr.findKey,aI Sb,q2]
     ·rename_i hf
      simp only[oi,pj]at h;obtain⟨rfl,rfl⟩:=h;rcases mW _ _ _ _ Tz hf with ⟨_,q2⟩|⟨j',v',c',e',q1,_⟩
      ·refine dD.still hR ?_ (.cX _ _ (xT (VG.of_flat (fM hz).1) ok false))
       simp only[Instr.lookup,Sem.run_bind,aI hu,Result.andThen_ok,nR hw,Sem.run_pure,Vt,Instr.findKey,aI Sb,q2,gf hz]
      ·cases q1
     ·cases h
  ·cases h
 ·cases h
theorem MR.set{g:Nat->Option Loc}{es:List (Value×Value)}{mn:Array MapEntry}(h:MR g es mn.toList){k v c:Value}(hv:VG g v c)(i:Nat):MR g (es.set i (k,v)) (mn.modify i fun e=>{ e with key:=k,val:=c }).toList:=by
 refine⟨by simp[h.1],fun j e x he hx=>?_⟩;rw[List.getElem?_set]at he;simp only[Array.getElem?_toList,Array.getElem?_modify]at hx;by_cases Zi:i=j
 ·subst Zi
  simp only[if_true]at he hx;cases hc:mn[i]? with
  |none=>rw[hc]at hx;simp at hx
  |some c0=>
   rw[hc]at hx;simp only[Option.map_some,oi]at hx;subst hx;split at he
   ·simp only[oi]at he;subst he;exact⟨rfl,hv⟩
   ·cases he
 ·simp only[Zi,if_false]at he hx
  exact h.2 j e x he (by simpa using hx)
theorem MR.push{g:Nat->Option Loc}{es:List (Value×Value)}{mn:Array MapEntry}(h:MR g es mn.toList){k v c:Value}(hv:VG g v c)(b:Nat):MR g (es++[(k,v)]) (mn.push { key:=k,val:=c,born:=b }).toList:=by
 refine⟨by simp[h.1],fun j e x he hx=>?_⟩;have hl:es.length=mn.toList.length:=h.1;simp only[Array.toList_push]at hx;rw[List.getElem?_append]at he hx;by_cases hj:j<es.length
 ·rw[if_pos hj]at he
  rw[if_pos om]at hx;exact h.2 j e x he hx
 ·rw[if_neg hj]at he
  rw[if_neg om]at hx;have:j-es.length=j-mn.toList.length:=om
  rw[this]at he;cases hz:j-mn.toList.length with
  |zero=>rw[hz]at he hx;simp at he hx;subst he;subst hx;exact⟨rfl,hv⟩
  |succ n=>rw[hz]at he;simp at he
theorem vk(hR:HR J s w){t:TypeId}{x cx k ck v cv r:Value}{s':St}(h0:bT s (kQ P s.h t x k v)=some (r,s'))(hx:VR J x cx)(hk:VR J k ck)(hv:VR J v cv) :
  ∃w',(Instr.mapUpdate t cx ck cv).run P w=.ok () w'/\Good J s w J s' w'/\r=undef/\s'.env=s.env:=by
 obtain⟨h',h,rfl⟩:=bj h0;unfold kQ at h;split at h
 ·rename_i kt et id hu
  split at h
  ·rename_i kd es Sb FU
   cases hc:(iL kd && isKey k && dn v)with
   |false=>rw[hc]at h;simp at h
   |true=>
    rw[hc]at h;simp only[cond_true]at h;simp only[Bool.and_eq_true]at hc;obtain rfl:=hk.key hc.1.2;have hvg:=hv.pI hc.2;have Vt:=fun em=>oL (P:=P) (w:=w) (k:=ck) Sb hc.1.1 em 9999
    obtain⟨L,hL,rfl⟩:=(hx.aZ (fun a=>by simp)).PS;obtain⟨mn,clock,hw,Tz⟩:=hR.cH _ _ _ hL FU;split at h
    ·rename_i i u hf
     simp only[oi,pj]at h;obtain⟨rfl,rfl⟩:=h;rcases mW _ _ _ _ Tz hf with ⟨q,_⟩|⟨j',v',c',e',q1,q2,q3,q4,q5,q6⟩
     ·cases q
     ·simp only[Nat.zero_add,oi,pj]at q1
      obtain⟨rfl,rfl⟩:=q1;obtain⟨q7,q8⟩:=Gv q6;have Mu:mn[i]?=some e':=by simpa using q5
      refine⟨_,?_,hR.jc hL FU rfl (o:=.map (mn.modify i fun e=>{ e with key:=ck,val:=cv }) clock) (by simp) ⟨_,_,rfl,Tz.set hvg i⟩,rfl,rfl⟩;simp only[Instr.mapUpdate,Sem.run_bind,aI hu,Result.andThen_ok,nR hw,Vt,Instr.findKey,aI Sb,q2,Nat.zero_add,Sem.run_pure,Mu,Option.map_some,Option.getD_some,Instr.keyThatStays,q8,if_true];exact xS _ hw
    ·rename_i hf
     simp only[oi,pj]at h;obtain⟨rfl,rfl⟩:=h;rcases mW _ _ _ _ Tz hf with ⟨_,q2⟩|⟨j',v',c',e',q1,_⟩
     ·refine⟨_,?_,hR.jc hL FU rfl (o:=.map (mn.push { key:=ck,val:=cv,born:=clock }) (clock+1)) (by simp) ⟨_,_,rfl,Tz.push hvg clock⟩,rfl,rfl⟩
      simp only[Instr.mapUpdate,Sem.run_bind,aI hu,Result.andThen_ok,nR hw,Vt,Instr.findKey,aI Sb,q2,Sem.run_pure];exact xS _ hw
     ·cases q1
    ·cases h
  ·cases h
 ·cases h
theorem s7:∀(l:List Value) (bs:List UInt8),bytesOf l=some bs->∃ns:List Int,l=ns.map (.int .u8)/\bs=ns.map (fun n=>UInt8.ofNat n.toNat)
 | [],bs,h=>by simp only[bytesOf,oi]at h;subst h;exact⟨[],rfl,rfl⟩
 |v :: l,bs,h=>by
  unfold bytesOf at h;split at h
  ·rename_i e;cases e
  ·rename_i n r e
   split at h
   ·rename_i l' hl
    simp only[oi]at h;subst h;simp only[List.cons.injEq]at e;obtain⟨rfl,rfl⟩:=e;obtain⟨ns,rfl,rfl⟩:=s7 _ _ hl;exact⟨n :: ns,rfl,rfl⟩
   ·cases h
  ·cases h
theorem xU:∀(ns:List Int) (s:ByteArray),ns.foldl (fun r n=>r.push (UInt8.ofNat n.toNat)) s=⟨s.data++(ns.map (fun n=>UInt8.ofNat n.toNat)).toArray⟩
 | [],s=>by simp
 |n :: ns,s=>by
  rw[List.foldl_cons,xU ns];simp[ByteArray.push]
theorem fG.ints{g:Nat->Option Loc}{k:IntKind}:∀(ns:List Int) (l':List Value),fG g (ns.map (.int k)) l'->l'=ns.map (.int k)
 | [],l',h=>h.iS
 |n :: ns,l',h=>by
  obtain⟨v,l2,rfl,hv,hl⟩:=h.head;rw[fG.ints ns l2 hl,hv.int];rfl
theorem JS(hR:HR J s w){src dst:TypeId}{a:Option Addr}{n c:Nat}{cx v:Value}(h:oJ P s.h src dst a n=some v)(hx:VR J (.slice a n c) cx):(convert src dst cx).run P w=.ok v w/\bA v=true:=by
 unfold oJ at h;split at h
 ·rename_i e hs hd
  split at h
  ·rename_i he
   split at h
   ·simp only[oi]at h;subst h
    obtain⟨rfl,rfl,rfl⟩:=(hx.aZ (fun a=>by simp)).ft;rw[run_convert_bytes_string w src dst e none 0 0 hs he hd];exact⟨by simp[Conv.bytesToString],rfl⟩
   ·rename_i a
    split at h
    ·rename_i l hl
     split at h
     ·rename_i bs hb
      simp only[oi]at h;subst h;obtain⟨ns,rfl,rfl⟩:=s7 _ _ hb;obtain⟨jI,L,c',hL,rfl,_⟩:=(hx.aZ (fun a=>by simp)).pH (iN hl).1;obtain⟨l',h1,h2,h3⟩:=hR.read (a:=a) (L:=L) (by simp[dH.at,jI,hL]) (iN hl).2;obtain rfl:=fG.ints _ _ h1;have Mt:=run_loadCells_list (P:=P) w ⟨L.b,L.o+a.off,none⟩ _ h3;rw[h2]at Mt;rw[run_convert_bytes_string w src dst e _ n c' hs he hd,run_bytesToString w _ n c' ns Mt,xU];have e0:ByteArray.empty.data=#[]:=rfl;exact⟨by rw[e0];simp,rfl⟩
     ·cases h
    ·cases hb:(a.spot.isSome && Nat.beq n 0)with
     |false=>rw[hb]at h;simp at h
     |true=>
      rw[hb]at h;simp only[cond_true,oi]at h;subst h;simp only[Bool.and_eq_true]at hb;rcases(hx.aZ (fun a=>by simp)).dO with ⟨qL,_⟩|⟨rfl,_,a',c',rfl,_⟩
      ·rw[qL]at hb;simp at hb
      ·have Mt:(loadCells a' 0).run P w=.ok (([]:List Int).map (Value.int .u8)).toArray w:=by simp[loadCells,loadCellsFrom]
       rw[run_convert_bytes_string w src dst e _ 0 c' hs he hd,run_bytesToString w _ 0 c' [] Mt];exact⟨rfl,rfl⟩
  ·cases h
 ·cases h
theorem Gw(hR:HR J s w){ts:List TypeId}{args aP:List Value}{ty:TypeId}{v:Value}{s':St}(h0:bT s (rW P s.h ts args)=some (v,s'))(ha:args.length=aP.length/\∀(i:Nat) (a b:Value),args[i]?=some a->aP[i]?=some b->VR J a b) :
  dD P J s w (Builtin.clear_ ts.toArray ty aP.toArray) v s' (s.h.next<=·) (fun _=>False):=by
 obtain⟨sI,h,rfl⟩:=bj h0;clear h0;unfold rW at h;split at h
 ·rename_i t base len c
  obtain⟨c0,rfl⟩:∃c0,aP=[c0]:=by
   have:=ha.1
   match aP,this with
   | [c0],_=>exact⟨c0,rfl⟩
  have hs:=(ha.2 0 _ _ rfl rfl).aZ (fun a=>by simp);split at h
  ·rename_i e hu
   split at h
   ·simp only[oi,pj]at h;obtain⟨rfl,rfl⟩:=h
    obtain⟨rfl,rfl,rfl⟩:=hs.ft;exact dD.still hR (c:=undef) (by simp[Builtin.clear_,aI hu,undef]) (.cX _ _ (VG.of_flat rfl))
   ·rename_i a
    cases hb:Nat.beq len 0 with
    |true=>
     rw[hb]at h;simp only[cond_true,oi,pj]at h;obtain⟨rfl,rfl⟩:=h;have:=Nat.eq_of_beq_eq_true hb;subst this;obtain⟨a',c',rfl,_⟩:=hs.iE;exact dD.still hR (c:=undef) (by cases a'<;>simp[Builtin.clear_,aI hu,undef]) (.cX _ _ (VG.of_flat rfl))
    |false=>
     rw[hb]at h;simp only[cond_false]at h;have dS:=Nat.ne_of_beq_eq_false hb;split at h
     ·rename_i z hz
      split at h
      ·rename_i h' hw
       simp only[oi,pj]at h;obtain⟨rfl,rfl⟩:=h;obtain⟨jI,L,c',hL,rfl,_⟩:=hs.pH (iT hw).1;obtain⟨w',e1,e2,e3,_⟩:=hR.write (P:=P) (a:=a) (L:=L) (by simp[dH.at,jI,hL]) (iT hw).2 (lI (lH (fM hz).1) len);refine⟨undef,w',J,?_,e2,fun _ _ h=>h,.cX _ _ (VG.of_flat rfl),e3,.refl _ _,.refl _ _⟩;have hzc:(Builtin.zeroCells z.cells len).toList=bF z.cells.toList len:=jK z.cells len;obtain⟨m,rfl⟩:∃m,len=m+1:=⟨len-1,om⟩;simp only[Builtin.clear_,List.getElem?_toArray,List.getElem?_cons_zero,Sem.run_bind,aI hu,Result.andThen_ok,gf hz,hzc,e1,Sem.run_pure,undef]
      ·cases h
     ·cases h
  ·cases h
 ·cases h
theorem Gx(hR:HR J s w){t:TypeId}{a:Addr}{L:Loc}(hL:J.at a=some L){v cv:Value}{s':St}(h:mG P s t a v=some s')(hv:VR J v cv) :
  ∃w',(storeVar t ⟨L.b,L.o+a.off,none⟩ cv).run P w=.ok () w'/\Good J s w J s' w'/\s'.env=s.env:=by
 unfold mG at h;split at h
 ·rename_i n hn
  cases hb:Nat.beq v.cells.toList.length n with
  |false=>rw[hb]at h;simp at h
  |true=>
   rw[hb]at h;simp only[cond_true]at h;have hlen:=Nat.eq_of_beq_eq_true hb;have fz:v.cells.toList.all aD=true:=by
    unfold St.write at h;cases ho:v.cells.toList.all aD with
    |true=>rfl
    |false=>rw[ho]at h;simp at h
   have Tv:=hv.cells fz;obtain⟨w',e1,e2,e3,_⟩:=hR.write (P:=P) hL h Tv;refine⟨w',?_,e2,e3⟩;have v5:cv.cells.size=n:=by have:=Tv.1;simp at this hlen;omega
   simp only[storeVar,Sem.run_bind,cg hn,Result.andThen_ok];rw[Sem.run_ite,if_neg (by simp[v5])];simpa using e1
 ·cases h
def oU(J:dH)(s:St)(a:Act)(l:List Operand):Prop:=∀x v,x∈l->bL s x=some v->VR J v (a.eval x)
theorem ER.ev{a:Act}(h:ER J s a)(l:List Operand):oU J s a l:=fun _ _ _ hx=>h.eval hx
theorem oU.tail{a:Act}{x:Operand}{l:List Operand}(h:oU J s a (x :: l)):oU J s a l:=fun y v hy hv=>h y v (List.mem_cons_of_mem _ hy) hv
theorem oU.sub{a:Act}{l l':List Operand}(h:oU J s a l)(hl:∀x∈l',x∈l):oU J s a l':=fun y v hy hv=>h y v (hl y hy) hv
theorem jL{a:Act}:∀(l:List Operand) (_:oU J s a l) (vs:List Value),gU s l=some vs->vs.length=(l.map a.eval).length/\∀(i:Nat) (x y:Value),vs[i]?=some x->(l.map a.eval)[i]?=some y->VR J x y
 | [],_,vs,h=>by simp only[gU,oi]at h;subst h;exact⟨rfl,fun i x y h=>by simp at h⟩
 |o :: l,hE,vs,h=>by
  simp only[gU]at h;split at h
  ·rename_i v hv
   split at h
   ·rename_i r hr
    simp only[oi]at h;subst h;obtain⟨h1,h2⟩:=jL l hE.tail r hr;refine⟨by simp at h1 ⊢;exact h1,fun i x y hx hy=>?_⟩;cases i with
    |zero=>simp at hx hy;subst hx;subst hy;exact hE _ _ (by simp) hv
    |succ i=>simp only[List.getElem?_cons_succ,List.map_cons]at hx hy;exact h2 i x y hx hy
   ·cases h
  ·cases h
theorem mH{a:Act}:∀(l:List (Nat×Operand)) (_:oU J s a (l.map (·.2))) (vs:List (Nat×Value)),fY s l=some vs->sZ J vs (l.map fun(i,x)=>(i,a.eval x))
 | [],_,vs,h=>by simp only[fY,oi]at h;subst h;exact⟨rfl,fun i x y h=>by simp at h⟩
 |(k,o) :: l,hE,vs,h=>by
  simp only[fY]at h;split at h
  ·rename_i v hv
   split at h
   ·rename_i r hr
    simp only[oi]at h;subst h;obtain⟨h1,h2⟩:=mH l (oU.tail hE) r hr;refine⟨by simp at h1 ⊢;exact h1,fun i x y hx hy=>?_⟩;cases i with
    |zero=>simp at hx hy;subst hx;subst hy;exact⟨rfl,hE _ _ (by simp) hv⟩
    |succ i=>simp only[List.getElem?_cons_succ,List.map_cons]at hx hy;exact h2 i x y hx hy
   ·cases h
  ·cases h
theorem pL{a:Act}{x:Option Operand}(hE:oU J s a x.toList){v:Option Value}(h:jl s x=some v):rJ J v (x.map a.eval):=by
 cases x with
 |none=>simp only[jl,oi]at h;subst h;trivial
 |some x=>
  simp only[jl]at h;split at h
  ·rename_i u hu;simp only[oi]at h;subst h;exact hE _ _ (by simp) hu
  ·cases h
theorem v7{l:List Value}{c:List Value}(h:l.length=c.length/\∀(i:Nat) (x y:Value),l[i]?=some x->c[i]?=some y->VR J x y)(hn:l.all dn=true):fG J.g l c:=
 ⟨h.1,fun i x y hx hy=>(h.2 i x y hx hy).pI (by simp only[List.all_eq_true]at hn;exact hn x (List.mem_of_getElem? hx))⟩
def D3(P:Program)(J:dH)(s:St)(w:World)(x:Sem Next)(v:Value)(s':St)(R Rl:Nat->Prop):Prop:=
 ∃n c w' J',x.run P w=.ok n w'/\(n=.value c\/(n=.skip/\c=undef))/\Good J s w J' s' w'/\(∀t L,J.l t=some L->J'.l t=some L)/\VR J' v c/\s'.env=s.env/\fD R J.g J'.g/\fD Rl J.l J'.l
theorem dD.op{x:Sem Value}{v:Value}{s':St}{R Rl:Nat->Prop}(h:dD P J s w x v s' R Rl):D3 P J s w (x >>= fun u=>Pure.pure (Next.value u)) v s' R Rl:=by
 obtain⟨c,w',J',h1,h2,h3,h4,h5⟩:=h;exact⟨.value c,c,w',J',by simp[h1],.inl rfl,h2,h3,h4,h5⟩
theorem Ik{a:Act}{mk:lr}{loc:Bool}{o:Oper}{v:Value}{s':St}(hR:HR J s w)(hM:AL J s w mk)(hE:oU J s a o.op.operands.toList)(hK:∀{loc:Bool} {es:Nat} {cells:List Value} {r:Value×St},mk loc es cells=some r->cells.all aD=true)(h:gp P mk loc o.op s=some (v,s')):D3 P J s w (execOp a.eval o) v s' (fun k=>(DH o.op loc=true/\H9 mk k)\/(H7 o.op=true/\s.h.next<=k)) (fun t=>DI o.op loc=true/\Mg mk t):=by
 unfold gp at h;unfold execOp;have ev:∀{x:Operand} {v:Value},bL s x=some v->x∈o.op.operands.toList->VR J v (a.eval x):=fun h1 h2=>hE _ _ h2 h1
 split at h
 ·
  rename_i x ho;simp only[ho];split at h
  ·rename_i u hu
   simp only[oi,pj]at h;obtain⟨rfl,rfl⟩:=h;exact⟨.value (a.eval x),a.eval x,w,J,by simp,.inl rfl,.refl hR,fun _ _ h=>h,ev hu (by simp[ho,Op.operands]),rfl,.refl _ _,.refl _ _⟩
  ·cases h
 ·
  rename_i x ho;simp only[ho];split at h
  ·rename_i u hu
   simp only[oi,pj]at h;obtain⟨rfl,rfl⟩:=h;exact⟨.value (a.eval x),a.eval x,w,J,by simp,.inl rfl,.refl hR,fun _ _ h=>h,ev hu (by simp[ho,Op.operands]),rfl,.refl _ _,.refl _ _⟩
  ·cases h
 ·
  rename_i c x y ho;simp only[ho];split at h
  ·rename_i hc
   have WI:=((ev hc (by simp[ho,Op.operands])).aZ (fun a=>by simp)).bool;split at h
   ·rename_i u hu
    simp only[oi,pj]at h;obtain⟨rfl,rfl⟩:=h;exact⟨.value (a.eval x),a.eval x,w,J,by simp[asBool,WI],.inl rfl,.refl hR,fun _ _ h=>h,ev hu (by simp[ho,Op.operands]),rfl,.refl _ _,.refl _ _⟩
   ·cases h
  ·rename_i hc
   have WI:=((ev hc (by simp[ho,Op.operands])).aZ (fun a=>by simp)).bool;split at h
   ·rename_i u hu
    simp only[oi,pj]at h;obtain⟨rfl,rfl⟩:=h;exact⟨.value (a.eval y),a.eval y,w,J,by simp[asBool,WI],.inl rfl,.refl hR,fun _ _ h=>h,ev hu (by simp[ho,Op.operands]),rfl,.refl _ _,.refl _ _⟩
   ·cases h
  ·cases h
 ·
  rename_i e ho;simp only[ho];split at h
  ·rename_i z n hz hn
   obtain⟨JK,_⟩:=fM hz;obtain⟨J',g1,g2,g3,g4,_,ga,gb⟩:=hM _ _ _ _ _ _ e h (CR.BB (lH JK));refine dD.op ⟨_,_,J',?_,g1,g2,g3,g4,ga.mono (fun _ q=>.inl ⟨by simp[DH,q.1],q.2⟩),gb.mono (fun _ q=>⟨by simp[DI,q.1],q.2⟩)⟩;simp only[Instr.alloc,Sem.run_bind,gf hz,Result.andThen_ok,newVar,newRow,run_newObj,Sem.run_pure];simp[World.alloc_eq]
  ·cases h
 ·
  rename_i e x ho;simp only[ho];split at h
  ·rename_i u n hu hn
   have fz:u.cells.toList.all aD=true:=hK h;have BC:=CR.BB ((ev hu (by simp[ho,Op.operands])).cells fz);obtain⟨J',g1,g2,g3,g4,_,ga,gb⟩:=hM _ _ _ _ _ _ e h BC;refine dD.op ⟨_,_,J',?_,g1,g2,g3,g4,ga.mono (fun _ q=>.inl ⟨by simp[DH,q.1],q.2⟩),gb.mono (fun _ q=>⟨by simp[DI,q.1],q.2⟩)⟩;simp only[Instr.box,Sem.run_bind,Result.andThen_ok,newVar,newRow,run_newObj,Sem.run_pure];simp[World.alloc_eq]
  ·cases h
 ·
  rename_i t parts ho;simp only[ho];split at h
  ·rename_i l hl
   split at h
   ·rename_i u hu
    simp only[oi,pj]at h;obtain⟨rfl,rfl⟩:=h;obtain⟨c,e1,e2⟩:=Gr (P:=P) (w:=w) (cparts:=parts.map fun(i,x)=>(i,a.eval x)) hu (by have:=mH parts.toList (hE.sub (by simp[ho,Op.operands])) _ hl;simpa using this);exact dD.op (dD.still hR e1 (.cX _ _ e2))
   ·cases h
  ·cases h
 ·
  rename_i t len parts ho;simp only[ho];split at h
  ·rename_i l hl
   obtain⟨c,w',J',e1,e2,e3,e4,e5,ea,eb⟩:=vS (P:=P) hM (cparts:=parts.map fun(i,x)=>(i,a.eval x)) h (by have:=mH parts.toList (hE.sub (by simp[ho,Op.operands])) _ hl;simpa using this);exact dD.op ⟨c,w',J',e1,e2,e3,.cX _ _ e4,e5,ea.mono (fun _ q=>.inl ⟨rfl,q⟩),eb.mono (fun _ q=>q.elim)⟩
  ·cases h
 ·
  rename_i t x ho;simp only[ho];split at h
  ·rename_i ad hu
   split at h
   ·rename_i u hv
    simp only[oi,pj]at h;obtain⟨rfl,rfl⟩:=h;obtain⟨L,hL,hc⟩:=(ev hu (by simp[ho,Op.operands])).pG;obtain⟨c,e1,e2⟩:=AK (P:=P) hR hL hv;exact dD.op (dD.still hR (c:=c) (by simp[Instr.loadAt,hc,Instr.sureAddr,e1]) (.cX _ _ e2))
   ·cases h
  ·cases h
 ·
  rename_i t x y ho;simp only[ho];split at h
  ·rename_i ad u hx hu
   split at h
   ·rename_i s2 qJ
    simp only[oi,pj]at h;obtain⟨rfl,rfl⟩:=h;obtain⟨L,hL,hc⟩:=(ev hx (by simp[ho,Op.operands])).pG;obtain⟨w',e1,e2,e3⟩:=Gx (P:=P) hR hL qJ (ev hu (by simp[ho,Op.operands]));exact⟨.skip,undef,w',J,by simp[Instr.storeAt,hc,Instr.sureAddr,e1],.inr ⟨rfl,rfl⟩,e2,fun _ _ h=>h,.cX _ _ (VG.of_flat rfl),e3,.refl _ _,.refl _ _⟩
   ·cases h
  ·cases h
 ·
  rename_i x ho;simp only[ho];split at h
  ·rename_i ad hu
   simp only[oi,pj]at h;obtain⟨rfl,rfl⟩:=h;have hv:=ev hu (by simp[ho,Op.operands]);obtain⟨L,hL,hc⟩:=hv.pG;exact⟨.value (a.eval x),a.eval x,w,J,by simp[hc],.inl rfl,.refl hR,fun _ _ h=>h,hv,rfl,.refl _ _,.refl _ _⟩
  ·rename_i f first cap hu
   simp only[oi,pj]at h;obtain⟨rfl,rfl⟩:=h;have hv:=ev hu (by simp[ho,Op.operands]);obtain⟨x',y',hc,_,_⟩:=(hv.aZ (fun a=>by simp)).L9;exact⟨.value (a.eval x),a.eval x,w,J,by simp[hc],.inl rfl,.refl hR,fun _ _ h=>h,hv,rfl,.refl _ _,.refl _ _⟩
  ·cases h
 ·
  rename_i op t x y yt ho;simp only[ho];split at h
  ·rename_i u1 u2 h1 h2
   split at h
   ·rename_i u hu
    simp only[oi,pj]at h;obtain⟨rfl,rfl⟩:=h;obtain⟨e1,e2⟩:=Mo (P:=P) (w:=w) (X:=x) (Y:=y) hu (ev h1 (by simp[ho,Op.operands])) (ev h2 (by simp[ho,Op.operands]));exact dD.op (dD.still hR e1 (.cX _ _ (.flat _ e2)))
   ·cases h
  ·cases h
 ·
  rename_i op t x ho;simp only[ho];split at h
  ·rename_i u1 h1
   split at h
   ·rename_i u hu
    simp only[oi,pj]at h;obtain⟨rfl,rfl⟩:=h;obtain⟨e1,e2⟩:=PT (P:=P) (w:=w) hu (ev h1 (by simp[ho,Op.operands]));exact dD.op (dD.still hR e1 (.cX _ _ (.flat _ e2)))
   ·cases h
  ·cases h
 ·
  rename_i src dst x ho;simp only[ho];split at h
  ·rename_i a n c h1
   split at h
   ·rename_i u hu
    simp only[oi,pj]at h;obtain⟨rfl,rfl⟩:=h;obtain⟨e1,e2⟩:=JS (P:=P) hR hu (ev h1 (by simp[ho,Op.operands]));exact dD.op (dD.still hR e1 (.cX _ _ (.flat _ e2)))
   ·cases h
  ·rename_i u1 _ h1
   split at h
   ·rename_i u hu
    simp only[oi,pj]at h;obtain⟨rfl,rfl⟩:=h;obtain⟨e1,e2⟩:=JE (P:=P) (w:=w) hu (ev h1 (by simp[ho,Op.operands]));exact dD.op (dD.still hR e1 (.cX _ _ (.flat _ e2)))
   ·cases h
  ·cases h
 ·
  rename_i fn first cap ho
  simp only[ho];split at h
  ·rename_i f l r h1 h2
   cases hb:(l.all dn && r.all dn)with
   |false=>rw[hb]at h;simp at h
   |true=>
    rw[hb]at h;simp only[cond_true,oi,pj]at h;obtain⟨rfl,rfl⟩:=h;simp only[Bool.and_eq_true]at hb;have g1:=v7 (jL first.toList (hE.sub (by simp[ho,Op.operands];grind)) _ h1) hb.1;have g2:=v7 (jL cap.toList (hE.sub (by simp[ho,Op.operands];grind)) _ h2) hb.2;refine dD.op (dD.still hR (c:=.func (.func f) (first.map a.eval) (cap.map a.eval)) (by simp[Instr.makeFunc]) (.cX _ _ ?_));exact .func _ _ _ _ _ (by simpa using g1.1) (by simpa using g2.1) (fun i u v hu hv=>g1.2 i u v (by simpa using hu) (by simpa using hv)) (fun i u v hu hv=>g2.2 i u v (by simpa using hu) (by simpa using hv))
  ·cases h
 ·
  rename_i t l c ho;simp only[ho];split at h
  ·rename_i u1 u2 h1 h2
   obtain⟨r,w',J',e1,e2,e3,e4,e5,ea,eb⟩:=xO (P:=P) hM h (ev h1 (by simp[ho,Op.operands])) (ev h2 (by simp[ho,Op.operands]));exact dD.op ⟨r,w',J',e1,e2,e3,.cX _ _ e4,e5,ea.mono (fun _ q=>.inl ⟨rfl,q⟩),eb.mono (fun _ q=>q.elim)⟩
  ·cases h
 ·
  rename_i t x lo hi mx ho;simp only[ho];split at h
  ·rename_i u b1 b2 b3 h1 h2 h3 h4
   split at h
   ·rename_i r hr
    simp only[oi,pj]at h;obtain⟨rfl,rfl⟩:=h;obtain⟨c,e1,e2⟩:=Gq (P:=P) (w:=w) hr (ev h1 (by simp[ho,Op.operands])) (pL (hE.sub (by simp[ho,Op.operands];grind)) h2) (pL (hE.sub (by simp[ho,Op.operands];grind)) h3) (pL (hE.sub (by simp[ho,Op.operands];grind)) h4);exact dD.op (dD.still hR e1 (.cX _ _ e2))
   ·cases h
  ·cases h
 ·
  rename_i t x f ho;simp only[ho];split at h
  ·rename_i u h1
   split at h
   ·rename_i r hr
    simp only[oi,pj]at h;obtain⟨rfl,rfl⟩:=h;obtain⟨c,e1,e2⟩:=xH (P:=P) (w:=w) hr (ev h1 (by simp[ho,Op.operands]));exact dD.op (dD.still hR e1 e2)
   ·cases h
  ·cases h
 ·
  rename_i t x f ho;simp only[ho];split at h
  ·rename_i u h1
   split at h
   ·rename_i r hr
    simp only[oi,pj]at h;obtain⟨rfl,rfl⟩:=h;obtain⟨c,e1,e2⟩:=Gl (P:=P) (w:=w) hr (ev h1 (by simp[ho,Op.operands]));exact dD.op (dD.still hR e1 (.cX _ _ e2))
   ·cases h
  ·cases h
 ·
  rename_i t x i ho;simp only[ho];split at h
  ·rename_i u1 u2 h1 h2
   split at h
   ·rename_i r hr
    simp only[oi,pj]at h;obtain⟨rfl,rfl⟩:=h;obtain⟨c,e1,e2⟩:=xI (P:=P) (w:=w) hr (ev h1 (by simp[ho,Op.operands])) (ev h2 (by simp[ho,Op.operands]));exact dD.op (dD.still hR e1 e2)
   ·cases h
  ·cases h
 ·
  rename_i t x i ho;simp only[ho];split at h
  ·rename_i u1 u2 h1 h2
   split at h
   ·rename_i r hr
    simp only[oi,pj]at h;obtain⟨rfl,rfl⟩:=h;obtain⟨c,e1,e2⟩:=Gm (P:=P) (w:=w) hr (ev h1 (by simp[ho,Op.operands])) (ev h2 (by simp[ho,Op.operands]));exact dD.op (dD.still hR e1 (.cX _ _ e2))
   ·cases h
  ·cases h
 ·
  rename_i x i ho;simp only[ho];split at h
  ·rename_i vs h1
   split at h
   ·rename_i r hr
    simp only[oi,pj]at h;obtain⟨rfl,rfl⟩:=h;obtain⟨ys,hc,hy⟩:=((ev h1 (by simp[ho,Op.operands])).aZ (fun a=>by simp)).LZ;have dV:i<ys.toList.length:=by rw[<-hy.1];exact(List.getElem?_eq_some_iff.1 hr).1
    have hx:ys[i]?=some (ys.toList[i]):=by simp at dV ⊢
    exact dD.op (dD.still hR (c:=ys.toList[i]) (by simp[Instr.extract,hc,hx]) (.cX _ _ (hy.2 i r _ hr (by simp at dV ⊢))))
   ·cases h
  ·cases h
 ·
  rename_i b args argTypes ho;simp only[ho,resolve];split at h
  ·rename_i l hl
   have iU:=jL args.toList (hE.sub (by simp[ho,Op.operands,Call.operands])) _ hl;have Gy:args.map a.eval=(args.toList.map a.eval).toArray:=by apply Array.ext';simp
   split at h
   ·rename_i x
    split at h
    ·rename_i t ht
     split at h
     ·rename_i u hu
      simp only[oi,pj]at h;obtain⟨rfl,rfl⟩:=h;obtain⟨c0,vj⟩:∃c0,args.toList.map a.eval=[c0]:=by
       have:=iU.1
       match hm:args.toList.map a.eval,this with
       | [c0],_=>exact⟨c0,rfl⟩
      have hx:=iU.2 0 x c0 rfl (by rw[vj];rfl);obtain⟨e1,e2⟩:=Mi (P:=P) (w:=w) (ty:=o.type) hu hx;have hat:argTypes=#[t]:=by apply Array.ext';simpa using ht
      refine⟨.value u,u,w,J,?_,.inl rfl,.refl hR,fun _ _ h=>h,.cX _ _ (.flat _ e2),rfl,.refl _ _,.refl _ _⟩;simp[invoke,builtin,Gy,vj,hat,e1]
     ·cases h
    ·cases h
   ·rename_i x
    split at h
    ·rename_i t ht
     split at h
     ·rename_i u hu
      simp only[oi,pj]at h;obtain⟨rfl,rfl⟩:=h;obtain⟨c0,vj⟩:∃c0,args.toList.map a.eval=[c0]:=by
       have:=iU.1
       match hm:args.toList.map a.eval,this with
       | [c0],_=>exact⟨c0,rfl⟩
      have hx:=iU.2 0 x c0 rfl (by rw[vj];rfl);obtain⟨e1,e2⟩:=Mj (P:=P) (w:=w) (ty:=o.type) hu hx;have hat:argTypes=#[t]:=by apply Array.ext';simpa using ht
      refine⟨.value u,u,w,J,?_,.inl rfl,.refl hR,fun _ _ h=>h,.cX _ _ (.flat _ e2),rfl,.refl _ _,.refl _ _⟩;simp[invoke,builtin,Gy,vj,hat,e1]
     ·cases h
    ·cases h
   ·rename_i x r
    split at h
    ·rename_i u hu
     simp only[oi,pj]at h;obtain⟨rfl,rfl⟩:=h;obtain⟨c0,cr,vj⟩:∃c0 cr,args.toList.map a.eval=c0 :: cr:=by
      have:=iU.1
      match hm:args.toList.map a.eval,this with
      |c0 :: cr,_=>exact⟨c0,cr,rfl⟩
     rw[vj]at iU;obtain⟨c,e1,e2⟩:=uz (P:=P) (w:=w) (F:=Builtin.max2) (fun x y v h=>(JF h).1) (fun x y v h=>Gn h) r cr x c0 u hu (iU.2 0 x c0 rfl rfl) ⟨by have:=iU.1;simpa using this,fun i p q hp hq=>iU.2 (i+1) p q (by simpa using hp) (by simpa using hq)⟩;refine⟨.value c,c,w,J,?_,.inl rfl,.refl hR,fun _ _ h=>h,e2,rfl,.refl _ _,.refl _ _⟩;simp[invoke,builtin,Gy,vj,Builtin.max_,e1]
    ·cases h
   ·rename_i x r
    split at h
    ·rename_i u hu
     simp only[oi,pj]at h;obtain⟨rfl,rfl⟩:=h;obtain⟨c0,cr,vj⟩:∃c0 cr,args.toList.map a.eval=c0 :: cr:=by
      have:=iU.1
      match hm:args.toList.map a.eval,this with
      |c0 :: cr,_=>exact⟨c0,cr,rfl⟩
     rw[vj]at iU;obtain⟨c,e1,e2⟩:=uz (P:=P) (w:=w) (F:=Builtin.min2) (fun x y v h=>(JG h).1) (fun x y v h=>Gp h) r cr x c0 u hu (iU.2 0 x c0 rfl rfl) ⟨by have:=iU.1;simpa using this,fun i p q hp hq=>iU.2 (i+1) p q (by simpa using hp) (by simpa using hq)⟩;refine⟨.value c,c,w,J,?_,.inl rfl,.refl hR,fun _ _ h=>h,e2,rfl,.refl _ _,.refl _ _⟩;simp[invoke,builtin,Gy,vj,Builtin.min_,e1]
    ·cases h
   ·obtain⟨c,w',J',e1,e2,e3,e4,e5,ea,eb⟩:=DX (P:=P) hR (ty:=o.type) h iU
    refine⟨.value c,c,w',J',?_,.inl rfl,e2,e3,e4,e5,ea.mono (fun _ q=>.inr ⟨rfl,q⟩),eb.mono (fun _ q=>q.elim)⟩;simp[invoke,builtin,Gy]at e1 ⊢;rw[e1];rfl
   ·obtain⟨c,w',J',e1,e2,e3,e4,e5,ea,eb⟩:=JQ (P:=P) hR (ty:=o.type) h iU
    refine⟨.value c,c,w',J',?_,.inl rfl,e2,e3,e4,e5,ea.mono (fun _ q=>.inr ⟨rfl,q⟩),eb.mono (fun _ q=>q.elim)⟩;simp[invoke,builtin,Gy]at e1 ⊢;rw[e1];rfl
   ·obtain⟨c,w',J',e1,e2,e3,e4,e5,ea,eb⟩:=Gw (P:=P) hR (ty:=o.type) h iU
    refine⟨.value c,c,w',J',?_,.inl rfl,e2,e3,e4,e5,ea.mono (fun _ q=>.inr ⟨rfl,q⟩),eb.mono (fun _ q=>q.elim)⟩;simp[invoke,builtin,Gy]at e1 ⊢;rw[e1];rfl
   ·cases h
  ·cases h
 ·
  rename_i t ho;simp only[ho];obtain⟨h',h1,rfl⟩:=bj h;simp only[oi,pj]at h1;obtain⟨rfl,rfl⟩:=h1;obtain⟨J',e1,e2,e3,e4⟩:=hR.gT (b:=.map []) (o:=.map #[] 0) (by simp) (fun g' _=>⟨#[],0,rfl,rfl,fun i e c h=>by simp at h⟩);exact dD.op ⟨.map (some w.heap.size),w.alloc (.map #[] 0),J',by simp[Instr.makeMap],e1,fun t L h=>by rw[e2];exact h,.cX _ _ (.xD _ _ e3),rfl,e4.mono (fun _ q=>.inr ⟨rfl,q⟩),by rw[e2];exact .refl _ _⟩
 ·
  rename_i t x i ok ho;simp only[ho];split at h
  ·rename_i u1 u2 h1 h2
   obtain⟨c,w',J',e1,e2,e3,e4,e5,ea,eb⟩:=DZ (P:=P) hR h (ev h1 (by simp[ho,Op.operands])) (ev h2 (by simp[ho,Op.operands]));exact dD.op ⟨c,w',J',e1,e2,e3,e4,e5,ea.mono (fun _ q=>.inr ⟨rfl,q⟩),eb.mono (fun _ q=>q.elim)⟩
  ·cases h
 ·
  rename_i t m k x ho;simp only[ho];split at h
  ·rename_i u1 u2 u3 h1 h2 h3
   obtain⟨w',e1,e2,rfl,e3⟩:=vk (P:=P) hR h (ev h1 (by simp[ho,Op.operands])) (ev h2 (by simp[ho,Op.operands])) (ev h3 (by simp[ho,Op.operands]));exact⟨.skip,undef,w',J,by simp[e1],.inr ⟨rfl,rfl⟩,e2,fun _ _ h=>h,.cX _ _ (VG.of_flat rfl),e3,.refl _ _,.refl _ _⟩
  ·cases h
 ·
  rename_i t m k x ho;simp only[ho];split at h
  ·rename_i u1 u2 u3 h1 h2 h3
   obtain⟨w',e1,e2,rfl,e3⟩:=vk (P:=P) hR h (ev h1 (by simp[ho,Op.operands])) (ev h2 (by simp[ho,Op.operands])) (ev h3 (by simp[ho,Op.operands]));exact⟨.skip,undef,w',J,by simp[e1],.inr ⟨rfl,rfl⟩,e2,fun _ _ h=>h,.cX _ _ (VG.of_flat rfl),e3,.refl _ _,.refl _ _⟩
  ·cases h
 ·cases h
