import Derived.Test.YtdpbiegfljmhmaaGreatSimA
import Derived.Laws.BytesString
set_option linter.unusedSimpArgs false
set_option linter.unusedVariables false
namespace Go.cV
variable{P:Program}{w:World}{J:dM}{s:St}
theorem xz{t:TypeId}{x cx v:Value}{f:Nat}(h:lM P t x f=some v)(hx:VR J x cx):∃c,(Instr.fieldAt t cx f).run P w=.ok c w/\VR J v c:=by
 unfold lM at h;split at h
 ·rename_i fs a hu
  split at h
  ·rename_i fd hf
   split at h
   ·rename_i n hn
    cases hb:Nat.beq n 0 with
    |true=>rw[hb]at h;simp at h
    |false=>
     rw[hb]at h;simp only[cond_false,oi]at h;subst h;obtain⟨L,hL,rfl⟩:=hx.pI;have xh:=Nat.ne_of_beq_eq_false hb;have La:fs[f]?=some fd:=by simpa using hf
     refine⟨_,?_,VR.K3 hL fd.offset⟩;simp[Instr.fieldAt,aL hu,La,Instr.sureAddr,fieldPlace,cg hn,xh,ju]
   ·cases h
  ·cases h
 ·cases h
theorem xC{t:TypeId}{x cx ix ci v:Value}(h:lO P t x ix=some v)(hx:VR J x cx)(hi:VR J ix ci):∃c,(Instr.indexAt t cx ci).run P w=.ok c w/\VR J v c:=by
 unfold lO at h;split at h
 ·rename_i len e a k i hu
  split at h
  ·rename_i n hn
   split at h
   ·rename_i dW
    simp only[oi]at h;subst h;obtain⟨L,hL,rfl⟩:=hx.pI;obtain rfl:=(hi.aZ (fun a=>by simp)).int;refine⟨_,?_,VR.K3 hL _⟩;simp[Instr.indexAt,asIntOf,aL hu,Instr.sureAddr,dW.1,dW.2,cg hn,ju]
   ·cases h
  ·cases h
 ·rename_i e a len c k i hu
  split at h
  ·rename_i n hn
   split at h
   ·rename_i dW
    simp only[oi]at h;subst h;obtain⟨hs,L,c',hL,rfl,_⟩:=(hx.aZ (fun a=>by simp)).Se om;obtain rfl:=(hi.aZ (fun a=>by simp)).int;refine⟨_,?_,VR.K3 (a:=a) (L:=L) (by simp[dM.at,hs,hL]) _⟩;simp[Instr.indexAt,asIntOf,aL hu,dW.1,dW.2,cg hn,ju]
   ·cases h
  ·cases h
 ·cases h
theorem lG{v cv:Value}{y y' n:Nat}{code:BoundsCode}(h:bound v y=some n)(hv:VR J v cv)(hy:y<=y'):(Instr.sliceBound cv y' code).run P w=.ok n w/\n<=y:=by
 unfold bound at h;split at h
 ·rename_i k i
  split at h
  ·rename_i hi
   simp only[oi]at h;subst h;obtain rfl:=(hv.aZ (fun a=>by simp)).int;refine⟨?_,om⟩;have h2:i<=(y':Int):=om
   simp[Instr.sliceBound,asIntOf,hi.1,h2]
  ·cases h
 ·cases h
def rM(J:dM):Option Value->Option Value->Prop
 |none,none=>True
 |some v,some c=>VR J v c
 |_,_=>False
theorem xD{isS:Bool}{len c c':Nat}{lo hi mx Hy Lk cmx:Option Value}{m h l:Nat}(hc:c<=c')
  (hm:gH mx c=some m)
  (hh:iM hi mx len m=some h)
  (hl:ik lo h=some l)
  (h1:rM J lo Hy) (h2:rM J hi Lk) (h3:rM J mx cmx) :
  (Instr.sliceBounds isS len c' Hy Lk cmx).run P w=.ok (l,h,if mx.isSome then m else c') w/\(lo=none->l=0)/\l<=h/\(mx.isSome=true->m<=c):=by
 cases mx with
 |none=>
  cases cmx with
  |some _=>exact h3.elim
  |none=>
   simp only[gH,oi]at hm;subst hm;cases hi with
   |none=>
    cases Lk with
    |some _=>exact h2.elim
    |none=>
     simp only[iM,oi]at hh;subst hh;cases lo with
     |none=>
      cases Hy with
      |some _=>exact h1.elim
      |none=>simp only[ik,oi]at hl;subst hl;exact⟨by simp[Instr.sliceBounds],fun _=>rfl,Nat.zero_le _,by simp⟩
     |some v=>
      cases Hy with
      |none=>exact h1.elim
      |some cv=>
       obtain⟨e1,e2⟩:=lG (P:=P) (w:=w) (code:=.sliceB) hl h1 (Nat.le_refl _);exact⟨by simp[Instr.sliceBounds,e1],by simp,e2,by simp⟩
   |some hv=>
    cases Lk with
    |none=>exact h2.elim
    |some chv=>
     have e0:=fun code=>lG (P:=P) (w:=w) (code:=code) hh h2 hc
     cases lo with
     |none=>
      cases Hy with
      |some _=>exact h1.elim
      |none=>
       simp only[ik,oi]at hl;subst hl;refine⟨?_,fun _=>rfl,Nat.zero_le _,by simp⟩;cases isS<;>simp[Instr.sliceBounds,(e0 _).1]
     |some v=>
      cases Hy with
      |none=>exact h1.elim
      |some cv=>
       obtain⟨e1,e2⟩:=lG (P:=P) (w:=w) (code:=.sliceB) hl h1 (Nat.le_refl _);refine⟨?_,by simp,e2,by simp⟩;cases isS<;>simp[Instr.sliceBounds,(e0 _).1,e1]
 |some mv=>
  cases cmx with
  |none=>exact h3.elim
  |some cmv=>
   have em:=fun code=>lG (P:=P) (w:=w) (code:=code) hm h3 hc
   cases hi with
   |none=>simp[iM]at hh
   |some hv=>
    cases Lk with
    |none=>exact h2.elim
    |some chv=>
     have e0:=fun code=>lG (P:=P) (w:=w) (code:=code) hh h2 (Nat.le_refl _)
     cases lo with
     |none=>
      cases Hy with
      |some _=>exact h1.elim
      |none=>
       simp only[ik,oi]at hl;subst hl;refine⟨?_,fun _=>rfl,Nat.zero_le _,fun _=>(em .index).2⟩;cases isS<;>simp[Instr.sliceBounds,(em _).1,(e0 _).1]
     |some v=>
      cases Hy with
      |none=>exact h1.elim
      |some cv=>
       obtain⟨e1,e2⟩:=lG (P:=P) (w:=w) (code:=.slice3C) hl h1 (Nat.le_refl _);refine⟨?_,by simp,e2,fun _=>(em .index).2⟩;cases isS<;>simp[Instr.sliceBounds,(em _).1,(e0 _).1,e1]
theorem xE{isS:Bool}{a:Option Addr}{a':Option Addr}{len c c' size:Nat}{lo hi mx Hy Lk cmx:Option Value}{v:Value}(h:lL a len c size lo hi mx=some v)
  (hv:VG J.g (.slice a len c) (.slice a' len c')) (h1:rM J lo Hy) (h2:rM J hi Lk) (h3:rM J mx cmx) :
  ∃l h m,(Instr.sliceBounds isS len c' Hy Lk cmx).run P w=.ok (l,h,m) w/\VG J.g v (.slice (if m=l then a' else a'.map (·.add (l*size))) (h-l) (m-l)):=by
 obtain⟨_,_,e,na⟩:=hv.iJ;simp only[Value.slice.injEq,true_and]at e;obtain⟨rfl,rfl⟩:=e;unfold lL at h;split at h
 ·cases h
 ·rename_i m hm
  split at h
  ·cases h
  ·rename_i zU hh
   split at h
   ·cases h
   ·rename_i l hl
    obtain⟨e1,e2,e3,e4⟩:=xD (P:=P) (w:=w) (isS:=isS) na hm hh hl h1 h2 h3;cases hb:Nat.ble zU m with
    |false=>rw[hb]at h;simp at h
    |true=>
     rw[hb]at h;simp only[cond_true]at h;have hhm:zU<=m:=Nat.le_of_ble_eq_true hb;refine⟨l,zU,if mx.isSome then m else c',e1,?_⟩;cases hx:(Nat.blt c aS || mx.isSome)with
     |true=>
      rw[hx]at h;simp only[cond_true,oi]at h;subst h;have hmm:(if mx.isSome then m else c')=m:=by
       cases mx with
       |some _=>rfl
       |none=>
        simp only[Option.isSome_none,Bool.or_false]at hx;have hc:c<aS:=Nat.le_of_ble_eq_true hx;simp only[gH,oi]at hm;rw[fu hc]at hm;cases a with
        |none=>obtain⟨rfl,rfl,e⟩:=hv.fx;simp at e;simp[e,<-hm]
        |some a=>
         rcases hv.dV with ⟨_,L,c2,_,e,q⟩|⟨rfl,_,a2,c2,e,q⟩
         ·simp only[Value.slice.injEq,true_and]at e
          obtain⟨_,rfl⟩:=e;rcases q with ⟨_,rfl⟩|⟨m',rfl,_⟩
          ·simp[hm]
          ·have:=dB L.es m';omega
         ·simp only[Value.slice.injEq,true_and]at e
          rcases q with ⟨rfl,rfl⟩|rfl
          ·simp[e.2,<-hm]
          ·omega
      rw[hmm];have XQ:m<aS:=by
       have Sm:m<=cO c:=by
        cases mx with
        |some _=>exact e4 rfl
        |none=>simp only[gH,oi]at hm;omega
       have:=Nat.mod_lt c gp;unfold cO at Sm;omega
      cases a with
      |none=>
       obtain⟨rfl,rfl,e⟩:=hv.fx;simp only[Value.slice.injEq]at e;obtain⟨rfl,_,rfl⟩:=e;have O8:m=0:=by
        have Sm:m<=cO 0:=by
         cases mx with
         |some _=>exact e4 rfl
         |none=>simp only[gH,oi]at hm;omega
        rw[fu gp]at Sm;omega
       subst O8;have:zU=0:=om
       subst this;have:l=0:=om
       subst this;exact .flat _ rfl
      |some a=>
       rcases hv.dV with ⟨hs,L,c2,hL,e,q⟩|⟨rfl,⟨xs,hs⟩,a2,c2,e,q⟩
       rotate_left
       ·simp only[Value.slice.injEq,true_and]at e
        obtain⟨rfl,rfl⟩:=e;have O8:m=0:=by
         have Sm:m<=cO c:=by
          cases mx with
          |some _=>exact e4 rfl
          |none=>simp only[gH,oi]at hm;omega
         have h00:cO c=0:=by
          rcases q with ⟨rfl,_⟩|rfl
          ·rfl
          ·simp[cO]
         omega
        subst O8;have:zU=0:=om
        subst this;have:l=0:=om
        subst this;exact .kC a a2 xs hs
       simp only[Value.slice.injEq,true_and]at e;obtain⟨rfl,rfl⟩:=e;cases Sm:Nat.beq m l with
       |true=>
        have:=Nat.eq_of_beq_eq_true Sm;simp only[cond_true,this,if_true];exact .gP a L _ _ hs hL om
       |false=>
        have:=Nat.ne_of_beq_eq_false Sm;simp only[cond_false,this,if_false,Option.map_some,ju];have q:=VG.gP (g:=J.g) (gi a (l*size)) L (zU-l) (m-l) (by simpa[gi]using hs) (by simpa[gi]using hL) om;simpa[gi,Nat.add_assoc]using q
     |false=>
      rw[hx]at h;simp only[cond_false]at h;simp only[Bool.or_eq_false_iff]at hx;obtain⟨AH,FM⟩:=hx;have wv:aS<=c:=by
       rcases Nat.lt_or_ge c aS with q|q
       ·rw[eE q]at AH;cases AH
       ·exact q
      cases mx with
      |some _=>simp at FM
      |none=>
       simp only[gH,oi]at hm;simp only[Option.isSome_none,Bool.false_eq_true,if_false];cases a with
       |none=>obtain⟨rfl,rfl,_⟩:=hv.fx;have:=gp;omega
       |some a=>
        rcases hv.dV with ⟨hs,L,c2,hL,e,q⟩|⟨rfl,⟨xs,hs⟩,a2,c2,e,q⟩
        rotate_left
        ·simp only[Value.slice.injEq,true_and]at e
         obtain⟨rfl,rfl⟩:=e;obtain rfl:c=aS:=by
          rcases q with ⟨rfl,_⟩|rfl
          ·have:=gp;omega
          ·rfl
         have h00:cO aS=0:=by simp[cO]
         have:m=0:=om
         subst this;have:zU=0:=om
         subst this;have:l=0:=om
         subst this;rw[show Nat.beq 0 0=true from rfl]at h;simp only[cond_true,oi]at h;subst h;have e0:(if c'=0 then(some a2:Option Addr)else(some a2:Option Addr).map (·.add (0*size)))=some a2:=by
          split
          ·rfl
          ·simp[Addr.add]
         rw[e0,Nat.sub_zero];exact .jN _ _ xs _ hs
        simp only[Value.slice.injEq,true_and]at e;obtain⟨rfl,rfl⟩:=e;rcases q with ⟨q,_⟩|⟨m',rfl,q1,q2,q3⟩
        ·omega
        ·rw[cA q1]at hm
         subst hm;cases dE:Nat.beq l 0 with
         |true=>
          rw[dE]at h;simp only[cond_true,oi]at h;subst h;have:=Nat.eq_of_beq_eq_true dE;subst this;have e0:(if c'=0 then(some ⟨L.b,L.o+a.off,none⟩:Option Addr)else(some ⟨L.b,L.o+a.off,none⟩:Option Addr).map (·.add (0*size)))=some ⟨L.b,L.o+a.off,none⟩:=by
           split
           ·rfl
           ·simp[Addr.add]
          rw[e0,Nat.sub_zero,Nat.sub_zero];exact .gZ a L _ _ _ hs hL q2 q1 q3
         |false=>
          rw[dE]at h;simp only[cond_false]at h;cases By:(Nat.blt l m' && Nat.beq (az L.es m' / aS) (size+1))with
          |false=>
           rw[By]at h;simp only[cond_false]at h;cases Uo:Nat.beq l m' with
           |false=>rw[Uo]at h;simp at h
           |true=>
            rw[Uo]at h;simp only[cond_true,oi]at h;subst h;have:=Nat.eq_of_beq_eq_true Uo;have e1:zU-l=0:=om
            rw[e1];split
            ·exact .jN _ _ 0 _ rfl
            ·exact .jN _ _ 0 _ rfl
          |true=>
           rw[By]at h;simp only[cond_true,oi]at h;subst h;simp only[Bool.and_eq_true]at By;have g1:l<m':=Nat.le_of_ble_eq_true By.1;have g2:=Nat.eq_of_beq_eq_true By.2;rw[kg q1]at g2;have g3:L.es=size:=om
           have eO:¬c'=l:=om
           simp only[eO,if_false,Option.map_some,ju];have q:=VG.gZ (g:=J.g) (gi a (l*size)) L (zU-l) (m'-l) (c'-l) (by simpa[gi]using hs) (by simpa[gi]using hL) om om (by
            simp only[gi];have e9:l*size+(c'-l)*L.es=c'*L.es:=by rw[g3,<-Nat.add_mul];congr 1;omega
            omega)
           rw[g3]at q;simpa[gi,Nat.add_assoc]using q
theorem FO{t:TypeId}{x cx v:Value}{lo hi mx Hy Lk cmx:Option Value}(h:gO P t x lo hi mx=some v)(hx:VR J x cx)(h1:rM J lo Hy)(h2:rM J hi Lk)(h3:rM J mx cmx) :
  ∃c,(Instr.sliceAt t cx Hy Lk cmx).run P w=.ok c w/\VG J.g v c:=by
 unfold gO at h;split at h
 ·rename_i str hu
  split at h
  ·cases h
  ·split at h
   ·cases h
   ·rename_i zU hh
    split at h
    ·cases h
    ·rename_i l hl
     simp only[oi]at h;subst h;obtain rfl:=(hx.aZ (fun a=>by simp)).string;cases cmx with
     |some _=>exact h3.elim
     |none=>
      obtain⟨e1,_,_,_⟩:=xD (P:=P) (w:=w) (isS:=false) (len:=str.size) (c:=str.size) (m:=str.size) (mx:=none) (cmx:=none) (Nat.le_refl _) rfl hh hl h1 h2 trivial;exact⟨_,by simp[Instr.sliceAt,Instr.slice,aL hu,e1],.flat _ rfl⟩
 ·rename_i e a len c hu
  split at h
  ·rename_i n hn
   obtain⟨a',c',rfl,_⟩:=(hx.aZ (fun a=>by simp)).iJ;obtain⟨l,hh,m,e1,e2⟩:=xE (P:=P) (w:=w) (isS:=true) h (hx.aZ (fun a=>by simp)) h1 h2 h3;exact⟨_,by simp[Instr.sliceAt,Instr.slice,aL hu,e1,cg hn],e2⟩
  ·cases h
 ·rename_i n e a hu
  split at h
  ·rename_i z jH hz
   obtain⟨L,hL,rfl⟩:=hx.pI;simp only[dM.at,jH]at hL;cases Za:Nat.blt n aS with
   |false=>rw[Za]at h;simp at h
   |true=>
    rw[Za]at h;simp only[cond_true]at h;have hv:=VG.gP (g:=J.g) a L n n jH hL (Nat.le_of_ble_eq_true Za);obtain⟨l,hh,m,e1,e2⟩:=xE (P:=P) (w:=w) (isS:=false) h hv h1 h2 h3;refine⟨_,?_,e2⟩;simp only[Instr.sliceAt,Sem.run_bind,aL hu,Instr.sureAddr,Sem.run_pure,Result.andThen_ok,e1,cg hz]
    congr 2
    split<;>rfl
  ·cases h
 ·cases h
end Go.cV
namespace Go.cV
variable{P:Program}{w:World}{J:dM}{s:St}
theorem Dn(off:Nat):∀(vs:List Value) (k:Nat) (cells:Array Value),off+k+vs.length<=cells.size->
  (vs.zipIdx k).foldl (fun(cs:Array Value) (p:Value×Nat)=>cs.setIfInBounds (off+p.2) p.1) cells=iR cells (off+k) vs
 | [],k,cells,_=>by
  apply Array.ext';simp[iR]
 |v :: rest,k,cells,h=>by
  simp only[List.length_cons]at h;simp only[List.zipIdx_cons,List.foldl_cons];rw[Dn off rest (k+1) _ (by simp;omega)];apply Array.ext_getElem?;intro i;rw[lQ (by simp;omega),lQ (by simp;omega)];simp only[Array.getElem?_setIfInBounds,List.length_cons];by_cases h1:i=off+k
  ·subst h1
   rw[if_neg om,if_pos rfl,if_pos om,if_pos ⟨om,om⟩];simp
  ·by_cases h2:off+(k+1)<=i/\i<off+(k+1)+rest.length
   ·rw[if_pos h2,if_pos ⟨om,om⟩]
    obtain⟨d,hd⟩:∃d,i-(off+k)=d+1:=⟨i-(off+k)-1,om⟩;rw[hd,show i-(off+(k+1))=d by omega];simp
   ·rw[if_neg h2,if_neg om,if_neg om]
def s8(J:dM)(l l':List (Nat×Value)):Prop:=l.length=l'.length/\∀(i:Nat) (p q:Nat×Value),l[i]?=some p->l'[i]?=some q->p.1=q.1/\VR J p.2 q.2
theorem kX{place:Nat->Option (Nat×Nat)}{place':Nat->Option (Nat×Nat)}(hpl:∀i x,place i=some x->place' i=some x):∀(l l':List (Nat×Value)) (cells:List Value) (kD:Array Value) (cs:List Value),
  iI place cells l=some cs->s8 J l l'->fJ J.g cells kD.toList->∃lE,Instr.fill place' kD l'=some lE/\fJ J.g cs lE.toList
 | [],l',cells,kD,cs,h,hp,hc=>by
  have:l'=[]:=by have:=hp.1;cases l'<;>simp_all
  subst this;simp only[iI,oi]at h;subst h;exact⟨kD,rfl,hc⟩
 |(i,v) :: l,l',cells,kD,cs,h,hp,hc=>by
  cases l' with
  |nil=>have:=hp.1;simp at this
  |cons q l'=>
   obtain⟨i',c⟩:=q;obtain⟨e1,e2⟩:=hp.2 0 _ _ rfl rfl;simp only at e1 e2;subst e1;simp only[iI]at h;split at h
   ·rename_i off size hpi
    cases hb:(Nat.beq v.cells.toList.length size && v.cells.toList.all aF)with
    |false=>rw[hb]at h;simp at h
    |true=>
     rw[hb]at h;simp only[cond_true]at h;simp only[Bool.and_eq_true]at hb;split at h
     ·rename_i jO C0
      have Sn:=e2.cells hb.2;have uB:=Nat.eq_of_beq_eq_true hb.1;obtain⟨fV,py⟩:=mw C0;have hlen:c.cells.size=size:=by have:=Sn.1;simp at this uB;omega
      have hH:off+c.cells.size<=kD.size:=by have:=hc.1;have:=Sn.1;simp at *;omega
      have pe:fJ J.g jO (iR kD off c.cells.toList).toList:=by
       rw[py];simp only[iR];have hl:=Sn.1;rw[hl];have:=(hc.take off).append (Sn.append (hc.drop (off+c.cells.toList.length)));simpa[List.append_assoc]using this
      have sP:s8 J l l':=⟨by have:=hp.1;simpa using this,fun k p q h1 h2=>hp.2 (k+1) p q (by simpa using h1) (by simpa using h2)⟩;obtain⟨lE,f1,f2⟩:=kX hpl l l' jO (iR kD off c.cells.toList) cs h sP pe;refine⟨lE,?_,f2⟩;have Ve:c.cells.zipIdx.foldl (fun(cs:Array Value) (p:Value×Nat)=>cs.setIfInBounds (off+p.2) p.1) kD=iR kD off c.cells.toList:=by
       have:=Dn off c.cells.toList 0 kD (by simpa using hH);rw[Nat.add_zero]at this;rw[<-this,<-Array.foldl_toList];simp
      simp only[Instr.fill,hpl _ _ hpi];rw[if_neg (by simp[hlen];omega)];show Instr.fill place' (c.cells.zipIdx.foldl (fun(cs:Array Value) (p:Value×Nat)=>cs.setIfInBounds (off+p.2) p.1) kD) l'=some lE;rw[Ve];exact f1
     ·cases h
   ·cases h
theorem vm(P:Program):∀(fs:List Field),fs.all (fun f=>(P.info? f.type).isSome)=true->∃places,fs.mapM (fun f=>(P.info? f.type).map fun i=>(f.offset,i.size))=some places/\∀i x,iV P fs i=some x->places[i]?=some x
 | [],_=>⟨[],rfl,fun i x h=>by simp[iV]at h⟩
 |f :: fs,h=>by
  simp only[List.all_cons,Bool.and_eq_true]at h;obtain⟨pl,h1,h2⟩:=vm P fs h.2;obtain⟨i,hi⟩:=Option.isSome_iff_exists.1 h.1;refine⟨(f.offset,i.size) :: pl,by simp[List.mapM_cons,hi,h1],fun k x hk=>?_⟩;cases k with
  |zero=>simp[iV,bY,hi]at hk;simp[hk]
  |succ k=>simp only[List.getElem?_cons_succ];exact h2 k x (by simpa[iV]using hk)
theorem FQ{t:TypeId}{parts:List (Nat×Value)}{cparts:Array (Nat×Value)}{v:Value}(h:ux P t parts=some v)(hp:s8 J parts cparts.toList):∃c,(Instr.build t cparts).run P w=.ok c w/\VG J.g v c:=by
 unfold ux at h;split at h
 ·rename_i z hz
  obtain⟨I8,it,vX,Uq⟩:=fQ hz;split at h
  ·rename_i fs hu
   cases ha:fs.toList.all (fun f=>(P.info? f.type).isSome)with
   |false=>rw[ha]at h;simp at h
   |true=>
    rw[ha]at h;simp only[cond_true]at h;split at h
    ·rename_i cs wv
     simp only[oi]at h;subst h;obtain⟨pl,p1,p2⟩:=vm P fs.toList ha;obtain⟨lE,f1,f2⟩:=kX (place':=(pl.toArray[·]?)) (fun i x hx=>by simpa using p2 i x hx) parts cparts.toList _ _ _ wv hp (lS I8);refine⟨.agg lE,run_build w t cparts lE (by simp only[Program.built,vX,hu,Uq,p1];exact f1),?_⟩;have:=f2.agg;simpa using this
    ·cases h
  ·rename_i n e hu
   split at h
   ·rename_i k hk
    split at h
    ·rename_i cs wv
     simp only[oi]at h;subst h;obtain⟨ie,Zb,Hz⟩:=xu hk;obtain⟨lE,f1,f2⟩:=kX (place':=fun i=>some (i*ie.size,ie.size)) (fun i x hx=>by rw[Hz];exact hx) parts cparts.toList _ _ _ wv hp (lS I8);refine⟨.agg lE,run_build w t cparts lE (by simp only[Program.built,vX,hu,Uq,Zb];exact f1),?_⟩;have:=f2.agg;simpa using this
    ·cases h
   ·cases h
  ·cases h
 ·cases h
theorem gN(z:List Value):∀n,(bE z n).length=n*z.length
 |0=>by simp[bE]
 |n+1=>by simp[bE,gN z n,Nat.add_mul];omega
theorem xF(z:List Value):∀n i,i<n*z.length->(bE z n)[i]?=z[i % z.length]?
 |0,i,h=>by simp at h
 |n+1,i,h=>by
  have hz:0<z.length:=by
   rcases Nat.eq_zero_or_pos z.length with q|q
   ·rw[q]at h;simp at h
   ·exact q
  simp only[bE];by_cases hi:i<z.length
  ·rw[List.getElem?_append_left hi,Nat.mod_eq_of_lt hi]
  ·rw[List.getElem?_append_right om,xF z n (i-z.length) (by rw[Nat.add_mul]at h;omega)]
   congr 1
   exact(Nat.mod_eq_sub_mod om).symm
theorem jP(z:Array Value)(n:Nat):((Array.range (n*z.size)).map (fun i=>z[i % z.size]!)).toList=bE z.toList n:=by
 apply List.ext_getElem?;intro i;by_cases h:i<n*z.size
 ·have hz:0<z.size:=by
   rcases Nat.eq_zero_or_pos z.size with q|q
   ·rw[q]at h;simp at h
   ·exact q
  have hm:i % z.size<z.size:=Nat.mod_lt _ hz;rw[xF _ _ _ (by simpa using h)];simp[h,hm]
 ·have h1:((Array.range (n*z.size)).map (fun i=>z[i % z.size]!)).toList.length=n*z.size:=by simp
  have h2:=gN z.toList n;simp only[Array.length_toList]at h2;rw[List.getElem?_eq_none om,List.getElem?_eq_none om]
theorem lU{g:Nat->Option Loc}{z:List Value}(h:fJ g z z):∀n,fJ g (bE z n) (bE z n)
 |0=>.nil _
 |n+1=>h.append (lU h n)
theorem vY{mk:lK}(hM:AF J s w mk){t:TypeId}{len:Nat}{parts:List (Nat×Value)}{cparts:Array (Nat×Value)}{v:Value}{s':St}(h:fg P mk t len parts=some (v,s'))(hp:s8 J parts cparts.toList) :
  ∃c w' J',(Instr.buildSlice t len cparts).run P w=.ok c w'/\Good J s w J' s' w'/\(∀t L,J.l t=some L->J'.l t=some L)/\VG J'.g v c/\s'.env=s.env/\fG (Hw mk) J.g J'.g/\fG (fun _=>False) J.l J'.l:=by
 unfold fg at h;split at h
 ·rename_i e hu
  split at h
  ·rename_i n z hn hz
   obtain⟨I8,it,vX,Uq⟩:=fQ hz;cases hb:(Nat.ble (len*n) 16777216 && Nat.beq z.cells.toList.length n && Nat.ble len 16777216)with
   |false=>rw[hb]at h;simp at h
   |true=>
    rw[hb]at h;simp only[cond_true]at h;simp only[Bool.and_eq_true]at hb;have Fq:=Nat.le_of_ble_eq_true hb.1.1;have vZ:=Nat.eq_of_beq_eq_true hb.1.2;have hb3:=Nat.le_of_ble_eq_true hb.2;split at h
    ·rename_i cs wv
     split at h
     ·rename_i a s2 pe
      simp only[oi,pj]at h;obtain⟨rfl,rfl⟩:=h
      let z0:Array Value:=if len*n=0 then #[] else z.cells
      have xG:((Array.range (len*n)).map (fun i=>z0[i % z0.size]!)).toList=bE z.cells.toList len:=by
       by_cases h0:len*n=0
       ·have hl:(bE z.cells.toList len)=[]:=by
         apply List.length_eq_zero_iff.1;rw[gN,vZ];exact h0
        rw[hl,h0];simp
       ·have:z0=z.cells:=by simp[z0,h0]
        rw[this];have:=jP z.cells len;rw[show z.cells.size=n by simpa using vZ]at this ⊢;exact this
      obtain⟨lE,f1,f2⟩:=kX (place':=fun i=>some (i*n,n)) (fun i x hx=>hx) parts cparts.toList _ ((Array.range (len*n)).map (fun i=>z0[i % z0.size]!)) _ wv hp (by rw[xG];exact lU (lS I8) len);obtain⟨J',g1,g2,g3,g4,g6,ga,gb⟩:=hM _ _ _ lE _ _ e pe (by have:=CR.Bv f2;simpa using this);obtain⟨id,g7,g8⟩:=g6 rfl;simp only[Value.pointer.injEq,oi]at g7;subst g7;refine⟨.slice (some ⟨w.heap.size,0,none⟩) len len,w.alloc (.cells lE e),J',?_,g1,g2,?_,g4,ga.mono (fun _ q=>q.2),gb.mono (fun _ q=>by cases q.1)⟩
      ·simp only[Instr.buildSlice,Sem.run_bind,aL hu,Result.andThen_ok,cg hn]
       rw[Sem.run_ite,if_neg om];by_cases h0:len*n=0
       ·have Pc:z0=#[]:=by simp[z0,h0]
        rw[Pc]at f1;rw[if_pos h0];simp only[Sem.run_bind,Sem.run_pure,Result.andThen_ok,f1,newRow,run_newObj];rfl
       ·have Pc:z0=z.cells:=by simp[z0,h0]
        rw[Pc]at f1;rw[if_neg h0];simp only[Sem.run_bind,Sem.run_pure,Result.andThen_ok,gq hz,f1,newRow,run_newObj];rfl
      ·have hlen:len<aS:=by unfold aS;omega
       have q:=VG.gP (g:=J'.g) ⟨id,0,none⟩ _ len len rfl g8 hlen;simpa using q
     ·cases h
    ·cases h
  ·cases h
 ·cases h
end Go.cV
namespace Go.cV
variable{P:Program}{w:World}{J:dM}{s:St}
theorem wrap_small{n:Int}(h0:0<=n)(h1:n<=1073741824):IntKind.i64.wrap n=n:=by
 unfold IntKind.wrap;have e:(2 ^ IntKind.i64.bits:Int)=18446744073709551616:=by decide
 have e2:(2 ^ (IntKind.i64.bits-1):Int)=9223372036854775808:=by decide
 simp only[e,e2];rw[Int.emod_eq_of_lt h0 om];simp only[IntKind.signed,Bool.true_and,decide_eq_true_eq];rw[if_neg om]
theorem xH{mk:lK}(hM:AF J s w mk){t:TypeId}{l c cl cc v:Value}{s':St}(h:fP P mk t l c=some (v,s'))(hl:VR J l cl)(hc:VR J c cc) :
  ∃r w' J',(Instr.makeSlice t cl cc).run P w=.ok r w'/\Good J s w J' s' w'/\(∀t L,J.l t=some L->J'.l t=some L)/\VG J'.g v r/\s'.env=s.env/\fG (Hw mk) J.g J'.g/\fG (fun _=>False) J.l J'.l:=by
 unfold fP at h;split at h
 ·rename_i e k1 l k2 c hu
  obtain rfl:=(hl.aZ (fun a=>by simp)).int;obtain rfl:=(hc.aZ (fun a=>by simp)).int;split at h
  ·rename_i n z by_ hn hz rN
   split at h
   ·rename_i rO
    obtain⟨c1,c2,c3,c4,c5⟩:=rO;split at h
    ·rename_i a s2 pe
     simp only[oi,pj]at h;obtain⟨rfl,rfl⟩:=h;obtain⟨I8,it,vX,Uq⟩:=fQ hz;obtain⟨it2,Dq,XR⟩:=pM rN
     rw[vX]at Dq;obtain rfl:=Option.some.inj Dq
     let z0:Array Value:=if c.toNat*n=0 then #[] else z.cells
     have xG:((Array.range (c.toNat*n)).map (fun i=>z0[i % z0.size]!)).toList=bE z.cells.toList c.toNat:=by
      by_cases h0:c.toNat*n=0
      ·have hl:(bE z.cells.toList c.toNat)=[]:=by
        apply List.length_eq_zero_iff.1;rw[gN,c5];exact h0
       rw[hl,h0];simp
      ·have:z0=z.cells:=by simp[z0,h0]
       rw[this];have:=jP z.cells c.toNat;rw[show z.cells.size=n by simpa using c5]at this ⊢;exact this
     obtain⟨J',g1,g2,g3,g4,g6,ga,gb⟩:=hM _ _ _ ((Array.range (c.toNat*n)).map (fun i=>z0[i % z0.size]!)) _ _ e pe (by rw[show(Array.range (c.toNat*n)).map (fun i=>z0[i % z0.size]!)=(bE z.cells.toList c.toNat).toArray from Array.ext' (by rw[xG])];exact CR.Bv (lU (g:=J.g) (lS I8) c.toNat));obtain⟨id,g7,g8⟩:=g6 rfl;simp only[Value.pointer.injEq,oi]at g7;subst g7;refine⟨.slice (some ⟨w.heap.size,0,none⟩) l.toNat c.toNat,w.alloc (.cells ((Array.range (c.toNat*n)).map (fun i=>z0[i % z0.size]!)) e),J',?_,g1,g2,?_,g4,ga.mono (fun _ q=>q.2),gb.mono (fun _ q=>by cases q.1)⟩
     ·have wl:IntKind.i64.wrap l=l:=wrap_small c1 om
      have wc:IntKind.i64.wrap c=c:=wrap_small om c3;have uE:¬((by_:Int)*c>2 ^ 48):=by
       have h1:(by_:Int)*c<=16384*1073741824:=Int.mul_le_mul om c3 om om;have h2:(2:Int) ^ 48=281474976710656:=by decide
       omega
      have FR:¬((((decide (c<0) || decide ((by_:Int)*c>2 ^ 48)) || decide (l<0)) || decide (l>c))=true):=by
       simp only[Bool.or_eq_true,decide_eq_true_eq,not_or];exact⟨⟨⟨om,uE⟩,om⟩,om⟩
      by_cases h0:c.toNat*n=0
      ·have Pc:z0=#[]:=by simp[z0,h0]
       simp only[Instr.makeSlice,Sem.run_bind,aL hu,asInt,asIntOf,Sem.run_pure,Result.andThen_ok,il vX,XR,wl,wc];rw[Sem.run_ite,if_neg FR];simp only[Sem.run_pure,Result.andThen_ok,Sem.run_bind,run_askRoom,cg hn];rw[Sem.run_ite,if_pos h0];simp only[Sem.run_pure,Result.andThen_ok,Sem.run_bind,newRow,run_newObj,Pc];rfl
      ·have Pc:z0=z.cells:=by simp[z0,h0]
       simp only[Instr.makeSlice,Sem.run_bind,aL hu,asInt,asIntOf,Sem.run_pure,Result.andThen_ok,il vX,XR,wl,wc];rw[Sem.run_ite,if_neg FR];simp only[Sem.run_pure,Result.andThen_ok,Sem.run_bind,run_askRoom,cg hn];rw[Sem.run_ite,if_neg h0];simp only[Sem.run_pure,Result.andThen_ok,Sem.run_bind,gq hz,newRow,run_newObj,Pc];rfl
     ·have q:=VG.gP (g:=J'.g) ⟨id,0,none⟩ _ l.toNat c.toNat rfl g8 (by unfold aS;omega)
      simpa using q
    ·cases h
   ·cases h
  ·cases h
 ·cases h
theorem HR.drew{d:Nat}(h:HR J s w):HR J s { w with drawn:=d }:=
 { cU:=h.cU,dm:=h.dm,cK:=h.cK,dn:=h.dn,fe:=h.fe,dX:=h.dX,ff:=h.ff,sep:=h.sep }
theorem Good.drew{d:Nat}(h:HR J s w):Good J s w J s { w with drawn:=d } where
 hr:=h.drew
 mono:=fun _ _ h=>h
 next:=Nat.le_refl _
 low:=Nat.le_refl _
 size:=Nat.le_refl _
 os:=rfl
 tape:=rfl
 output:=rfl
 fresh:=(fun id L h1 h2=>by rw[h2]at h1;cases h1)
 cL:=fun t L h1=>.inr ⟨t,L,h1,rfl⟩
 frame:=fun _ _ _ _=>rfl
theorem Good.kill (h : HR J s w) {b : Nat} (_hb : b < s.h.next) : Good J s w J { s with h := s.h.kill b } w where
  hr := { cU := h.cU, dm := h.dm, fe := h.fe, dX := h.dX, ff := h.ff, sep := h.sep
          cK := fun id L b1 h1 h2 => by
            simp only [af.kill, cW.bO] at h2
            by_cases e : b = id
            · simp only [e, if_true, oi] at h2; subst h2; trivial
            · simp only [e, if_false] at h2; exact h.cK _ _ _ h1 h2
          dn := fun id pF L L' b1 b2 h1 h2 h3 h4 zG Dh hb9 => by
            simp only [af.kill, cW.bO] at h3 h4
            by_cases e : b = id
            · simp only [e, if_true, oi] at h3; subst h3; cases zG
            · by_cases e' : b = pF
              · simp only [e', if_true, oi] at h4; subst h4; cases Dh
              · simp only [e, if_false] at h3
                simp only [e', if_false] at h4
                exact h.dn _ _ _ _ _ _ h1 h2 h3 h4 zG Dh hb9 }
  mono := fun _ _ h => h
  next := Nat.le_refl _
  low := Nat.min_le_left _ _
  size := Nat.le_refl _
  os := rfl
  tape := rfl
  output := rfl
  fresh := (fun id L h1 h2 => by rw [h2] at h1; cases h1)
  cL := fun t L h1 => .inr ⟨t, L, h1, rfl⟩
  frame := fun _ _ _ _ => rfl
theorem jQ(z:Array Value)(n:Nat):(Builtin.zeroCells z n).toList=bE z.toList n:=jP z n
def Lm(P:Program)(w:World)(iW:Bool)(e size n:Nat)(cx:Value)(us:List Value):Prop:=
 (iW=false/\(Builtin.lenOf cx).run P w=.ok n w/\(Builtin.firstCells size n cx).run P w=.ok us.toArray w) \/
 (iW=true/\∃k m z it,cx=.int k m/\0<=m/\m<=1073741824/\n=m.toNat/\P.info? e=some it/\it.bytes<=16384/\(zeroValue e).run P w=.ok z w/\z.cells.toList.length=size/\us=bE z.cells.toList n)
theorem I9(hR:HR J s w){e:TypeId}{size:Nat}{iW:Bool}{x cx:Value}{n:Nat}{news:List Value}(h:jK P s.h e size iW x=some (n,news))(hx:VR J x cx) :
  ∃us,fJ J.g news us/\∀d,Lm P { w with drawn:=d } iW e size n cx us:=by
 unfold jK at h;cases iW with
 |true=>
  simp only[cond_true]at h;split at h
  ·rename_i k m z by_ hz rN
   split at h
   ·rename_i rO
    obtain⟨c1,c2,c3,c4⟩:=rO;simp only[oi,pj]at h;obtain⟨rfl,rfl⟩:=h;obtain rfl:=(hx.aZ (fun a=>by simp)).int;obtain⟨I8,it,vX,Uq⟩:=fQ hz;obtain⟨it2,Dq,XR⟩:=pM rN
    rw[vX]at Dq;obtain rfl:=Option.some.inj Dq;exact⟨bE z.cells.toList m.toNat,lU (lS I8) _,fun d=>.inr ⟨rfl,k,m,z,it,rfl,c1,c2,rfl,vX,om,gq hz,c4,rfl⟩⟩
   ·cases h
  ·cases h
 |false=>
  simp only[cond_false]at h;split at h
  ·rename_i a m c
   split at h
   ·rename_i l hl
    simp only[oi,pj]at h;obtain⟨rfl,rfl⟩:=h;obtain⟨hs,L,c',hL,rfl,_⟩:=(hx.aZ (fun a=>by simp)).pJ (iS hl).1;obtain⟨l',h1,h2,h3⟩:=hR.read (a:=a) (L:=L) (by simp[dM.at,hs,hL]) (iS hl).2;have:=fun d=>run_loadCells_list (P:=P) { w with drawn:=d } ⟨L.b,L.o+a.off,none⟩ l' h3
    rw[h2]at this;exact⟨l',h1,fun d=>.inl ⟨rfl,by simp[Builtin.lenOf],by simp[Builtin.firstCells,this d]⟩⟩
   ·cases hb:(a.spot.isSome && Nat.beq m 0)with
    |false=>rw[hb]at h;simp at h
    |true=>
     rw[hb]at h;simp only[cond_true,oi,pj]at h;obtain⟨rfl,rfl⟩:=h;simp only[Bool.and_eq_true]at hb;rcases(hx.aZ (fun a=>by simp)).dV with ⟨hs,_⟩|⟨rfl,_,a',c',rfl,_⟩
     ·rw[hs]at hb;simp at hb
     ·exact⟨[],.nil _,fun d=>.inl ⟨rfl,by simp[Builtin.lenOf],by simp[Builtin.firstCells,loadCells,loadCellsFrom]⟩⟩
  ·rename_i m c
   cases hb:Nat.beq m 0 with
   |false=>rw[hb]at h;simp at h
   |true=>
    rw[hb]at h;simp only[cond_true,oi,pj]at h;obtain⟨rfl,rfl⟩:=h;obtain⟨rfl,rfl,rfl⟩:=(hx.aZ (fun a=>by simp)).fx;exact⟨[],.nil _,fun d=>.inl ⟨rfl,by simp[Builtin.lenOf],by simp[Builtin.firstCells]⟩⟩
  ·rename_i b
   simp only[oi,pj]at h;obtain⟨rfl,rfl⟩:=h;obtain rfl:=(hx.aZ (fun a=>by simp)).string;refine⟨_,fJ.flat (by simp only[List.all_map,List.all_eq_true];intro a _;rfl),fun d=>.inl ⟨rfl,by simp[Builtin.lenOf],?_⟩⟩;have e:b.extract 0 b.size=b:=by simp
   simp only[Builtin.firstCells,e,Sem.run_pure]
   congr 1
   apply Array.ext';simp
  ·cases h
theorem FT{Ja c:Nat}(h:c<Ja):Builtin.nextslicecap Ja c<=2*Ja+768:=by
 unfold Builtin.nextslicecap;split
 ·omega
 ·split
  ·omega
  ·have key:∀rounds c,c<=2*Ja+768->Builtin.growBy Ja rounds c<=2*Ja+768:=by
    intro rounds
    induction rounds with
    |zero=>intro c hc;simpa[Builtin.growBy]using hc
    |succ r ih=>
     intro c hc;simp only[Builtin.growBy];split
     ·exact hc
     ·exact ih _ om
   exact key 4 c om
theorem xI{n:Nat}(h:n<=1073741824):n<aS:=by unfold aS;omega
theorem Dt{e size n:Nat}{z:Value}(hz:(zeroValue e).run P w=.ok z w)(hl:z.cells.toList.length=size) :
  (if n*size=0 then(pure #[]:Sem (Array Value))else do pure (Builtin.zeroCells (<-zeroValue e).cells n)).run P w=.ok (bE z.cells.toList n).toArray w:=by
 by_cases h0:n*size=0
 ·rw[if_pos h0]
  have:bE z.cells.toList n=[]:=by apply List.length_eq_zero_iff.1;rw[gN,hl];exact h0
  rw[this];rfl
 ·rw[if_neg h0]
  simp only[Sem.run_bind,hz,Result.andThen_ok,Sem.run_pure]
  congr 1
  apply Array.ext';rw[jQ]
theorem mB{t xt ty e:TypeId}{x:Value}{base:Option Addr}{len c size:Nat}{xd:TypeDesc}{n:Nat}{us:List Value}
  (hu:P.underlying t=some (.slice e)) (HA:P.underlying xt=some xd) (hn:bY P e=some size) (hN:Lm P w (cZ (some xd)) e size n x us) (hH:len+n<=c) :
  (Builtin.append_ #[t,xt] ty #[.slice base len c,x]).run P w =
   ((match base with|some a=>storeCells (a.add (len*size)) us|none=>pure ():Sem Unit).run P w).andThen fun _ w'=>.ok (.slice base (len+n) c) w':=by
 unfold Builtin.append_;simp only[List.getElem?_toArray,List.getElem?_cons_zero,List.getElem?_cons_succ,Sem.run_bind,aL hu,Result.andThen_ok,cg hn,aL HA,Sem.run_pure];rcases hN with ⟨hz,h1,h2⟩|⟨hz,k,m,z,it,rfl,c1,c2,rfl,vX,c4,h3,h4,rfl⟩
 ·clear HA
  cases xd<;>first|(exfalso;simp[cZ]at hz;done)|skip
  all_goals
   simp only[Bool.false_eq_true,if_false,Bool.not_false,if_true,Sem.run_bind,h1,Result.andThen_ok,hH,h2];cases base with
   |none=>simp
   |some a=>simp
 ·have wl:IntKind.i64.wrap m=m:=wrap_small c1 c2
  have uE:¬(m*(it.bytes:Int)>2 ^ 48):=by
   have h1:m*(it.bytes:Int)<=1073741824*16384:=Int.mul_le_mul c2 om om om;have h2:(2:Int) ^ 48=281474976710656:=by decide
   omega
  obtain⟨k',rfl⟩:∃k,xd=.int k:=by cases xd<;>simp_all [cZ]
  simp only[if_true,Sem.run_bind,asInt,asIntOf,Sem.run_pure,Result.andThen_ok,wl];rw[Sem.run_ite,if_neg (show ¬m<0 by omega)];simp only[Sem.run_bind,Sem.run_pure,Result.andThen_ok,il vX];rw[Sem.run_ite,if_neg uE];simp only[Sem.run_bind,Sem.run_pure,Result.andThen_ok];rw[Sem.run_ite,if_pos hH];simp only[Bool.not_true,Bool.false_eq_true,if_false,Sem.run_bind,Dt h3 h4,Result.andThen_ok];cases base with
  |none=>simp
  |some a=>simp
theorem mC{t xt ty e:TypeId}{x:Value}{base:Option Addr}{len c size:Nat}{xd:TypeDesc}{n:Nat}{us cI:List Value}{it:TypeInfo}{z:Value}
  (hu:P.underlying t=some (.slice e)) (HA:P.underlying xt=some xd) (hn:bY P e=some size) (vX:P.info? e=some it) (rN:it.bytes<=16384) (hz:iv P e=some z)
  (hN:Lm P w (cZ (some xd)) e size n x us) (HB:Lm P { w with drawn:=w.drawn+1 } (cZ (some xd)) e size n x us)
  (hold:(Builtin.firstCells size len (.slice base len c)).run P { w with drawn:=w.drawn+1 }=.ok cI.toArray { w with drawn:=w.drawn+1 })
  (hH:c<len+n) (rP:len+n<=1073741824) :
  ∃newCap,len+n<=newCap/\(Builtin.append_ #[t,xt] ty #[.slice base len c,x]).run P w =
   .ok (.slice (some ⟨w.heap.size,0,none⟩) (len+n) newCap) (({ w with drawn:=w.drawn+1 }:World).alloc (.cells (cI.toArray++us.toArray++Builtin.zeroCells z.cells (newCap-(len+n))) e)):=by
 have Vf:¬len+n<=c:=om
 have Zc:IntKind.i64.max=9223372036854775807:=by decide
 have Ln:¬(((len+n:Nat):Int)>IntKind.i64.max):=by rw[Zc];omega
 have na:¬(Builtin.nextslicecap (len+n) c*it.bytes>2 ^ 48):=by
  have h1:=FT hH;have h2:Builtin.nextslicecap (len+n) c*it.bytes<=(2*1073741824+768)*16384:=Nat.mul_le_mul om rN
  have h3:(2:Nat) ^ 48=281474976710656:=by decide
  omega
 refine⟨(Question.appendCap (len+n) c e).cut (w.tape w.drawn (.appendCap (len+n) c e)),by simp[Question.cut],?_⟩;unfold Builtin.append_;simp only[List.getElem?_toArray,List.getElem?_cons_zero,List.getElem?_cons_succ,Sem.run_bind,aL hu,Result.andThen_ok,cg hn,aL HA,Sem.run_pure];rcases hN with ⟨Zd,h1,h2⟩|⟨Zd,k,m,z',it',rfl,c1,c2,rfl,Vg,c4,h3,h4,rfl⟩
 ·have hr:(Builtin.firstCells size n x).run P { w with drawn:=w.drawn+1 }=.ok us.toArray { w with drawn:=w.drawn+1 }:=by
   rcases HB with ⟨_,_,q⟩|⟨q,_⟩
   ·exact q
   ·rw[Zd]at q;cases q
  clear HA HB;cases xd<;>first|(exfalso;simp[cZ]at Zd;done)|skip
  all_goals
   simp only[Bool.false_eq_true,if_false,Bool.not_false,if_true,Sem.run_bind,h1,Result.andThen_ok,Vf,il vX,Ln,false_and,false_or,na,run_choose,Question.forced,run_askRoom,hold,hr,gq hz,newRow,run_newObj,Sem.run_pure];rfl
 ·have wl:IntKind.i64.wrap m=m:=wrap_small c1 c2
  rw[vX]at Vg;obtain rfl:=Option.some.inj Vg;have uE:¬(m*(it.bytes:Int)>2 ^ 48):=by
   have h1:m*(it.bytes:Int)<=1073741824*16384:=Int.mul_le_mul c2 om om om;have h2:(2:Int) ^ 48=281474976710656:=by decide
   omega
  have hz1:(zeroValue e).run P { w with drawn:=w.drawn+1 }=.ok z' { w with drawn:=w.drawn+1 }:=by
   rw[gq hz]at h3;obtain⟨rfl,_⟩:z=z'/\True:=by simpa using h3
   exact gq hz
  obtain⟨k',rfl⟩:∃k,xd=.int k:=by cases xd<;>simp_all [cZ]
  simp only[if_true,Sem.run_bind,asInt,asIntOf,Sem.run_pure,Result.andThen_ok,wl];rw[Sem.run_ite,if_neg (show ¬m<0 by omega)];simp only[Sem.run_bind,Sem.run_pure,Result.andThen_ok,il vX];rw[Sem.run_ite,if_neg uE];simp only[Sem.run_bind,Sem.run_pure,Result.andThen_ok];rw[Sem.run_ite,if_neg Vf];simp only[Sem.run_bind,Result.andThen_ok,il vX];rw[Sem.run_ite,if_neg (fun q=>Ln q.1)];simp only[Sem.run_bind,Result.andThen_ok,il vX,Sem.run_pure];rw[Sem.run_ite,if_neg na];simp only[Bool.not_true,Bool.false_eq_true,if_false,Sem.run_bind,Result.andThen_ok,run_choose,Question.forced,il vX,run_askRoom,hold,Dt hz1 h4,gq hz,newRow,run_newObj,Sem.run_pure];rfl
end Go.cV
namespace Go.cV
variable{P:Program}{w:World}{J:dM}{s:St}
theorem CR.head{g:Nat->Option Loc}{l us:List Value}{rest:Array Value}(h:fJ g l us):CR g l (us.toArray++rest) 0:=by
 intro i v hi;have dW:i<us.length:=by rw[<-h.1];exact(List.getElem?_eq_some_iff.1 hi).1
 refine⟨us[i],?_,h.2 i v _ hi (by simp[dW])⟩;rw[Nat.zero_add,Array.getElem?_append_left (by simpa using dW)];simp[dW]
theorem Jb{es:Nat}{cs:List Value}(h:cs.all aF=true):s.new false es cs=some (.pointer (some ⟨s.h.next,0,none⟩),{ s with h:=s.h.push es cs }):=by
 unfold St.new;rw[h];rfl
theorem qO(hR:HR J s w){size n len newCap:Nat}{e:TypeId}{cI news uo un:List Value}{z:Array Value}(hold:fJ J.g cI uo)(gS:fJ J.g news un)(fF:(cI++news).all aF=true)
  (ho:uo.length=len*size) (hu:un.length=n*size) (hz:z.size=size) (na:len+n<=newCap) (uq:len+n<=1073741824) :
  ∃J',Good J s w J' { s with h:=s.h.push size (cI++news) } (w.alloc (.cells (uo.toArray++un.toArray++Builtin.zeroCells z (newCap-(len+n))) e))/\(∀t L,J.l t=some L->J'.l t=some L) /\
   VG J'.g (.slice (some ⟨s.h.next,0,none⟩) (len+n) (az size (len+n))) (.slice (some ⟨w.heap.size,0,none⟩) (len+n) newCap)/\fG (s.h.next<=·) J.g J'.g/\(∀t L,J'.l t=some L->J.l t=some L):=by
 have Bw:CR J.g (cI++news) (uo.toArray++un.toArray++Builtin.zeroCells z (newCap-(len+n))) 0:=by
  have:=CR.head (rest:=Builtin.zeroCells z (newCap-(len+n))) (hold.append gS);simpa using this
 obtain⟨J',g1,g2,g3,g4,g6,ga,gb⟩:=hR.new (Jb fF) Bw e;obtain⟨_,g8⟩:=g6 rfl;refine⟨J',g1,g2,?_,fun k L hk=>(ga k L hk).imp (fun q=>q) (fun q=>om),fun t L ht=>(gb t L ht).elim (fun q=>q) (fun q=>by cases q.1)⟩;have uB:(uo.toArray++un.toArray++Builtin.zeroCells z (newCap-(len+n))).size=newCap*size:=by
  have h1:=gN z.toList (newCap-(len+n));rw[<-jQ]at h1;simp only[Array.length_toList,hz]at h1;simp only[Array.size_append,List.size_toArray,ho,hu,h1];rw[<-Nat.add_mul,<-Nat.add_mul]
  congr 1
  omega
 rw[uB]at g8;have q:=VG.gZ (g:=J'.g) ⟨s.h.next,0,none⟩ ⟨w.heap.size,0,newCap*size,size⟩ (len+n) (len+n) newCap rfl g8 na (xI uq) (by simp);simpa using q
theorem Lo(hR:HR J s w){size n len c' es:Nat}{a:Addr}{L:Loc}{KL cI news un:List Value}(hL:J.g a.block=some L)(xJ:s.h.m.get a.block=some (.live true es KL))(uA:es=size)
  (hold:ke KL a.off (len*size)=some cI) (gS:fJ J.g news un) (fF:news.all aF=true) (hu:un.length=n*size) (na:len+n<=c') (Jc:L.o+a.off+c'*L.es<=L.AD) (uq:len+n<=1073741824) :
  ∃cs e,w.heap[L.b]?=some (.cells cs e (0,0))/\L.o+a.off+len*size+un.length<=cs.size/\(∀v∈un,v.oneCell'=true) /\
  ∃J',Good J s w J' { s with h:=(s.h.kill a.block).push size (cI++news) } (w.setRow L.b (iR cs (L.o+a.off+len*size) un))/\(∀t L,J.l t=some L->J'.l t=some L) /\
   VG J'.g (.slice (some ⟨s.h.next,0,none⟩) (len+n) (az size (len+n))) (.slice (some ⟨L.b,L.o+a.off,none⟩) (len+n) c')/\fG (s.h.next<=·) J.g J'.g/\(∀t L,J'.l t=some L->J.l t=some L):=by
 subst uA;obtain⟨uA,cs,e,fr,hw,Bw,vj⟩:=hR.cK _ _ _ hL xJ;obtain rfl:=vj rfl;obtain⟨o2,pN,HC⟩:=hR.dm _ _ hL;rw[hw]at pN;obtain rfl:=Option.some.inj pN;have HC:=HC _ _ _ rfl;rw[uA]at Jc;have hH:L.o+a.off+len*es+un.length<=cs.size:=by
  rw[hu,HC];have:len*es+n*es<=c'*es:=by rw[<-Nat.add_mul];exact Nat.mul_le_mul_right _ na
  omega
 have o9:∀v∈un,v.oneCell'=true:=by
  intro v YZ;obtain⟨i,hi⟩:=List.mem_iff_getElem?.1 YZ;have dW:i<news.length:=by rw[gS.1];exact(List.getElem?_eq_some_iff.1 hi).1
  simp only[List.all_eq_true]at fF;exact(gS.2 i news[i] v (by simp[dW]) hi).Hv (fF _ (List.getElem_mem dW))
 refine⟨cs,e,hw,hH,o9,?_⟩
 let L':Loc:=⟨L.b,L.o+a.off,L.AD,es⟩
 let g':Nat->Option Loc:=fun id=>if id=s.h.next then some L' else J.g id
 have hblt:a.block<s.h.next:=hR.cU _ _ hL;have vW:∀id L1,J.g id=some L1->g' id=some L1:=fun id L1 h1=>by
  have:=hR.cU _ _ h1;simp only[g',show ¬id=s.h.next by omega,if_false,h1]
 have b8:∀id L1,g' id=some L1->(id=s.h.next/\L1=L')\/(id≠s.h.next/\J.g id=some L1):=fun id L1 h1=>by
  by_cases mq:id=s.h.next
  ·left;simp only[g',mq,if_true,oi]at h1;exact⟨mq,h1.symm⟩
  ·right;simp only[g',mq,if_false]at h1;exact⟨mq,h1⟩
 let vk:=iR cs (L.o+a.off+len*es) un
 have Ze:vk.size=cs.size:=pL hH;have Bz:(w.setRow L.b vk).heap[L.b]?=some (.cells vk e (0,0)):=setRow_heap w L.b cs vk e _ hw;have K5:CR g' (cI++news) vk (L.o+a.off):=by
  obtain⟨r1,r2⟩:=nT hold;intro i v hi;by_cases h1:i<cI.length
  ·rw[List.getElem?_append_left h1,r2 i om]at hi
   obtain⟨c,hc,hg⟩:=Bw _ _ hi;refine⟨c,?_,hg.mono vW⟩;rw[lQ hH,if_neg om,<-hc]
   congr 1;omega
  ·rw[List.getElem?_append_right om]at hi
   have dW:i-cI.length<un.length:=by rw[<-gS.1];exact(List.getElem?_eq_some_iff.1 hi).1
   refine⟨un[i-cI.length],?_,(gS.2 _ _ _ hi (by simp[dW])).mono vW⟩;rw[lQ hH,if_pos ⟨om,om⟩];rw[show L.o+a.off+i-(L.o+a.off+len*es)=i-cI.length by omega];simp[dW]
 have Jd:∀id b1,((s.h.kill a.block).push es (cI++news)).m.get id=some b1->b1.alive=true->(id=s.h.next/\b1=.live true es (cI++news))\/(id≠s.h.next/\id≠a.block/\s.h.m.get id=some b1):=by
  intro id b1 h K6;simp only[af.push,af.kill,cW.bO]at h;by_cases h1:s.h.next=id
  ·left;simp only[h1,if_true,oi]at h;exact⟨h1.symm,h.symm⟩
  ·right
   simp only[h1,if_false]at h;by_cases h2:a.block=id
   ·simp only[h2,if_true,oi]at h;subst h;cases K6
   ·simp only[h2,if_false]at h;exact⟨Ne.symm h1,Ne.symm h2,h⟩
 refine⟨⟨g',J.l⟩,?_,fun t L h=>h,?_,fun k L1 hk=>(b8 k L1 hk).elim (fun q=>.inr om) (fun q=>.inl q.2),fun t L h=>h⟩
 ·refine { hr:=?_,mono:=vW,next:=by simp[af.push,af.kill],low:=Nat.min_le_left _ _,size:=by simp,os:=rfl,tape:=rfl,output:=rfl,fresh:=?_,cL:=fun t L h1=>.inr ⟨t,L,h1,rfl⟩,frame:=?_ }
  ·refine { cU:=?_,dm:=?_,cK:=?_,dn:=?_,fe:=hR.fe,dX:=?_,ff:=hR.ff,sep:=?_ }
   ·intro id L1 h1
    rcases b8 id L1 h1 with ⟨rfl,_⟩|⟨_,h1⟩
    ·simp[af.push,af.kill]
    ·have:=hR.cU _ _ h1;simp[af.push,af.kill];omega
   ·intro id L1 h1
    rcases b8 id L1 h1 with ⟨rfl,rfl⟩|⟨_,h1⟩
    ·exact⟨.cells vk e (0,0),Bz,fun c9 e9 f9 q=>by cases q;rw[Ze,HC]⟩
    ·by_cases hb:L1.b=L.b
     ·obtain⟨o2,hx,hy⟩:=hR.dm _ _ h1
      rw[hb,hw]at hx;obtain rfl:=Option.some.inj hx;have:=hy _ _ _ rfl;exact⟨.cells vk e (0,0),by rw[hb];exact Bz,fun c9 e9 f9 q=>by cases q;omega⟩
     ·rw[setRow_other w _ _ _ hb];exact hR.dm _ _ h1
   ·intro id L1 b1 h1 h2
    cases K6:b1.alive with
    |false=>cases b1<;>first|trivial|(simp[C7.alive]at K6)
    |true=>
    rcases Jd _ _ h2 K6 with ⟨rfl,rfl⟩|⟨eO,So,h2⟩
    ·rcases b8 _ L1 h1 with ⟨_,rfl⟩|⟨eO,_⟩
     ·exact⟨rfl,vk,e,(0,0),Bz,K5,fun _=>rfl⟩
     ·exact absurd rfl eO
    ·rcases b8 id L1 h1 with ⟨rfl,_⟩|⟨_,h1⟩
     ·exact absurd rfl eO
     ·have hb:L1.b≠L.b:=fun hb=>So (hR.dn _ _ _ _ _ _ h1 hL h2 xJ K6 rfl hb)
      rw[setRow_other w _ _ _ hb];exact(hR.cK _ _ _ h1 h2).mono vW
   ·intro id pF L1 L2 b1 b2 h1 h2 h3 h4 zG Dh hb
    rcases Jd _ _ h3 zG with ⟨rfl,_⟩|⟨eO,So,h3⟩<;>rcases Jd _ _ h4 Dh with ⟨rfl,_⟩|⟨FF,Vh,h4⟩
    ·rfl
    ·rcases b8 _ L1 h1 with ⟨_,rfl⟩|⟨hx,_⟩
     ·rcases b8 _ L2 h2 with ⟨hx,_⟩|⟨_,h2⟩
      ·exact absurd hx FF
      ·exact absurd (hR.dn _ _ _ _ _ _ h2 hL h4 xJ Dh rfl hb.symm) Vh
     ·exact absurd rfl hx
    ·rcases b8 _ L2 h2 with ⟨_,rfl⟩|⟨hx,_⟩
     ·rcases b8 _ L1 h1 with ⟨hx,_⟩|⟨_,h1⟩
      ·exact absurd hx eO
      ·exact absurd (hR.dn _ _ _ _ _ _ h1 hL h3 xJ zG rfl hb) So
     ·exact absurd rfl hx
    ·rcases b8 _ L1 h1 with ⟨hx,_⟩|⟨_,h1⟩
     ·exact absurd hx eO
     ·rcases b8 _ L2 h2 with ⟨hx,_⟩|⟨_,h2⟩
      ·exact absurd hx FF
      ·exact hR.dn _ _ _ _ _ _ h1 h2 h3 h4 zG Dh hb
   ·intro t L1 h1
    obtain⟨c9,e9,a1,a2⟩:=hR.dX _ _ h1;have hb:L1.b≠L.b:=fun hb=>hR.sep _ _ _ _ hL h1 hb.symm
    exact⟨c9,e9,by rw[setRow_other w _ _ _ hb];exact a1,fun c hc=>(a2 c hc).mono vW⟩
   ·intro id t L1 L2 h1 h2 hb
    rcases b8 id L1 h1 with ⟨rfl,rfl⟩|⟨_,h1⟩
    ·exact hR.sep _ _ _ _ hL h2 hb
    ·exact hR.sep _ _ _ _ h1 h2 hb
  ·intro id L1 h1 h2
   rcases b8 id L1 h1 with ⟨rfl,rfl⟩|⟨_,h1⟩
   ·exact .inr ⟨a.block,L,hL,rfl,Nat.min_le_right _ _⟩
   ·rw[h2]at h1;cases h1
  ·intro b hb hg hl
   have:b≠L.b:=fun e=>by
    have h1:=hg a.block L hL e.symm;have h2:Nat.min s.h.low a.block<=a.block:=Nat.min_le_right _ _;simp only[af.push,af.kill]at h1;omega
   exact setRow_other w _ _ _ this
 ·have q:=VG.gZ (g:=g') ⟨s.h.next,0,none⟩ L' (len+n) (len+n) c' rfl (by simp[g']) na (xI uq) (by simpa[L',uA]using Jc)
  simpa[L']using q
def dJ(P:Program)(J:dM)(s:St)(w:World)(x:Sem Value)(v:Value)(s':St)(R Rl:Nat->Prop):Prop:=
 ∃c w' J',x.run P w=.ok c w'/\Good J s w J' s' w'/\(∀t L,J.l t=some L->J'.l t=some L)/\VR J' v c/\s'.env=s.env/\fG R J.g J'.g/\fG Rl J.l J'.l
theorem dJ.still{x:Sem Value}{v c:Value}{R Rl:Nat->Prop}(hR:HR J s w)(h:x.run P w=.ok c w)(hv:VR J v c):dJ P J s w x v s R Rl:=⟨c,w,J,h,.refl hR,fun _ _ h=>h,hv,rfl,.refl _ _,.refl _ _⟩
theorem bj{r:Option (Value×af)}{v:Value}{s':St}(h:bT s r=some (v,s')):∃h',r=some (v,h')/\s' = { s with h:=h' }:=by
 unfold bT at h;split at h
 ·simp only[oi,pj]at h
  obtain⟨rfl,rfl⟩:=h;exact⟨_,rfl,rfl⟩
 ·cases h
theorem Du(hR:HR J s w){ts:List TypeId}{args aU:List Value}{ty:TypeId}{v:Value}{s':St}(h0:bT s (cQ P s.h ts args)=some (v,s'))(ha:args.length=aU.length/\∀(i:Nat) (a b:Value),args[i]?=some a->aU[i]?=some b->VR J a b) :
  dJ P J s w (Builtin.append_ ts.toArray ty aU.toArray) v s' (s.h.next<=·) (fun _=>False):=by
 obtain⟨sP,h,rfl⟩:=bj h0;clear h0;unfold cQ at h;split at h
 ·rename_i t xt base len c x
  obtain⟨c0,c1,rfl⟩:∃c0 c1,aU=[c0,c1]:=by
   have:=ha.1
   match aU,this with
   | [c0,c1],_=>exact⟨c0,c1,rfl⟩
  have hs:=ha.2 0 _ _ rfl rfl;have hx:=ha.2 1 _ _ rfl rfl;have HD:=hs.aZ (fun a=>by simp);split at h
  ·rename_i e hu
   split at h
   ·rename_i size by_ xd z hn rN HA hz
    split at h
    ·rename_i n news gS
     obtain⟨us,Q3,Ur⟩:=I9 (P:=P) hR gS hx;have hN:Lm P w (cZ (some xd)) e size n c1 us:=Ur w.drawn;have HB:=Ur (w.drawn+1);obtain⟨I8,it,vX,Uq⟩:=fQ hz;obtain⟨it2,Dq,XR⟩:=pM rN
     rw[vX]at Dq;obtain rfl:=Option.some.inj Dq;cases xK:Nat.ble (len+n) (cO c)with
     |true=>
      rw[xK]at h;simp only[cond_true]at h;have hH:=Nat.le_of_ble_eq_true xK;cases base with
      |none=>
       dsimp only at h;simp only[oi,pj]at h;obtain⟨rfl,rfl⟩:=h;obtain⟨rfl,rfl,rfl⟩:=HD.fx;rw[fu gp]at hH;have xh:n=0:=om
       subst xh;refine dJ.still hR (c:=.slice none 0 0) ?_ (.c7 _ _ (.flat _ rfl));have:=mB (P:=P) (ty:=ty) (base:=none) (len:=0) (c:=0) hu HA hn hN om;simpa using this
      |some a=>
       dsimp only at h;split at h
       ·rename_i s2 hw
        simp only[oi,pj]at h;obtain⟨rfl,rfl⟩:=h;obtain⟨jH,L,c',hL,rfl,q⟩:=HD.pJ (by have:=(iY hw).1;simpa[gi]using this);have OM:cO c<=c':=by
         obtain⟨_,_,e9,q9⟩:=HD.iJ;simp only[Value.slice.injEq,true_and]at e9;rw[e9.2];exact q9
        obtain⟨w',e1,e2,e3,_⟩:=hR.write (P:=P) (a:=gi a (len*size)) (L:=L) (by simp[dM.at,gi,jH,hL]) (iY hw).2 Q3;refine⟨.slice (some ⟨L.b,L.o+a.off,none⟩) (len+n) c',w',J,?_,e2,fun _ _ h=>h,?_,e3,.refl _ _,.refl _ _⟩
        ·have:=mB (P:=P) (ty:=ty) (base:=some ⟨L.b,L.o+a.off,none⟩) (len:=len) (c:=c') hu HA hn hN om
         rw[show([t,xt]:List TypeId).toArray=#[t,xt]from rfl,show([Value.slice (some ⟨L.b,L.o+a.off,none⟩) len c',c1]:List Value).toArray=#[.slice (some ⟨L.b,L.o+a.off,none⟩) len c',c1]from rfl,this];simp only[ju];have Pd:(storeCells ⟨L.b,L.o+a.off+len*size,none⟩ us).run P w=.ok () w':=by simpa[gi,Nat.add_assoc]using e1
         rw[Pd];rfl
        ·rcases q with ⟨q,rfl⟩|⟨m,rfl,q1,q2,q3⟩
         ·exact .c7 _ _ (.gP a L _ _ jH hL q)
         ·exact .c7 _ _ (.gZ a L _ _ _ jH hL q2 q1 q3)
       ·cases hb:(a.spot.isSome && Nat.beq n 0 && news.isEmpty)with
        |false=>rw[hb]at h;simp at h
        |true=>
         rw[hb]at h;simp only[cond_true,oi,pj]at h;obtain⟨rfl,rfl⟩:=h;simp only[Bool.and_eq_true,List.isEmpty_iff]at hb;obtain⟨⟨hb,vZ⟩,rfl⟩:=hb;have xh:=Nat.eq_of_beq_eq_true vZ;subst xh;have Zf:=HD;rcases HD.dV with ⟨hs,_⟩|⟨rfl,⟨xs,hsx⟩,a',c',rfl,_⟩
         ·rw[hs]at hb;simp at hb
         ·refine dJ.still hR (c:=.slice (some a') 0 c') ?_ (.c7 _ _ Zf)
          obtain rfl:=Q3.iX;have:=mB (P:=P) (ty:=ty) (base:=some a') (len:=0) (c:=c') hu HA hn hN om;simpa[storeCells]using this
     |false=>
      rw[xK]at h;simp only[cond_false]at h;have hH:cO c<len+n:=by
       rcases Nat.lt_or_ge (cO c) (len+n)with q|q
       ·exact q
       ·rw[bz q]at xK;cases xK
      cases rO:(Nat.ble (len+n) 1073741824 && Nat.ble by_ 16384 && news.all aF && Nat.beq z.cells.toList.length size && Nat.beq news.length (n*size))with
      |false=>rw[rO]at h;simp at h
      |true=>
       rw[rO]at h;simp only[cond_true]at h;simp only[Bool.and_eq_true]at rO;obtain⟨⟨⟨⟨d1,d2⟩,d3⟩,d4⟩,d5⟩:=rO;have rP:=Nat.le_of_ble_eq_true d1;have nV:=Nat.le_of_ble_eq_true d2;have XS:=Nat.eq_of_beq_eq_true d4;have ta:=Nat.eq_of_beq_eq_true d5;have Vi:us.length=n*size:=by rw[<-Q3.1,ta]
       cases base with
       |none=>
        obtain⟨rfl,rfl,rfl⟩:=HD.fx;simp only[Nat.beq_refl,cond_true,oi,pj]at h;obtain⟨rfl,rfl⟩:=h;rw[fu gp]at hH;obtain⟨newCap,na,nf⟩:=mC (P:=P) (ty:=ty) (base:=none) (len:=0) (c:=0) (cI:=[]) hu HA hn vX om hz hN HB (by simp[Builtin.firstCells]) hH rP;obtain⟨J',f1,f2,f3,fa,fb⟩:=qO (hR.drew (d:=w.drawn+1)) (size:=size) (n:=n) (len:=0) (newCap:=newCap) (e:=e) (cI:=[]) (uo:=[]) (z:=z.cells) (.nil _) Q3 (by simpa using d3) (by simp) Vi (by simpa using XS) na rP;exact⟨_,_,J',nf,(Good.drew hR).trans f1,f2,.c7 _ _ f3,rfl,fa,fun t L h=>.inl (fb t L h)⟩
       |some a=>
        dsimp only at h;split at h
        ·rename_i cI Pe Vj
         obtain⟨jH,L,c',hL,rfl,q⟩:=HD.pJ Pe;have hold:=(iS Vj).2;have hLa:J.at a=some L:=by simp[dM.at,jH,hL]
         obtain⟨uo,o1,o2,o3⟩:=hR.read hLa hold;have HE:∀c9,(Builtin.firstCells size len (.slice (some ⟨L.b,L.o+a.off,none⟩) len c9)).run P { w with drawn:=w.drawn+1 }=.ok uo.toArray { w with drawn:=w.drawn+1 }:=fun c9=>by
          have:=run_loadCells_list (P:=P) { w with drawn:=w.drawn+1 } ⟨L.b,L.o+a.off,none⟩ uo o3;rw[o2]at this;simp only[Builtin.firstCells];exact this
         have Vk:∃KL Vl Ss,s.h.m.get a.block=some (.live Vl Ss KL)/\ke KL a.off (len*size)=some cI:=by
          simp only[St.read,St.cells?,jH]at hold;split at hold
          ·rename_i KL Zg
           obtain⟨Vl,Ss,O8⟩:=live_of_cells? Zg;exact⟨KL,Vl,Ss,O8,hold⟩
          ·cases hold
         obtain⟨KL,Vl,Ss,O8,Lp⟩:=Vk;cases hex:Nat.blt c aS with
         |true=>
          rw[hex]at h;simp only[cond_true]at h;cases Su:cI.all aF with
          |false=>rw[Su]at h;simp at h
          |true=>
          rw[Su]at h;simp only[cond_true,oi,pj]at h;obtain⟨rfl,rfl⟩:=h;have wv:c<aS:=Nat.le_of_ble_eq_true hex;have Fo:c'=c:=by
           rcases q with ⟨_,rfl⟩|⟨m,rfl,_⟩
           ·rfl
           ·have:=dB L.es m;omega
          subst Fo;rw[fu wv]at hH;obtain⟨newCap,na,nf⟩:=mC (P:=P) (ty:=ty) (base:=some ⟨L.b,L.o+a.off,none⟩) (len:=len) (c:=c') (cI:=uo) hu HA hn vX om hz hN HB (HE c') hH rP;obtain⟨J',f1,f2,f3,fa,fb⟩:=qO (hR.drew (d:=w.drawn+1)) (size:=size) (n:=n) (len:=len) (newCap:=newCap) (e:=e) (z:=z.cells) o1 Q3 (by rw[List.all_append,Su,d3];rfl) o2 Vi (by simpa using XS) na rP;exact⟨_,_,J',nf,(Good.drew hR).trans f1,f2,.c7 _ _ f3,rfl,fa,fun t L h=>.inl (fb t L h)⟩
         |false=>
          rw[hex]at h;simp only[cond_false]at h;have wv:aS<=c:=by
           rcases Nat.lt_or_ge c aS with q|q
           ·rw[eE q]at hex;cases hex
           ·exact q
          cases Su:cI.all aF with
          |false=>rw[Su]at h;simp at h
          |true=>
          rw[Su]at h;simp only[cond_true]at h;split at h
          ·rename_i es Sj xJ
           cases uA:Nat.beq es size with
           |false=>rw[uA]at h;simp at h
           |true=>
            rw[uA]at h;simp only[cond_true,oi,pj]at h;obtain⟨rfl,rfl⟩:=h;rw[O8]at xJ;obtain⟨rfl,rfl,rfl⟩:Vl=true/\Ss=es/\KL=Sj:=by simpa using xJ
            rcases q with ⟨q,_⟩|⟨m,rfl,q1,q2,q3⟩
            ·omega
            ·rw[cA q1]at hH
             by_cases Dw:len+n<=c'
             ·obtain⟨cs,e9,k1,k2,k3,J',k4,k5,k6,ka,kb⟩:=Lo hR hL O8 (Nat.eq_of_beq_eq_true uA) Lp Q3 d3 Vi Dw q3 rP
              refine⟨_,_,J',?_,k4,k5,.c7 _ _ k6,rfl,ka,fun t L h=>.inl (kb t L h)⟩;have:=mB (P:=P) (ty:=ty) (base:=some ⟨L.b,L.o+a.off,none⟩) (len:=len) (c:=c') hu HA hn hN Dw;rw[show([t,xt]:List TypeId).toArray=#[t,xt]from rfl,show([Value.slice (some ⟨L.b,L.o+a.off,none⟩) len c',c1]:List Value).toArray=#[.slice (some ⟨L.b,L.o+a.off,none⟩) len c',c1]from rfl,this];simp only[ju];have Pd:=run_storeCells_at (P:=P) L.b (L.o+a.off+len*size) e9 us 0 cs w k1 (by simpa using k2) k3;simp only[Nat.add_zero]at Pd;rw[Pd];rfl
             ·obtain⟨newCap,na,nf⟩:=mC (P:=P) (ty:=ty) (base:=some ⟨L.b,L.o+a.off,none⟩) (len:=len) (c:=c') (cI:=uo) hu HA hn vX om hz hN HB (HE c') om rP
              have hk:=Good.kill hR (hR.cU _ _ hL);obtain⟨J',f1,f2,f3,fa,fb⟩:=qO (hk.hr.drew (d:=w.drawn+1)) (size:=size) (n:=n) (len:=len) (newCap:=newCap) (e:=e) (z:=z.cells) o1 Q3 (by rw[List.all_append,Su,d3];rfl) o2 Vi (by simpa using XS) na rP;exact⟨_,_,J',nf,(hk.trans (Good.drew hk.hr)).trans f1,f2,.c7 _ _ f3,rfl,fa,fun t L h=>.inl (fb t L h)⟩
          ·cases h
        ·rename_i xs Pe
         cases uu:Nat.beq c 0 with
         |false=>rw[uu]at h;simp at h
         |true=>
         rw[uu]at h;simp only[cond_true,oi,pj]at h;obtain⟨rfl,rfl⟩:=h;have uu:=Nat.eq_of_beq_eq_true uu;rcases HD.dV with ⟨hs,_⟩|⟨rfl,_,a',c',rfl,hk⟩
         ·rw[hs]at Pe;cases Pe
         ·obtain⟨rfl,rfl⟩:c=0/\c'=0:=by
           rcases hk with q|q
           ·exact q
           ·have:=gp;omega
          rw[fu gp]at hH;obtain⟨newCap,na,nf⟩:=mC (P:=P) (ty:=ty) (base:=some a') (len:=0) (c:=0) (cI:=[]) hu HA hn vX om hz hN HB (by simp[Builtin.firstCells,loadCells,loadCellsFrom]) hH rP;obtain⟨J',f1,f2,f3,fa,fb⟩:=qO (hR.drew (d:=w.drawn+1)) (size:=size) (n:=n) (len:=0) (newCap:=newCap) (e:=e) (cI:=[]) (uo:=[]) (z:=z.cells) (.nil _) Q3 (by simpa using d3) (by simp) Vi (by simpa using XS) na rP;exact⟨_,_,J',nf,(Good.drew hR).trans f1,f2,.c7 _ _ f3,rfl,fa,fun t L h=>.inl (fb t L h)⟩
        ·cases h
    ·cases h
   ·cases h
  ·cases h
 ·cases h
theorem Je(hR:HR J s w){ts:List TypeId}{args aU:List Value}{ty:TypeId}{v:Value}{s':St}(h0:bT s (sU P s.h ts args)=some (v,s'))(ha:args.length=aU.length/\∀(i:Nat) (a b:Value),args[i]?=some a->aU[i]?=some b->VR J a b) :
  dJ P J s w (Builtin.copy_ ts.toArray ty aU.toArray) v s' (s.h.next<=·) (fun _=>False):=by
 obtain⟨sP,h,rfl⟩:=bj h0;clear h0;unfold sU at h;split at h
 ·rename_i t xt base len c x
  obtain⟨c0,c1,rfl⟩:∃c0 c1,aU=[c0,c1]:=by
   have:=ha.1
   match aU,this with
   | [c0,c1],_=>exact⟨c0,c1,rfl⟩
  have hs:=ha.2 0 _ _ rfl rfl;have hx:=ha.2 1 _ _ rfl rfl;have HD:=hs.aZ (fun a=>by simp);split at h
  ·rename_i e hu
   split at h
   ·rename_i size hn
    split at h
    ·rename_i b n cb
     split at h
     ·rename_i l hl
      obtain⟨Vm,Lb,cb',Zh,rfl,_⟩:=(hx.aZ (fun a=>by simp)).pJ (iS hl).1;obtain⟨l',r1,r2,r3⟩:=hR.read (a:=b) (L:=Lb) (by simp[dM.at,Vm,Zh]) (iS hl).2;have Lp:=run_loadCells_list (P:=P) w ⟨Lb.b,Lb.o+b.off,none⟩ l' r3;rw[r2]at Lp;cases base with
      |none=>
       dsimp only at h;simp only[oi,pj]at h;obtain⟨rfl,rfl⟩:=h;obtain⟨rfl,rfl,rfl⟩:=HD.fx;refine dJ.still hR (c:=.int .i64 (Nat.min n 0:Nat)) ?_ (.c7 _ _ (.flat _ rfl));have Zi:(loadCells ⟨Lb.b,Lb.o+b.off,none⟩ (n.min 0*size)).run P w=.ok l'.toArray w:=Lp;simp only[Builtin.copy_,List.getElem?_toArray,List.getElem?_cons_zero,List.getElem?_cons_succ,Sem.run_bind,aL hu,Result.andThen_ok,Builtin.lenOf,Sem.run_pure,cg hn,Builtin.firstCells,Zi,goInt]
      |some a=>
       dsimp only at h;split at h
       ·rename_i s2 hw
        simp only[oi,pj]at h;obtain⟨rfl,rfl⟩:=h;obtain⟨jH,L,c',hL,rfl,_⟩:=HD.pJ (iY hw).1;obtain⟨w',e1,e2,e3,_⟩:=hR.write (P:=P) (a:=a) (L:=L) (by simp[dM.at,jH,hL]) (iY hw).2 r1;refine⟨.int .i64 (Nat.min n len:Nat),w',J,?_,e2,fun _ _ h=>h,.c7 _ _ (.flat _ rfl),e3,.refl _ _,.refl _ _⟩;simp only[Builtin.copy_,List.getElem?_toArray,List.getElem?_cons_zero,List.getElem?_cons_succ,Sem.run_bind,aL hu,Result.andThen_ok,Builtin.lenOf,Sem.run_pure,cg hn,Builtin.firstCells,Lp,goInt,e1]
       ·cases hb:a.spot.isSome with
        |false=>rw[hb]at h;simp at h
        |true=>
         rw[hb]at h;simp only[cond_true,oi,pj]at h;obtain⟨rfl,rfl⟩:=h;rcases HD.dV with ⟨hs,_⟩|⟨rfl,_,a',c',rfl,_⟩
         ·rw[hs]at hb;simp at hb
         ·refine dJ.still hR (c:=.int .i64 0) ?_ (.c7 _ _ (.flat _ rfl))
          have h0:n.min 0=0:=Nat.min_zero _;simp[Builtin.copy_,aL hu,Builtin.lenOf,cg hn,Builtin.firstCells,goInt,h0,loadCells,loadCellsFrom,storeCells]
     ·cases hb:(b.spot.isSome && Nat.beq n 0)with
      |false=>rw[hb]at h;simp at h
      |true=>
       rw[hb]at h;simp only[cond_true,oi,pj]at h;obtain⟨rfl,rfl⟩:=h;simp only[Bool.and_eq_true]at hb;rcases(hx.aZ (fun a=>by simp)).dV with ⟨hs,_⟩|⟨rfl,_,a',c',rfl,_⟩
       ·rw[hs]at hb;simp at hb
       ·obtain⟨a2,c2,rfl,_⟩:=HD.iJ
        refine dJ.still hR (c:=.int .i64 0) ?_ (.c7 _ _ (.flat _ rfl));have h0:Nat.min 0 len=0:=Nat.zero_min _;cases a2 with
        |none=>simp[Builtin.copy_,aL hu,Builtin.lenOf,cg hn,Builtin.firstCells,goInt,h0,loadCells,loadCellsFrom,storeCells]
        |some a=>simp[Builtin.copy_,aL hu,Builtin.lenOf,cg hn,Builtin.firstCells,goInt,h0,loadCells,loadCellsFrom,storeCells]
    ·rename_i n cb
     cases hb:Nat.beq n 0 with
     |false=>rw[hb]at h;simp at h
     |true=>
      rw[hb]at h;simp only[cond_true,oi,pj]at h;obtain⟨rfl,rfl⟩:=h;obtain⟨rfl,rfl,rfl⟩:=(hx.aZ (fun a=>by simp)).fx;obtain⟨a',c',rfl,_⟩:=HD.iJ;refine dJ.still hR (c:=.int .i64 0) ?_ (.c7 _ _ (.flat _ rfl));simp only[Builtin.copy_,List.getElem?_toArray,List.getElem?_cons_zero,List.getElem?_cons_succ,Sem.run_bind,aL hu,Result.andThen_ok,Builtin.lenOf,Sem.run_pure,cg hn,Builtin.firstCells,goInt];have h0:Nat.min 0 len=0:=Nat.zero_min _;cases a' with
      |none=>simp[h0]
      |some a=>simp[h0,storeCells]
    ·cases h
   ·cases h
  ·cases h
 ·cases h
theorem HR.gW(h:HR J s w){b:C7}{o:Obj}(ho:∀cs e fr,o≠.cells cs e fr)
  (hb:∀g',(∀id L,J.g id=some L->g' id=some L)->BR g' b ⟨w.heap.size,0,0,0⟩ (some o)) :
  ∃J',Good J s w J' { s with h:=s.h.gW b } (w.alloc o)/\J'.l=J.l/\J'.g s.h.next=some ⟨w.heap.size,0,0,0⟩/\fG (s.h.next<=·) J.g J'.g:=by
 have hJ:J.g s.h.next=none:=by
  cases hx:J.g s.h.next with
  |none=>rfl
  |some L=>have:=h.cU _ _ hx;omega
 let L:Loc:=⟨w.heap.size,0,0,0⟩
 let g':Nat->Option Loc:=fun k=>if k=s.h.next then some L else J.g k
 have vW:∀k L1,J.g k=some L1->g' k=some L1:=fun k L1 h1=>by
  have eO:¬k=s.h.next:=fun e=>by rw[e,hJ]at h1;cases h1
  simp only[g',eO,if_false,h1]
 have b8:∀k L1,g' k=some L1->(k=s.h.next/\L1=L)\/(k≠s.h.next/\J.g k=some L1):=fun k L1 h1=>by
  by_cases hk:k=s.h.next
  ·left;simp only[g',hk,if_true,oi]at h1;exact⟨hk,h1.symm⟩
  ·right;simp only[g',hk,if_false]at h1;exact⟨hk,h1⟩
 have pe:(w.alloc o).heap[w.heap.size]?=some o:=by show(w.heap.push _)[w.heap.size]?=_;simp
 have hold:∀k,k<w.heap.size->(w.alloc o).heap[k]?=w.heap[k]?:=fun k hk=>by show(w.heap.push _)[k]?=_;rw[Array.getElem?_push,if_neg om]
 have U9:(w.alloc o).heap.size=w.heap.size+1:=by show(w.heap.push _).size=_;simp
 refine⟨⟨g',J.l⟩,?_,rfl,by simp[g',L],fun k L1 hk=>(b8 k L1 hk).elim (fun q=>.inr om) (fun q=>.inl q.2)⟩;refine { hr:=?_,mono:=vW,next:=by simp[af.gW],low:=Nat.le_refl _,size:=om,os:=rfl,tape:=rfl,output:=rfl,fresh:=?_,cL:=fun t L h1=>.inr ⟨t,L,h1,rfl⟩,frame:=fun b hb _ _=>hold b hb }
 ·refine { cU:=?_,dm:=?_,cK:=?_,dn:=?_,fe:=h.fe,dX:=?_,ff:=h.ff,sep:=?_ }
  ·intro k L1 h1
   rcases b8 k L1 h1 with ⟨rfl,_⟩|⟨_,h1⟩
   ·show s.h.next<s.h.next+1;omega
   ·have:=h.cU _ _ h1;show k<s.h.next+1;omega
  ·intro k L1 h1
   rcases b8 k L1 h1 with ⟨rfl,rfl⟩|⟨_,h1⟩
   ·exact⟨_,pe,fun c9 e9 f9 q=>absurd q (ho _ _ _)⟩
   ·rw[hold _ (h.lt h1)];exact h.dm _ _ h1
  ·intro k L1 b1 h1 h2
   simp only[af.gW,cW.bO]at h2;rcases b8 k L1 h1 with ⟨rfl,rfl⟩|⟨eO,h1⟩
   ·simp only[if_true,oi]at h2
    subst h2;rw[show L.b=w.heap.size from rfl,pe];exact hb g' vW
   ·simp only[Ne.symm eO,if_false]at h2
    have:=(h.cK _ _ _ h1 h2).mono vW;rw[hold _ (h.lt h1)];exact this
  ·intro k k' L1 L2 b1 b2 h1 h2 h3 h4 zG Dh hb
   simp only[af.gW,cW.bO]at h3 h4;rcases b8 k L1 h1 with ⟨Fp,KK⟩|⟨eO,h1⟩<;>rcases b8 k' L2 h2 with ⟨K7,Va⟩|⟨FF,h2⟩
   ·rw[Fp,K7]
   ·have:=h.lt h2;rw[KK]at hb;simp only[L]at hb;omega
   ·have:=h.lt h1;rw[Va]at hb;simp only[L]at hb;omega
   ·simp only[Ne.symm eO,if_false]at h3
    simp only[Ne.symm FF,if_false]at h4;exact h.dn _ _ _ _ _ _ h1 h2 h3 h4 zG Dh hb
  ·intro t L1 h1
   obtain⟨Sj,e1,a1,a2⟩:=h.dX _ _ h1;exact⟨Sj,e1,by rw[hold _ (h.K4 h1)];exact a1,fun c hc=>(a2 c hc).mono vW⟩
  ·intro k t L1 L2 h1 h2 hb
   rcases b8 k L1 h1 with ⟨rfl,rfl⟩|⟨_,h1⟩
   ·have:=h.K4 h2;simp only[L]at hb;omega
   ·exact h.sep _ _ _ _ h1 h2 hb
 ·intro k L1 h1 h2
  rcases b8 k L1 h1 with ⟨rfl,rfl⟩|⟨_,h1⟩
  ·exact .inl (Nat.le_refl _)
  ·rw[h2]at h1;cases h1
theorem HR.jl(h:HR J s w){id:Nat}{L:Loc}(hL:J.g id=some L){b0 b:C7}(ng:s.h.m.get id=some b0)(Zj:b0.alive=true){o:Obj}(ho:∀cs e fr,o≠.cells cs e fr)(hb:BR J.g b L (some o)) :
  Good J s w J { s with h:=s.h.jl id b } (w.putObj L.b o):=by
 have dW:=h.lt hL;have Q4:(w.putObj L.b o).heap[L.b]?=some o:=World.putObj_heap_same dW;have BA:∀k,k≠L.b->(w.putObj L.b o).heap[k]?=w.heap[k]?:=fun k hk=>World.putObj_heap_other hk
 refine { hr:=?_,mono:=fun _ _ h=>h,next:=Nat.le_refl _,low:=Nat.min_le_left _ _,size:=by simp,os:=rfl,tape:=rfl,output:=rfl,fresh:=(fun id L h1 h2=>by rw[h2]at h1;cases h1),cL:=fun t L h1=>.inr ⟨t,L,h1,rfl⟩,frame:=?_ }
 ·refine { cU:=h.cU,dm:=?_,cK:=?_,dn:=?_,fe:=h.fe,dX:=?_,ff:=h.ff,sep:=h.sep }
  ·intro k L1 h1
   by_cases e:L1.b=L.b
   ·exact⟨o,by rw[e];exact Q4,fun c9 e9 f9 q=>absurd q (ho _ _ _)⟩
   ·rw[BA _ e];exact h.dm _ _ h1
  ·intro k L1 b1 h1 h2
   simp only[af.jl,cW.bO]at h2;by_cases mq:id=k
   ·subst mq
    rw[hL]at h1;obtain rfl:=Option.some.inj h1;simp only[if_true,oi]at h2;subst h2;rw[Q4];exact hb
   ·simp only[mq,if_false]at h2
    cases K6:b1.alive with
    |false=>cases b1<;>first|trivial|(simp[C7.alive]at K6)
    |true=>
     have eO:L1.b≠L.b:=fun hb=>mq (h.dn _ _ _ _ _ _ hL h1 ng h2 Zj K6 hb.symm)
     rw[BA _ eO];exact h.cK _ _ _ h1 h2
  ·intro k k' L1 L2 b1 b2 h1 h2 h3 h4 zG Dh hb
   simp only[af.jl,cW.bO]at h3 h4;have l3:∃b,s.h.m.get k=some b/\b.alive=true:=by
    by_cases mq:id=k
    ·subst mq;exact⟨_,ng,Zj⟩
    ·simp only[mq,if_false]at h3;exact⟨_,h3,zG⟩
   have l4:∃b,s.h.m.get k'=some b/\b.alive=true:=by
    by_cases mq:id=k'
    ·subst mq;exact⟨_,ng,Zj⟩
    ·simp only[mq,if_false]at h4;exact⟨_,h4,Dh⟩
   obtain⟨_,l3,v3⟩:=l3;obtain⟨_,l4,v4⟩:=l4;exact h.dn _ _ _ _ _ _ h1 h2 l3 l4 v3 v4 hb
  ·intro t L1 h1
   rw[BA _ (fun e=>h.sep _ _ _ _ hL h1 e.symm)];exact h.dX _ _ h1
 ·intro b1 Fq hg hl
  refine BA b1 fun e=>?_
  have h1:=hg id L hL e.symm;have h2:Nat.min s.h.low id<=id:=Nat.min_le_right _ _;simp only[af.jl]at h1;omega
theorem MR.cons{g:Nat->Option Loc}{e:Value×Value}{es:List (Value×Value)}{c:MapEntry}{mA:List MapEntry}(h:MR g (e :: es) (c :: mA)):(c.key=e.1/\VG g e.2 c.val)/\MR g es mA:=
 ⟨h.2 0 e c rfl rfl,by have:=h.1;simpa using this,fun i e' c' h1 h2=>h.2 (i+1) e' c' (by simpa using h1) (by simpa using h2)⟩
theorem nh{g:Nat->Option Loc}{kind:TypeDesc}{k:Value}:∀(es:List (Value×Value)) (mA:List MapEntry) (i:Nat) (r:Option (Nat×Value)),MR g es mA->w9 kind k es i=some r->
  (r=none/\Instr.findNow kind k mA i=some none)\/∃j v c e,r=some (i+j,v)/\Instr.findNow kind k mA i=some (some (i+j,c))/\VG g v c/\j<es.length/\mA[j]?=some e/\Instr.sameNow kind k e.key=some true
 | [],mA,i,r,hm,h=>by
  have:mA=[]:=by have:=hm.1;simp at this;exact List.eq_nil_of_length_eq_zero this.symm
  subst this;simp only[w9,oi]at h;exact .inl ⟨h.symm,rfl⟩
 |e :: es,[],i,r,hm,h=>by have:=hm.1;simp at this
 |e :: es,c :: mA,i,r,hm,h=>by
  obtain⟨⟨h1,h2⟩,h3⟩:=hm.cons;simp only[w9]at h;rw[<-h1]at h;split at h
  ·rename_i hs
   simp only[oi]at h;subst h;exact .inr ⟨0,e.2,c.val,c,rfl,by simp only[Instr.findNow,hs];rfl,h2,by simp,rfl,hs⟩
  ·rename_i hs
   rcases nh es mA (i+1) r h3 h with ⟨q1,q2⟩|⟨j,v,cv,e9,q1,q2,q3,q4,q5,q6⟩
   ·exact .inl ⟨q1,by simp only[Instr.findNow,hs];exact q2⟩
   ·refine .inr ⟨j+1,v,cv,e9,by rw[q1];congr 2;omega,?_,q3,by simp;omega,by simpa using q5,q6⟩
    simp only[Instr.findNow,hs];rw[q2];congr 3;omega
  ·cases h
theorem oS{kt:TypeId}{kd:TypeDesc}{k:Value}(hk:P.underlying kt=some kd)(hs:iQ kd=true)(em:Bool)(n:Nat):(Instr.checkKey em (n+1) kt k).run P w=.ok () w:=by
 unfold Instr.checkKey;rw[Sem.run_bind,aL hk,Result.andThen_ok];cases kd<;>simp[iQ]at hs<;>rfl
theorem VR.key{v c:Value}(h:VR J v c)(hk:isKey v=true):c=v:=by
 cases v with
 |int k n=>exact(h.aZ (fun a=>by simp)).int
 |string b=>exact(h.aZ (fun a=>by simp)).string
 |bool b=>exact(h.aZ (fun a=>by simp)).bool
 |_=>simp[isKey]at hk
theorem Pf(a b:ByteArray)(h:(a == b)=true):a=b:=by
 have h1:(a.data == b.data)=true:=h;have h2:a.data=b.data:=by simpa using h1
 cases a;cases b;simp_all
theorem Jf(a:ByteArray):(a == a)=true:=by
 show(a.data == a.data)=true;simp
theorem FU{kind:TypeDesc}{k e:Value}(h:Instr.sameNow kind k e=some true):e=k/\∀n,Instr.sameBits n e k=true:=by
 unfold Instr.sameNow at h;split at h
 ·split at h
  ·rename_i hk
   simp at h;subst h;subst hk;exact⟨rfl,fun n=>by cases n<;>simp[Instr.sameBits]⟩
  ·cases h
 ·simp only[oi]at h
  obtain rfl:=Pf _ _ h;exact⟨rfl,fun n=>by cases n<;>simp[Instr.sameBits,Jf]⟩
 ·simp at h;subst h;exact⟨rfl,fun n=>by cases n<;>simp[Instr.sameBits]⟩
 ·cases h
theorem BB(hR:HR J s w){x cx:Value}{es:List (Value×Value)}(h:xg s.h x=some es)(hx:VR J x cx) :
  (cx=.map none/\es=[])\/∃id L mA clock,x=.map (some id)/\cx=.map (some L.b)/\J.g id=some L/\s.h.m.get id=some (.map es)/\w.heap[L.b]?=some (.map mA clock)/\MR J.g es mA.toList:=by
 unfold xg at h;split at h
 ·simp only[oi]at h;subst h
  exact .inl ⟨(hx.aZ (fun a=>by simp)).Bu,rfl⟩
 ·rename_i id
  split at h
  ·rename_i es' hm
   simp only[oi]at h;subst h;obtain⟨L,hL,rfl⟩:=(hx.aZ (fun a=>by simp)).O9;obtain⟨mA,clock,h1,h2⟩:=hR.cK _ _ _ hL hm;exact .inr ⟨id,L,mA,clock,rfl,rfl,hL,hm,h1,h2⟩
  ·cases h
 ·cases h
theorem nW{r:Nat}{es:Array MapEntry}{clock:Nat}(hb:w.heap[r]?=some (.map es clock)):(getObj r).run P w=.ok (.map es clock) w:=by simp[getObj,Sem.run,hb]
theorem xL{r:Nat}{es:Array MapEntry}{clock:Nat}(o:Obj)(hb:w.heap[r]?=some (.map es clock)):(setObj r o).run P w=.ok () (w.putObj r o):=by simp[setObj,Sem.run,hb,World.putObj]
theorem xM{g:Nat->Option Loc}{v c:Value}(h:VG g v c)(ok b:Bool):VG g (found ok v b) (if ok then .tuple #[c,.bool b] else c):=by
 cases ok with
 |false=>exact h
 |true=>
  refine .tuple _ _ (by simp) fun i x y hx hy=>?_
  match i with
  |0=>simp at hx hy;subst hx;subst hy;exact h
  |1=>simp at hx hy;subst hx;subst hy;exact .flat _ rfl
  |i+2=>simp at hx
theorem Dx(hR:HR J s w){t:TypeId}{x cx k ck v:Value}{ok:Bool}{s':St}(h0:bT s (kT P s.h t x k ok)=some (v,s'))(hx:VR J x cx)(hk:VR J k ck) :
  dJ P J s w (Instr.lookup t cx ck ok) v s' (s.h.next<=·) (fun _=>False):=by
 obtain⟨h',h,rfl⟩:=bj h0;unfold kT at h;split at h
 ·rename_i kt et hu
  split at h
  ·rename_i kd z es Q5 hz uA
   cases hc:(iQ kd && isKey k)with
   |false=>rw[hc]at h;simp at h
   |true=>
    rw[hc]at h;simp only[cond_true]at h;simp only[Bool.and_eq_true]at hc;obtain rfl:=hk.key hc.2;have Us:=fun em=>oS (P:=P) (w:=w) (k:=ck) Q5 hc.1 em 9999
    rcases BB hR uA hx with ⟨rfl,rfl⟩|⟨id,L,mA,clock,rfl,rfl,hL,hm,hw,Sw⟩
    ·simp only[w9,oi,pj]at h
     obtain⟨rfl,rfl⟩:=h;refine dJ.still hR ?_ (.c7 _ _ (xM (VG.of_flat (fQ hz).1) ok false));simp only[Instr.lookup,Sem.run_bind,aL hu,Result.andThen_ok,Sem.run_pure,Us,Instr.findKey,aL Q5,Instr.findNow,gq hz]
    ·split at h
     ·rename_i j u hf
      simp only[oi,pj]at h;obtain⟨rfl,rfl⟩:=h;rcases nh _ _ _ _ Sw hf with ⟨q,_⟩|⟨j',v',c',e',q1,q2,q3,_⟩
      ·cases q
      ·simp only[oi,pj]at q1
       obtain⟨rfl,rfl⟩:=q1;refine dJ.still hR ?_ (.c7 _ _ (xM q3 ok true));simp only[Instr.lookup,Sem.run_bind,aL hu,Result.andThen_ok,nW hw,Sem.run_pure,Us,Instr.findKey,aL Q5,q2]
     ·rename_i hf
      simp only[oi,pj]at h;obtain⟨rfl,rfl⟩:=h;rcases nh _ _ _ _ Sw hf with ⟨_,q2⟩|⟨j',v',c',e',q1,_⟩
      ·refine dJ.still hR ?_ (.c7 _ _ (xM (VG.of_flat (fQ hz).1) ok false))
       simp only[Instr.lookup,Sem.run_bind,aL hu,Result.andThen_ok,nW hw,Sem.run_pure,Us,Instr.findKey,aL Q5,q2,gq hz]
      ·cases q1
     ·cases h
  ·cases h
 ·cases h
theorem MR.set{g:Nat->Option Loc}{es:List (Value×Value)}{mA:Array MapEntry}(h:MR g es mA.toList){k v c:Value}(hv:VG g v c)(i:Nat):MR g (es.set i (k,v)) (mA.modify i fun e=>{ e with key:=k,val:=c }).toList:=by
 refine⟨by simp[h.1],fun j e x he hx=>?_⟩;rw[List.getElem?_set]at he;simp only[Array.getElem?_toList,Array.getElem?_modify]at hx;by_cases XT:i=j
 ·subst XT
  simp only[if_true]at he hx;cases hc:mA[i]? with
  |none=>rw[hc]at hx;simp at hx
  |some c0=>
   rw[hc]at hx;simp only[Option.map_some,oi]at hx;subst hx;split at he
   ·simp only[oi]at he;subst he;exact⟨rfl,hv⟩
   ·cases he
 ·simp only[XT,if_false]at he hx
  exact h.2 j e x he (by simpa using hx)
theorem MR.push{g:Nat->Option Loc}{es:List (Value×Value)}{mA:Array MapEntry}(h:MR g es mA.toList){k v c:Value}(hv:VG g v c)(b:Nat):MR g (es++[(k,v)]) (mA.push { key:=k,val:=c,born:=b }).toList:=by
 refine⟨by simp[h.1],fun j e x he hx=>?_⟩;have hl:es.length=mA.toList.length:=h.1;simp only[Array.toList_push]at hx;rw[List.getElem?_append]at he hx;by_cases hj:j<es.length
 ·rw[if_pos hj]at he
  rw[if_pos om]at hx;exact h.2 j e x he hx
 ·rw[if_neg hj]at he
  rw[if_neg om]at hx;have:j-es.length=j-mA.toList.length:=om
  rw[this]at he;cases hz:j-mA.toList.length with
  |zero=>rw[hz]at he hx;simp at he hx;subst he;subst hx;exact⟨rfl,hv⟩
  |succ n=>rw[hz]at he;simp at he
theorem vp(hR:HR J s w){t:TypeId}{x cx k ck v cv r:Value}{s':St}(h0:bT s (kU P s.h t x k v)=some (r,s'))(hx:VR J x cx)(hk:VR J k ck)(hv:VR J v cv) :
  ∃w',(Instr.mapUpdate t cx ck cv).run P w=.ok () w'/\Good J s w J s' w'/\r=undef/\s'.env=s.env:=by
 obtain⟨h',h,rfl⟩:=bj h0;unfold kU at h;split at h
 ·rename_i kt et id hu
  split at h
  ·rename_i kd es Q5 uA
   cases hc:(iQ kd && isKey k && dA v)with
   |false=>rw[hc]at h;simp at h
   |true=>
    rw[hc]at h;simp only[cond_true]at h;simp only[Bool.and_eq_true]at hc;obtain rfl:=hk.key hc.1.2;have hvg:=hv.pK hc.2;have Us:=fun em=>oS (P:=P) (w:=w) (k:=ck) Q5 hc.1.1 em 9999
    obtain⟨L,hL,rfl⟩:=(hx.aZ (fun a=>by simp)).O9;obtain⟨mA,clock,hw,Sw⟩:=hR.cK _ _ _ hL uA;split at h
    ·rename_i i u hf
     simp only[oi,pj]at h;obtain⟨rfl,rfl⟩:=h;rcases nh _ _ _ _ Sw hf with ⟨q,_⟩|⟨j',v',c',e',q1,q2,q3,q4,q5,q6⟩
     ·cases q
     ·simp only[Nat.zero_add,oi,pj]at q1
      obtain⟨rfl,rfl⟩:=q1;obtain⟨q7,q8⟩:=FU q6;have Lq:mA[i]?=some e':=by simpa using q5
      refine⟨_,?_,hR.jl hL uA rfl (o:=.map (mA.modify i fun e=>{ e with key:=ck,val:=cv }) clock) (by simp) ⟨_,_,rfl,Sw.set hvg i⟩,rfl,rfl⟩;simp only[Instr.mapUpdate,Sem.run_bind,aL hu,Result.andThen_ok,nW hw,Us,Instr.findKey,aL Q5,q2,Nat.zero_add,Sem.run_pure,Lq,Option.map_some,Option.getD_some,Instr.keyThatStays,q8,if_true];exact xL _ hw
    ·rename_i hf
     simp only[oi,pj]at h;obtain⟨rfl,rfl⟩:=h;rcases nh _ _ _ _ Sw hf with ⟨_,q2⟩|⟨j',v',c',e',q1,_⟩
     ·refine⟨_,?_,hR.jl hL uA rfl (o:=.map (mA.push { key:=ck,val:=cv,born:=clock }) (clock+1)) (by simp) ⟨_,_,rfl,Sw.push hvg clock⟩,rfl,rfl⟩
      simp only[Instr.mapUpdate,Sem.run_bind,aL hu,Result.andThen_ok,nW hw,Us,Instr.findKey,aL Q5,q2,Sem.run_pure];exact xL _ hw
     ·cases q1
    ·cases h
  ·cases h
 ·cases h
theorem tc:∀(l:List Value) (bs:List UInt8),bytesOf l=some bs->∃ns:List Int,l=ns.map (.int .u8)/\bs=ns.map (fun n=>UInt8.ofNat n.toNat)
 | [],bs,h=>by simp only[bytesOf,oi]at h;subst h;exact⟨[],rfl,rfl⟩
 |v :: l,bs,h=>by
  unfold bytesOf at h;split at h
  ·rename_i e;cases e
  ·rename_i n r e
   split at h
   ·rename_i l' hl
    simp only[oi]at h;subst h;simp only[List.cons.injEq]at e;obtain⟨rfl,rfl⟩:=e;obtain⟨ns,rfl,rfl⟩:=tc _ _ hl;exact⟨n :: ns,rfl,rfl⟩
   ·cases h
  ·cases h
theorem xO:∀(ns:List Int) (s:ByteArray),ns.foldl (fun r n=>r.push (UInt8.ofNat n.toNat)) s=⟨s.data++(ns.map (fun n=>UInt8.ofNat n.toNat)).toArray⟩
 | [],s=>by simp
 |n :: ns,s=>by
  rw[List.foldl_cons,xO ns];simp[ByteArray.push]
theorem fJ.ints{g:Nat->Option Loc}{k:IntKind}:∀(ns:List Int) (l':List Value),fJ g (ns.map (.int k)) l'->l'=ns.map (.int k)
 | [],l',h=>h.iX
 |n :: ns,l',h=>by
  obtain⟨v,l2,rfl,hv,hl⟩:=h.head;rw[fJ.ints ns l2 hl,hv.int];rfl
theorem Jg(hR:HR J s w){src dst:TypeId}{a:Option Addr}{n c:Nat}{cx v:Value}(h:oQ P s.h src dst a n=some v)(hx:VR J (.slice a n c) cx):(convert src dst cx).run P w=.ok v w/\bm v=true:=by
 unfold oQ at h;split at h
 ·rename_i e hs hd
  split at h
  ·rename_i he
   split at h
   ·simp only[oi]at h;subst h
    obtain⟨rfl,rfl,rfl⟩:=(hx.aZ (fun a=>by simp)).fx;rw[run_convert_bytes_string w src dst e none 0 0 hs he hd];exact⟨by simp[Conv.bytesToString],rfl⟩
   ·rename_i a
    split at h
    ·rename_i l hl
     split at h
     ·rename_i bs hb
      simp only[oi]at h;subst h;obtain⟨ns,rfl,rfl⟩:=tc _ _ hb;obtain⟨jH,L,c',hL,rfl,_⟩:=(hx.aZ (fun a=>by simp)).pJ (iS hl).1;obtain⟨l',h1,h2,h3⟩:=hR.read (a:=a) (L:=L) (by simp[dM.at,jH,hL]) (iS hl).2;obtain rfl:=fJ.ints _ _ h1;have Lp:=run_loadCells_list (P:=P) w ⟨L.b,L.o+a.off,none⟩ _ h3;rw[h2]at Lp;rw[run_convert_bytes_string w src dst e _ n c' hs he hd,run_bytesToString w _ n c' ns Lp,xO];have e0:ByteArray.empty.data=#[]:=rfl;exact⟨by rw[e0];simp,rfl⟩
     ·cases h
    ·cases hb:(a.spot.isSome && Nat.beq n 0)with
     |false=>rw[hb]at h;simp at h
     |true=>
      rw[hb]at h;simp only[cond_true,oi]at h;subst h;simp only[Bool.and_eq_true]at hb;rcases(hx.aZ (fun a=>by simp)).dV with ⟨rG,_⟩|⟨rfl,_,a',c',rfl,_⟩
      ·rw[rG]at hb;simp at hb
      ·have Lp:(loadCells a' 0).run P w=.ok (([]:List Int).map (Value.int .u8)).toArray w:=by simp[loadCells,loadCellsFrom]
       rw[run_convert_bytes_string w src dst e _ 0 c' hs he hd,run_bytesToString w _ 0 c' [] Lp];exact⟨rfl,rfl⟩
  ·cases h
 ·cases h
theorem FV(hR:HR J s w){ts:List TypeId}{args aU:List Value}{ty:TypeId}{v:Value}{s':St}(h0:bT s (r8 P s.h ts args)=some (v,s'))(ha:args.length=aU.length/\∀(i:Nat) (a b:Value),args[i]?=some a->aU[i]?=some b->VR J a b) :
  dJ P J s w (Builtin.clear_ ts.toArray ty aU.toArray) v s' (s.h.next<=·) (fun _=>False):=by
 obtain⟨sP,h,rfl⟩:=bj h0;clear h0;unfold r8 at h;split at h
 ·rename_i t base len c
  obtain⟨c0,rfl⟩:∃c0,aU=[c0]:=by
   have:=ha.1
   match aU,this with
   | [c0],_=>exact⟨c0,rfl⟩
  have hs:=(ha.2 0 _ _ rfl rfl).aZ (fun a=>by simp);split at h
  ·rename_i e hu
   split at h
   ·simp only[oi,pj]at h;obtain⟨rfl,rfl⟩:=h
    obtain⟨rfl,rfl,rfl⟩:=hs.fx;exact dJ.still hR (c:=undef) (by simp[Builtin.clear_,aL hu,undef]) (.c7 _ _ (VG.of_flat rfl))
   ·rename_i a
    cases hb:Nat.beq len 0 with
    |true=>
     rw[hb]at h;simp only[cond_true,oi,pj]at h;obtain⟨rfl,rfl⟩:=h;have:=Nat.eq_of_beq_eq_true hb;subst this;obtain⟨a',c',rfl,_⟩:=hs.iJ;exact dJ.still hR (c:=undef) (by cases a'<;>simp[Builtin.clear_,aL hu,undef]) (.c7 _ _ (VG.of_flat rfl))
    |false=>
     rw[hb]at h;simp only[cond_false]at h;have eO:=Nat.ne_of_beq_eq_false hb;split at h
     ·rename_i z hz
      split at h
      ·rename_i h' hw
       simp only[oi,pj]at h;obtain⟨rfl,rfl⟩:=h;obtain⟨jH,L,c',hL,rfl,_⟩:=hs.pJ (iY hw).1;obtain⟨w',e1,e2,e3,_⟩:=hR.write (P:=P) (a:=a) (L:=L) (by simp[dM.at,jH,hL]) (iY hw).2 (lU (lS (fQ hz).1) len);refine⟨undef,w',J,?_,e2,fun _ _ h=>h,.c7 _ _ (VG.of_flat rfl),e3,.refl _ _,.refl _ _⟩;have hzc:(Builtin.zeroCells z.cells len).toList=bE z.cells.toList len:=jQ z.cells len;obtain⟨m,rfl⟩:∃m,len=m+1:=⟨len-1,om⟩;simp only[Builtin.clear_,List.getElem?_toArray,List.getElem?_cons_zero,Sem.run_bind,aL hu,Result.andThen_ok,gq hz,hzc,e1,Sem.run_pure,undef]
      ·cases h
     ·cases h
  ·cases h
 ·cases h
theorem FW(hR:HR J s w){t:TypeId}{a:Addr}{L:Loc}(hL:J.at a=some L){v cv:Value}{s':St}(h:mN P s t a v=some s')(hv:VR J v cv) :
  ∃w',(storeVar t ⟨L.b,L.o+a.off,none⟩ cv).run P w=.ok () w'/\Good J s w J s' w'/\s'.env=s.env:=by
 unfold mN at h;split at h
 ·rename_i n hn
  cases hb:Nat.beq v.cells.toList.length n with
  |false=>rw[hb]at h;simp at h
  |true=>
   rw[hb]at h;simp only[cond_true]at h;have hlen:=Nat.eq_of_beq_eq_true hb;have fF:v.cells.toList.all aF=true:=by
    unfold St.write at h;cases ho:v.cells.toList.all aF with
    |true=>rfl
    |false=>rw[ho]at h;simp at h
   have Sn:=hv.cells fF;obtain⟨w',e1,e2,e3,_⟩:=hR.write (P:=P) hL h Sn;refine⟨w',?_,e2,e3⟩;have uB:cv.cells.size=n:=by have:=Sn.1;simp at this hlen;omega
   simp only[storeVar,Sem.run_bind,cg hn,Result.andThen_ok];rw[Sem.run_ite,if_neg (by simp[uB])];simpa using e1
 ·cases h
def pg(J:dM)(s:St)(a:Act)(l:List Operand):Prop:=∀x v,x∈l->bJ s x=some v->VR J v (a.eval x)
theorem ER.ev{a:Act}(h:ER J s a)(l:List Operand):pg J s a l:=fun _ _ _ hx=>h.eval hx
theorem pg.tail{a:Act}{x:Operand}{l:List Operand}(h:pg J s a (x :: l)):pg J s a l:=fun y v hy hv=>h y v (List.mem_cons_of_mem _ hy) hv
theorem pg.sub{a:Act}{l l':List Operand}(h:pg J s a l)(hl:∀x∈l',x∈l):pg J s a l':=fun y v hy hv=>h y v (hl y hy) hv
theorem jR{a:Act}:∀(l:List Operand) (_:pg J s a l) (vs:List Value),gX s l=some vs->vs.length=(l.map a.eval).length/\∀(i:Nat) (x y:Value),vs[i]?=some x->(l.map a.eval)[i]?=some y->VR J x y
 | [],_,vs,h=>by simp only[gX,oi]at h;subst h;exact⟨rfl,fun i x y h=>by simp at h⟩
 |o :: l,hE,vs,h=>by
  simp only[gX]at h;split at h
  ·rename_i v hv
   split at h
   ·rename_i r hr
    simp only[oi]at h;subst h;obtain⟨h1,h2⟩:=jR l hE.tail r hr;refine⟨by simp at h1 ⊢;exact h1,fun i x y hx hy=>?_⟩;cases i with
    |zero=>simp at hx hy;subst hx;subst hy;exact hE _ _ (by simp) hv
    |succ i=>simp only[List.getElem?_cons_succ,List.map_cons]at hx hy;exact h2 i x y hx hy
   ·cases h
  ·cases h
theorem mO{a:Act}:∀(l:List (Nat×Operand)) (_:pg J s a (l.map (·.2))) (vs:List (Nat×Value)),gm s l=some vs->s8 J vs (l.map fun(i,x)=>(i,a.eval x))
 | [],_,vs,h=>by simp only[gm,oi]at h;subst h;exact⟨rfl,fun i x y h=>by simp at h⟩
 |(k,o) :: l,hE,vs,h=>by
  simp only[gm]at h;split at h
  ·rename_i v hv
   split at h
   ·rename_i r hr
    simp only[oi]at h;subst h;obtain⟨h1,h2⟩:=mO l (pg.tail hE) r hr;refine⟨by simp at h1 ⊢;exact h1,fun i x y hx hy=>?_⟩;cases i with
    |zero=>simp at hx hy;subst hx;subst hy;exact⟨rfl,hE _ _ (by simp) hv⟩
    |succ i=>simp only[List.getElem?_cons_succ,List.map_cons]at hx hy;exact h2 i x y hx hy
   ·cases h
  ·cases h
theorem pO{a:Act}{x:Option Operand}(hE:pg J s a x.toList){v:Option Value}(h:jq s x=some v):rM J v (x.map a.eval):=by
 cases x with
 |none=>simp only[jq,oi]at h;subst h;trivial
 |some x=>
  simp only[jq]at h;split at h
  ·rename_i u hu;simp only[oi]at h;subst h;exact hE _ _ (by simp) hu
  ·cases h
theorem wz{l:List Value}{c:List Value}(h:l.length=c.length/\∀(i:Nat) (x y:Value),l[i]?=some x->c[i]?=some y->VR J x y)(hn:l.all dA=true):fJ J.g l c:=
 ⟨h.1,fun i x y hx hy=>(h.2 i x y hx hy).pK (by simp only[List.all_eq_true]at hn;exact hn x (List.mem_of_getElem? hx))⟩
def Dy(P:Program)(J:dM)(s:St)(w:World)(x:Sem Next)(v:Value)(s':St)(R Rl:Nat->Prop):Prop:=
 ∃n c w' J',x.run P w=.ok n w'/\(n=.value c\/(n=.skip/\c=undef))/\Good J s w J' s' w'/\(∀t L,J.l t=some L->J'.l t=some L)/\VR J' v c/\s'.env=s.env/\fG R J.g J'.g/\fG Rl J.l J'.l
theorem dJ.op{x:Sem Value}{v:Value}{s':St}{R Rl:Nat->Prop}(h:dJ P J s w x v s' R Rl):Dy P J s w (x >>= fun u=>Pure.pure (Next.value u)) v s' R Rl:=by
 obtain⟨c,w',J',h1,h2,h3,h4,h5⟩:=h;exact⟨.value c,c,w',J',by simp[h1],.inl rfl,h2,h3,h4,h5⟩
theorem HF{a:Act}{mk:lK}{loc:Bool}{o:Oper}{v:Value}{s':St}(hR:HR J s w)(hM:AF J s w mk)(hE:pg J s a o.op.operands.toList)(hK:∀{loc:Bool} {es:Nat} {cells:List Value} {r:Value×St},mk loc es cells=some r->cells.all aF=true)(h:gE P mk loc o.op s=some (v,s')):Dy P J s w (execOp a.eval o) v s' (fun k=>(Da o.op loc=true/\Hw mk k)\/(Hu o.op=true/\s.h.next<=k)) (fun t=>Dc o.op loc=true/\K9 mk t):=by
 unfold gE at h;unfold execOp;have ev:∀{x:Operand} {v:Value},bJ s x=some v->x∈o.op.operands.toList->VR J v (a.eval x):=fun h1 h2=>hE _ _ h2 h1
 split at h
 ·
  rename_i x ho;simp only[ho];split at h
  ·rename_i u hu
   simp only[oi,pj]at h;obtain⟨rfl,rfl⟩:=h;exact⟨.value (a.eval x),a.eval x,w,J,by simp,.inl rfl,.refl hR,fun _ _ h=>h,ev hu (by simp[ho,Op.operands]),rfl,.refl _ _,.refl _ _⟩
  ·cases h
 ·
  rename_i x ho;simp only[ho];split at h
  ·rename_i u hu
   simp only[oi,pj]at h;obtain⟨rfl,rfl⟩:=h;exact⟨.value (a.eval x),a.eval x,w,J,by simp,.inl rfl,.refl hR,fun _ _ h=>h,ev hu (by simp[ho,Op.operands]),rfl,.refl _ _,.refl _ _⟩
  ·cases h
 ·
  rename_i c x y ho;simp only[ho];split at h
  ·rename_i hc
   have Vn:=((ev hc (by simp[ho,Op.operands])).aZ (fun a=>by simp)).bool;split at h
   ·rename_i u hu
    simp only[oi,pj]at h;obtain⟨rfl,rfl⟩:=h;exact⟨.value (a.eval x),a.eval x,w,J,by simp[asBool,Vn],.inl rfl,.refl hR,fun _ _ h=>h,ev hu (by simp[ho,Op.operands]),rfl,.refl _ _,.refl _ _⟩
   ·cases h
  ·rename_i hc
   have Vn:=((ev hc (by simp[ho,Op.operands])).aZ (fun a=>by simp)).bool;split at h
   ·rename_i u hu
    simp only[oi,pj]at h;obtain⟨rfl,rfl⟩:=h;exact⟨.value (a.eval y),a.eval y,w,J,by simp[asBool,Vn],.inl rfl,.refl hR,fun _ _ h=>h,ev hu (by simp[ho,Op.operands]),rfl,.refl _ _,.refl _ _⟩
   ·cases h
  ·cases h
 ·
  rename_i e ho;simp only[ho];split at h
  ·rename_i z n hz hn
   obtain⟨I8,_⟩:=fQ hz;obtain⟨J',g1,g2,g3,g4,_,ga,gb⟩:=hM _ _ _ _ _ _ e h (CR.Bv (lS I8));refine dJ.op ⟨_,_,J',?_,g1,g2,g3,g4,ga.mono (fun _ q=>.inl ⟨by simp[Da,q.1],q.2⟩),gb.mono (fun _ q=>⟨by simp[Dc,q.1],q.2⟩)⟩;simp only[Instr.alloc,Sem.run_bind,gq hz,Result.andThen_ok,newVar,newRow,run_newObj,Sem.run_pure];simp[World.alloc_eq]
  ·cases h
 ·
  rename_i e x ho;simp only[ho];split at h
  ·rename_i u n hu hn
   have fF:u.cells.toList.all aF=true:=hK h;have Bw:=CR.Bv ((ev hu (by simp[ho,Op.operands])).cells fF);obtain⟨J',g1,g2,g3,g4,_,ga,gb⟩:=hM _ _ _ _ _ _ e h Bw;refine dJ.op ⟨_,_,J',?_,g1,g2,g3,g4,ga.mono (fun _ q=>.inl ⟨by simp[Da,q.1],q.2⟩),gb.mono (fun _ q=>⟨by simp[Dc,q.1],q.2⟩)⟩;simp only[Instr.box,Sem.run_bind,Result.andThen_ok,newVar,newRow,run_newObj,Sem.run_pure];simp[World.alloc_eq]
  ·cases h
 ·
  rename_i t parts ho;simp only[ho];split at h
  ·rename_i l hl
   split at h
   ·rename_i u hu
    simp only[oi,pj]at h;obtain⟨rfl,rfl⟩:=h;obtain⟨c,e1,e2⟩:=FQ (P:=P) (w:=w) (cparts:=parts.map fun(i,x)=>(i,a.eval x)) hu (by have:=mO parts.toList (hE.sub (by simp[ho,Op.operands])) _ hl;simpa using this);exact dJ.op (dJ.still hR e1 (.c7 _ _ e2))
   ·cases h
  ·cases h
 ·
  rename_i t len parts ho;simp only[ho];split at h
  ·rename_i l hl
   obtain⟨c,w',J',e1,e2,e3,e4,e5,ea,eb⟩:=vY (P:=P) hM (cparts:=parts.map fun(i,x)=>(i,a.eval x)) h (by have:=mO parts.toList (hE.sub (by simp[ho,Op.operands])) _ hl;simpa using this);exact dJ.op ⟨c,w',J',e1,e2,e3,.c7 _ _ e4,e5,ea.mono (fun _ q=>.inl ⟨rfl,q⟩),eb.mono (fun _ q=>q.elim)⟩
  ·cases h
 ·
  rename_i t x ho;simp only[ho];split at h
  ·rename_i ad hu
   split at h
   ·rename_i u hv
    simp only[oi,pj]at h;obtain⟨rfl,rfl⟩:=h;obtain⟨L,hL,hc⟩:=(ev hu (by simp[ho,Op.operands])).pI;obtain⟨c,e1,e2⟩:=AE (P:=P) hR hL hv;exact dJ.op (dJ.still hR (c:=c) (by simp[Instr.loadAt,hc,Instr.sureAddr,e1]) (.c7 _ _ e2))
   ·cases h
  ·cases h
 ·
  rename_i t x y ho;simp only[ho];split at h
  ·rename_i ad u hx hu
   split at h
   ·rename_i s2 py
    simp only[oi,pj]at h;obtain⟨rfl,rfl⟩:=h;obtain⟨L,hL,hc⟩:=(ev hx (by simp[ho,Op.operands])).pI;obtain⟨w',e1,e2,e3⟩:=FW (P:=P) hR hL py (ev hu (by simp[ho,Op.operands]));exact⟨.skip,undef,w',J,by simp[Instr.storeAt,hc,Instr.sureAddr,e1],.inr ⟨rfl,rfl⟩,e2,fun _ _ h=>h,.c7 _ _ (VG.of_flat rfl),e3,.refl _ _,.refl _ _⟩
   ·cases h
  ·cases h
 ·
  rename_i x ho;simp only[ho];split at h
  ·rename_i ad hu
   simp only[oi,pj]at h;obtain⟨rfl,rfl⟩:=h;have hv:=ev hu (by simp[ho,Op.operands]);obtain⟨L,hL,hc⟩:=hv.pI;exact⟨.value (a.eval x),a.eval x,w,J,by simp[hc],.inl rfl,.refl hR,fun _ _ h=>h,hv,rfl,.refl _ _,.refl _ _⟩
  ·rename_i f first cap hu
   simp only[oi,pj]at h;obtain⟨rfl,rfl⟩:=h;have hv:=ev hu (by simp[ho,Op.operands]);obtain⟨x',y',hc,_,_⟩:=(hv.aZ (fun a=>by simp)).K0;exact⟨.value (a.eval x),a.eval x,w,J,by simp[hc],.inl rfl,.refl hR,fun _ _ h=>h,hv,rfl,.refl _ _,.refl _ _⟩
  ·cases h
 ·
  rename_i op t x y yt ho;simp only[ho];split at h
  ·rename_i u1 u2 h1 h2
   split at h
   ·rename_i u hu
    simp only[oi,pj]at h;obtain⟨rfl,rfl⟩:=h;obtain⟨e1,e2⟩:=Lj (P:=P) (w:=w) (X:=x) (Y:=y) hu (ev h1 (by simp[ho,Op.operands])) (ev h2 (by simp[ho,Op.operands]));exact dJ.op (dJ.still hR e1 (.c7 _ _ (.flat _ e2)))
   ·cases h
  ·cases h
 ·
  rename_i op t x ho;simp only[ho];split at h
  ·rename_i u1 h1
   split at h
   ·rename_i u hu
    simp only[oi,pj]at h;obtain⟨rfl,rfl⟩:=h;obtain⟨e1,e2⟩:=Pa (P:=P) (w:=w) hu (ev h1 (by simp[ho,Op.operands]));exact dJ.op (dJ.still hR e1 (.c7 _ _ (.flat _ e2)))
   ·cases h
  ·cases h
 ·
  rename_i src dst x ho;simp only[ho];split at h
  ·rename_i a n c h1
   split at h
   ·rename_i u hu
    simp only[oi,pj]at h;obtain⟨rfl,rfl⟩:=h;obtain⟨e1,e2⟩:=Jg (P:=P) hR hu (ev h1 (by simp[ho,Op.operands]));exact dJ.op (dJ.still hR e1 (.c7 _ _ (.flat _ e2)))
   ·cases h
  ·rename_i u1 _ h1
   split at h
   ·rename_i u hu
    simp only[oi,pj]at h;obtain⟨rfl,rfl⟩:=h;obtain⟨e1,e2⟩:=I3 (P:=P) (w:=w) hu (ev h1 (by simp[ho,Op.operands]));exact dJ.op (dJ.still hR e1 (.c7 _ _ (.flat _ e2)))
   ·cases h
  ·cases h
 ·
  rename_i fn first cap ho
  simp only[ho];split at h
  ·rename_i f l r h1 h2
   cases hb:(l.all dA && r.all dA)with
   |false=>rw[hb]at h;simp at h
   |true=>
    rw[hb]at h;simp only[cond_true,oi,pj]at h;obtain⟨rfl,rfl⟩:=h;simp only[Bool.and_eq_true]at hb;have g1:=wz (jR first.toList (hE.sub (by simp[ho,Op.operands];grind)) _ h1) hb.1;have g2:=wz (jR cap.toList (hE.sub (by simp[ho,Op.operands];grind)) _ h2) hb.2;refine dJ.op (dJ.still hR (c:=.func (.func f) (first.map a.eval) (cap.map a.eval)) (by simp[Instr.makeFunc]) (.c7 _ _ ?_));exact .func _ _ _ _ _ (by simpa using g1.1) (by simpa using g2.1) (fun i u v hu hv=>g1.2 i u v (by simpa using hu) (by simpa using hv)) (fun i u v hu hv=>g2.2 i u v (by simpa using hu) (by simpa using hv))
  ·cases h
 ·
  rename_i t l c ho;simp only[ho];split at h
  ·rename_i u1 u2 h1 h2
   obtain⟨r,w',J',e1,e2,e3,e4,e5,ea,eb⟩:=xH (P:=P) hM h (ev h1 (by simp[ho,Op.operands])) (ev h2 (by simp[ho,Op.operands]));exact dJ.op ⟨r,w',J',e1,e2,e3,.c7 _ _ e4,e5,ea.mono (fun _ q=>.inl ⟨rfl,q⟩),eb.mono (fun _ q=>q.elim)⟩
  ·cases h
 ·
  rename_i t x lo hi mx ho;simp only[ho];split at h
  ·rename_i u b1 b2 b3 h1 h2 h3 h4
   split at h
   ·rename_i r hr
    simp only[oi,pj]at h;obtain⟨rfl,rfl⟩:=h;obtain⟨c,e1,e2⟩:=FO (P:=P) (w:=w) hr (ev h1 (by simp[ho,Op.operands])) (pO (hE.sub (by simp[ho,Op.operands];grind)) h2) (pO (hE.sub (by simp[ho,Op.operands];grind)) h3) (pO (hE.sub (by simp[ho,Op.operands];grind)) h4);exact dJ.op (dJ.still hR e1 (.c7 _ _ e2))
   ·cases h
  ·cases h
 ·
  rename_i t x f ho;simp only[ho];split at h
  ·rename_i u h1
   split at h
   ·rename_i r hr
    simp only[oi,pj]at h;obtain⟨rfl,rfl⟩:=h;obtain⟨c,e1,e2⟩:=xz (P:=P) (w:=w) hr (ev h1 (by simp[ho,Op.operands]));exact dJ.op (dJ.still hR e1 e2)
   ·cases h
  ·cases h
 ·
  rename_i t x f ho;simp only[ho];split at h
  ·rename_i u h1
   split at h
   ·rename_i r hr
    simp only[oi,pj]at h;obtain⟨rfl,rfl⟩:=h;obtain⟨c,e1,e2⟩:=FG (P:=P) (w:=w) hr (ev h1 (by simp[ho,Op.operands]));exact dJ.op (dJ.still hR e1 (.c7 _ _ e2))
   ·cases h
  ·cases h
 ·
  rename_i t x i ho;simp only[ho];split at h
  ·rename_i u1 u2 h1 h2
   split at h
   ·rename_i r hr
    simp only[oi,pj]at h;obtain⟨rfl,rfl⟩:=h;obtain⟨c,e1,e2⟩:=xC (P:=P) (w:=w) hr (ev h1 (by simp[ho,Op.operands])) (ev h2 (by simp[ho,Op.operands]));exact dJ.op (dJ.still hR e1 e2)
   ·cases h
  ·cases h
 ·
  rename_i t x i ho;simp only[ho];split at h
  ·rename_i u1 u2 h1 h2
   split at h
   ·rename_i r hr
    simp only[oi,pj]at h;obtain⟨rfl,rfl⟩:=h;obtain⟨c,e1,e2⟩:=FH (P:=P) (w:=w) hr (ev h1 (by simp[ho,Op.operands])) (ev h2 (by simp[ho,Op.operands]));exact dJ.op (dJ.still hR e1 (.c7 _ _ e2))
   ·cases h
  ·cases h
 ·
  rename_i x i ho;simp only[ho];split at h
  ·rename_i vs h1
   split at h
   ·rename_i r hr
    simp only[oi,pj]at h;obtain⟨rfl,rfl⟩:=h;obtain⟨ys,hc,hy⟩:=((ev h1 (by simp[ho,Op.operands])).aZ (fun a=>by simp)).KZ;have dW:i<ys.toList.length:=by rw[<-hy.1];exact(List.getElem?_eq_some_iff.1 hr).1
    have hx:ys[i]?=some (ys.toList[i]):=by simp at dW ⊢
    exact dJ.op (dJ.still hR (c:=ys.toList[i]) (by simp[Instr.extract,hc,hx]) (.c7 _ _ (hy.2 i r _ hr (by simp at dW ⊢))))
   ·cases h
  ·cases h
 ·
  rename_i b args argTypes ho;simp only[ho,resolve];split at h
  ·rename_i l hl
   have iZ:=jR args.toList (hE.sub (by simp[ho,Op.operands,Call.operands])) _ hl;have FX:args.map a.eval=(args.toList.map a.eval).toArray:=by apply Array.ext';simp
   split at h
   ·rename_i x
    split at h
    ·rename_i t ht
     split at h
     ·rename_i u hu
      simp only[oi,pj]at h;obtain⟨rfl,rfl⟩:=h;obtain⟨c0,uu⟩:∃c0,args.toList.map a.eval=[c0]:=by
       have:=iZ.1
       match hm:args.toList.map a.eval,this with
       | [c0],_=>exact⟨c0,rfl⟩
      have hx:=iZ.2 0 x c0 rfl (by rw[uu];rfl);obtain⟨e1,e2⟩:=Lc (P:=P) (w:=w) (ty:=o.type) hu hx;have Zk:argTypes=#[t]:=by apply Array.ext';simpa using ht
      refine⟨.value u,u,w,J,?_,.inl rfl,.refl hR,fun _ _ h=>h,.c7 _ _ (.flat _ e2),rfl,.refl _ _,.refl _ _⟩;simp[invoke,builtin,FX,uu,Zk,e1]
     ·cases h
    ·cases h
   ·rename_i x
    split at h
    ·rename_i t ht
     split at h
     ·rename_i u hu
      simp only[oi,pj]at h;obtain⟨rfl,rfl⟩:=h;obtain⟨c0,uu⟩:∃c0,args.toList.map a.eval=[c0]:=by
       have:=iZ.1
       match hm:args.toList.map a.eval,this with
       | [c0],_=>exact⟨c0,rfl⟩
      have hx:=iZ.2 0 x c0 rfl (by rw[uu];rfl);obtain⟨e1,e2⟩:=Lf (P:=P) (w:=w) (ty:=o.type) hu hx;have Zk:argTypes=#[t]:=by apply Array.ext';simpa using ht
      refine⟨.value u,u,w,J,?_,.inl rfl,.refl hR,fun _ _ h=>h,.c7 _ _ (.flat _ e2),rfl,.refl _ _,.refl _ _⟩;simp[invoke,builtin,FX,uu,Zk,e1]
     ·cases h
    ·cases h
   ·rename_i x r
    split at h
    ·rename_i u hu
     simp only[oi,pj]at h;obtain⟨rfl,rfl⟩:=h;obtain⟨c0,cr,uu⟩:∃c0 cr,args.toList.map a.eval=c0 :: cr:=by
      have:=iZ.1
      match hm:args.toList.map a.eval,this with
      |c0 :: cr,_=>exact⟨c0,cr,rfl⟩
     rw[uu]at iZ;obtain⟨c,e1,e2⟩:=uC (P:=P) (w:=w) (F:=Builtin.max2) (fun x y v h=>(I4 h).1) (fun x y v h=>FJ h) r cr x c0 u hu (iZ.2 0 x c0 rfl rfl) ⟨by have:=iZ.1;simpa using this,fun i p q hp hq=>iZ.2 (i+1) p q (by simpa using hp) (by simpa using hq)⟩;refine⟨.value c,c,w,J,?_,.inl rfl,.refl hR,fun _ _ h=>h,e2,rfl,.refl _ _,.refl _ _⟩;simp[invoke,builtin,FX,uu,Builtin.max_,e1]
    ·cases h
   ·rename_i x r
    split at h
    ·rename_i u hu
     simp only[oi,pj]at h;obtain⟨rfl,rfl⟩:=h;obtain⟨c0,cr,uu⟩:∃c0 cr,args.toList.map a.eval=c0 :: cr:=by
      have:=iZ.1
      match hm:args.toList.map a.eval,this with
      |c0 :: cr,_=>exact⟨c0,cr,rfl⟩
     rw[uu]at iZ;obtain⟨c,e1,e2⟩:=uC (P:=P) (w:=w) (F:=Builtin.min2) (fun x y v h=>(I5 h).1) (fun x y v h=>FL h) r cr x c0 u hu (iZ.2 0 x c0 rfl rfl) ⟨by have:=iZ.1;simpa using this,fun i p q hp hq=>iZ.2 (i+1) p q (by simpa using hp) (by simpa using hq)⟩;refine⟨.value c,c,w,J,?_,.inl rfl,.refl hR,fun _ _ h=>h,e2,rfl,.refl _ _,.refl _ _⟩;simp[invoke,builtin,FX,uu,Builtin.min_,e1]
    ·cases h
   ·obtain⟨c,w',J',e1,e2,e3,e4,e5,ea,eb⟩:=Du (P:=P) hR (ty:=o.type) h iZ
    refine⟨.value c,c,w',J',?_,.inl rfl,e2,e3,e4,e5,ea.mono (fun _ q=>.inr ⟨rfl,q⟩),eb.mono (fun _ q=>q.elim)⟩;simp[invoke,builtin,FX]at e1 ⊢;rw[e1];rfl
   ·obtain⟨c,w',J',e1,e2,e3,e4,e5,ea,eb⟩:=Je (P:=P) hR (ty:=o.type) h iZ
    refine⟨.value c,c,w',J',?_,.inl rfl,e2,e3,e4,e5,ea.mono (fun _ q=>.inr ⟨rfl,q⟩),eb.mono (fun _ q=>q.elim)⟩;simp[invoke,builtin,FX]at e1 ⊢;rw[e1];rfl
   ·obtain⟨c,w',J',e1,e2,e3,e4,e5,ea,eb⟩:=FV (P:=P) hR (ty:=o.type) h iZ
    refine⟨.value c,c,w',J',?_,.inl rfl,e2,e3,e4,e5,ea.mono (fun _ q=>.inr ⟨rfl,q⟩),eb.mono (fun _ q=>q.elim)⟩;simp[invoke,builtin,FX]at e1 ⊢;rw[e1];rfl
   ·cases h
  ·cases h
 ·
  rename_i t ho;simp only[ho];obtain⟨h',h1,rfl⟩:=bj h;simp only[oi,pj]at h1;obtain⟨rfl,rfl⟩:=h1;obtain⟨J',e1,e2,e3,e4⟩:=hR.gW (b:=.map []) (o:=.map #[] 0) (by simp) (fun g' _=>⟨#[],0,rfl,rfl,fun i e c h=>by simp at h⟩);exact dJ.op ⟨.map (some w.heap.size),w.alloc (.map #[] 0),J',by simp[Instr.makeMap],e1,fun t L h=>by rw[e2];exact h,.c7 _ _ (.xk _ _ e3),rfl,e4.mono (fun _ q=>.inr ⟨rfl,q⟩),by rw[e2];exact .refl _ _⟩
 ·
  rename_i t x i ok ho;simp only[ho];split at h
  ·rename_i u1 u2 h1 h2
   obtain⟨c,w',J',e1,e2,e3,e4,e5,ea,eb⟩:=Dx (P:=P) hR h (ev h1 (by simp[ho,Op.operands])) (ev h2 (by simp[ho,Op.operands]));exact dJ.op ⟨c,w',J',e1,e2,e3,e4,e5,ea.mono (fun _ q=>.inr ⟨rfl,q⟩),eb.mono (fun _ q=>q.elim)⟩
  ·cases h
 ·
  rename_i t m k x ho;simp only[ho];split at h
  ·rename_i u1 u2 u3 h1 h2 h3
   obtain⟨w',e1,e2,rfl,e3⟩:=vp (P:=P) hR h (ev h1 (by simp[ho,Op.operands])) (ev h2 (by simp[ho,Op.operands])) (ev h3 (by simp[ho,Op.operands]));exact⟨.skip,undef,w',J,by simp[e1],.inr ⟨rfl,rfl⟩,e2,fun _ _ h=>h,.c7 _ _ (VG.of_flat rfl),e3,.refl _ _,.refl _ _⟩
  ·cases h
 ·
  rename_i t m k x ho;simp only[ho];split at h
  ·rename_i u1 u2 u3 h1 h2 h3
   obtain⟨w',e1,e2,rfl,e3⟩:=vp (P:=P) hR h (ev h1 (by simp[ho,Op.operands])) (ev h2 (by simp[ho,Op.operands])) (ev h3 (by simp[ho,Op.operands]));exact⟨.skip,undef,w',J,by simp[e1],.inr ⟨rfl,rfl⟩,e2,fun _ _ h=>h,.c7 _ _ (VG.of_flat rfl),e3,.refl _ _,.refl _ _⟩
  ·cases h
 ·cases h
