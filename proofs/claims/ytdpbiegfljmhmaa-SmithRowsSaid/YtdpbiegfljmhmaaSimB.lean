import Derived.Test.YtdpbiegfljmhmaaSimA
import Derived.Laws.BytesString
set_option linter.unusedSimpArgs false
set_option linter.unusedVariables false
namespace Go.Sim
variable{P:Program}{w:World}{J:dm}{s:St}
theorem vr{t:TypeId}{x cx v:Value}{f:Nat}(h:jL P t x f=some v)(hx:VR J x cx):∃c,(Instr.fieldAt t cx f).run P w=.ok c w/\VR J v c:=by
 unfold jL at h;split at h
 ·rename_i fs a hu
  split at h
  ·rename_i fd hf
   split at h
   ·rename_i n hn
    cases hb:Nat.beq n 0 with
    |true=>rw[hb]at h;simp at h
    |false=>
     rw[hb]at h;simp only[cond_false,oi]at h;subst h;obtain⟨L,hL,rfl⟩:=hx.ptrL;have hn0:=Nat.ne_of_beq_eq_false hb;have hf':fs[f]?=some fd:=by simpa using hf
     refine⟨_,?_,VR.mkPtr hL fd.offset⟩;simp[Instr.fieldAt,aE hu,hf',Instr.sureAddr,fieldPlace,bK hn,hn0,ik]
   ·cases h
  ·cases h
 ·cases h
theorem ux{t:TypeId}{x cx ix ci v:Value}(h:jE P t x ix=some v)(hx:VR J x cx)(hi:VR J ix ci):∃c,(Instr.indexAt t cx ci).run P w=.ok c w/\VR J v c:=by
 unfold jE at h;split at h
 ·rename_i len e a k i hu
  split at h
  ·rename_i n hn
   split at h
   ·rename_i hlt
    simp only[oi]at h;subst h;obtain⟨L,hL,rfl⟩:=hx.ptrL;obtain rfl:=(hi.of_ne (fun a=>by simp)).int;refine⟨_,?_,VR.mkPtr hL _⟩;simp[Instr.indexAt,asIntOf,aE hu,Instr.sureAddr,hlt.1,hlt.2,bK hn,ik]
   ·cases h
  ·cases h
 ·rename_i e a len c k i hu
  split at h
  ·rename_i n hn
   split at h
   ·rename_i hlt
    simp only[oi]at h;subst h;obtain⟨hs,L,c',hL,rfl,_⟩:=(hx.of_ne (fun a=>by simp)).sliceN (by omega);obtain rfl:=(hi.of_ne (fun a=>by simp)).int;refine⟨_,?_,VR.mkPtr (a:=a) (L:=L) (by simp[dm.at,hs,hL]) _⟩;simp[Instr.indexAt,asIntOf,aE hu,hlt.1,hlt.2,bK hn,ik]
   ·cases h
  ·cases h
 ·cases h
theorem jt{v cv:Value}{y y' n:Nat}{code:BoundsCode}(h:bound v y=some n)(hv:VR J v cv)(hy:y<=y'):(Instr.sliceBound cv y' code).run P w=.ok n w/\n<=y:=by
 unfold bound at h;split at h
 ·rename_i k i
  split at h
  ·rename_i hi
   simp only[oi]at h;subst h;obtain rfl:=(hv.of_ne (fun a=>by simp)).int;refine⟨?_,by omega⟩;have h2:i<=(y':Int):=by omega
   simp[Instr.sliceBound,asIntOf,hi.1,h2]
  ·cases h
 ·cases h
def oF(J:dm):Option Value->Option Value->Prop
 |none,none=>True
 |some v,some c=>VR J v c
 |_,_=>False
theorem tP{isS:Bool}{len c c':Nat}{lo hi mx clo chi cmx:Option Value}{m h l:Nat}(hc:c<=c')
  (hm:fg mx c=some m)
  (hh:gq hi mx len m=some h)
  (hl:fO lo h=some l)
  (h1:oF J lo clo) (h2:oF J hi chi) (h3:oF J mx cmx) :
  (Instr.sliceBounds isS len c' clo chi cmx).run P w=.ok (l,h,if mx.isSome then m else c') w/\(lo=none->l=0)/\l<=h/\(mx.isSome=true->m<=c):=by
 cases mx with
 |none=>
  cases cmx with
  |some _=>exact h3.elim
  |none=>
   simp only[fg,oi]at hm;subst hm;cases hi with
   |none=>
    cases chi with
    |some _=>exact h2.elim
    |none=>
     simp only[gq,oi]at hh;subst hh;cases lo with
     |none=>
      cases clo with
      |some _=>exact h1.elim
      |none=>simp only[fO,oi]at hl;subst hl;exact⟨by simp[Instr.sliceBounds],fun _=>rfl,Nat.zero_le _,by simp⟩
     |some v=>
      cases clo with
      |none=>exact h1.elim
      |some cv=>
       obtain⟨e1,e2⟩:=jt (P:=P) (w:=w) (code:=.sliceB) hl h1 (Nat.le_refl _);exact⟨by simp[Instr.sliceBounds,e1],by simp,e2,by simp⟩
   |some hv=>
    cases chi with
    |none=>exact h2.elim
    |some chv=>
     have e0:=fun code=>jt (P:=P) (w:=w) (code:=code) hh h2 hc
     cases lo with
     |none=>
      cases clo with
      |some _=>exact h1.elim
      |none=>
       simp only[fO,oi]at hl;subst hl;refine⟨?_,fun _=>rfl,Nat.zero_le _,by simp⟩;cases isS<;>simp[Instr.sliceBounds,(e0 _).1]
     |some v=>
      cases clo with
      |none=>exact h1.elim
      |some cv=>
       obtain⟨e1,e2⟩:=jt (P:=P) (w:=w) (code:=.sliceB) hl h1 (Nat.le_refl _);refine⟨?_,by simp,e2,by simp⟩;cases isS<;>simp[Instr.sliceBounds,(e0 _).1,e1]
 |some mv=>
  cases cmx with
  |none=>exact h3.elim
  |some cmv=>
   have em:=fun code=>jt (P:=P) (w:=w) (code:=code) hm h3 hc
   cases hi with
   |none=>simp[gq]at hh
   |some hv=>
    cases chi with
    |none=>exact h2.elim
    |some chv=>
     have e0:=fun code=>jt (P:=P) (w:=w) (code:=code) hh h2 (Nat.le_refl _)
     cases lo with
     |none=>
      cases clo with
      |some _=>exact h1.elim
      |none=>
       simp only[fO,oi]at hl;subst hl;refine⟨?_,fun _=>rfl,Nat.zero_le _,fun _=>(em .index).2⟩;cases isS<;>simp[Instr.sliceBounds,(em _).1,(e0 _).1]
     |some v=>
      cases clo with
      |none=>exact h1.elim
      |some cv=>
       obtain⟨e1,e2⟩:=jt (P:=P) (w:=w) (code:=.slice3C) hl h1 (Nat.le_refl _);refine⟨?_,by simp,e2,fun _=>(em .index).2⟩;cases isS<;>simp[Instr.sliceBounds,(em _).1,(e0 _).1,e1]
theorem tL{isS:Bool}{a:Option Addr}{a':Option Addr}{len c c' size:Nat}{lo hi mx clo chi cmx:Option Value}{v:Value}(h:jA a len c size lo hi mx=some v)
  (hv:VG J.g (.slice a len c) (.slice a' len c')) (h1:oF J lo clo) (h2:oF J hi chi) (h3:oF J mx cmx) :
  ∃l h m,(Instr.sliceBounds isS len c' clo chi cmx).run P w=.ok (l,h,m) w/\VG J.g v (.slice (if m=l then a' else a'.map (·.add (l*size))) (h-l) (m-l)):=by
 obtain⟨_,_,e,hcap⟩:=hv.sliceAny;simp only[Value.slice.injEq,true_and]at e;obtain⟨rfl,rfl⟩:=e;unfold jA at h;split at h
 ·cases h
 ·rename_i m hm
  split at h
  ·cases h
  ·rename_i hh' hh
   split at h
   ·cases h
   ·rename_i l hl
    obtain⟨e1,e2,e3,e4⟩:=tP (P:=P) (w:=w) (isS:=isS) hcap hm hh hl h1 h2 h3;cases hb:Nat.ble hh' m with
    |false=>rw[hb]at h;simp at h
    |true=>
     rw[hb]at h;simp only[cond_true]at h;have hhm:hh'<=m:=Nat.le_of_ble_eq_true hb;refine⟨l,hh',if mx.isSome then m else c',e1,?_⟩;cases hx:(Nat.blt c aI || mx.isSome)with
     |true=>
      rw[hx]at h;simp only[cond_true,oi]at h;subst h;have hmm:(if mx.isSome then m else c')=m:=by
       cases mx with
       |some _=>rfl
       |none=>
        simp only[Option.isSome_none,Bool.or_false]at hx;have hc:c<aI:=Nat.le_of_ble_eq_true hx;simp only[fg,oi]at hm;rw[dE hc]at hm;cases a with
        |none=>obtain⟨rfl,rfl,e⟩:=hv.nilSlice;simp at e;simp[e,<-hm]
        |some a=>
         rcases hv.sliceL with ⟨_,L,c2,_,e,q⟩|⟨rfl,_,a2,c2,e,q⟩
         ·simp only[Value.slice.injEq,true_and]at e
          obtain⟨_,rfl⟩:=e;rcases q with ⟨_,rfl⟩|⟨m',rfl,_⟩
          ·simp[hm]
          ·have:=cS L.es m';omega
         ·simp only[Value.slice.injEq,true_and]at e
          rcases q with ⟨rfl,rfl⟩|rfl
          ·simp[e.2,<-hm]
          ·omega
      rw[hmm];have hmslack:m<aI:=by
       have hml:m<=bW c:=by
        cases mx with
        |some _=>exact e4 rfl
        |none=>simp only[fg,oi]at hm;omega
       have:=Nat.mod_lt c eQ;unfold bW at hml;omega
      cases a with
      |none=>
       obtain⟨rfl,rfl,e⟩:=hv.nilSlice;simp only[Value.slice.injEq]at e;obtain⟨rfl,_,rfl⟩:=e;have hm0:m=0:=by
        have hml:m<=bW 0:=by
         cases mx with
         |some _=>exact e4 rfl
         |none=>simp only[fg,oi]at hm;omega
        rw[dE eQ]at hml;omega
       subst hm0;have:hh'=0:=by omega
       subst this;have:l=0:=by omega
       subst this;exact .flat _ rfl
      |some a=>
       rcases hv.sliceL with ⟨hs,L,c2,hL,e,q⟩|⟨rfl,⟨xs,hs⟩,a2,c2,e,q⟩
       rotate_left
       ·simp only[Value.slice.injEq,true_and]at e
        obtain⟨rfl,rfl⟩:=e;have hm0:m=0:=by
         have hml:m<=bW c:=by
          cases mx with
          |some _=>exact e4 rfl
          |none=>simp only[fg,oi]at hm;omega
         have h00:bW c=0:=by
          rcases q with ⟨rfl,_⟩|rfl
          ·rfl
          ·simp[bW]
         omega
        subst hm0;have:hh'=0:=by omega
        subst this;have:l=0:=by omega
        subst this;exact .sliceE a a2 xs hs
       simp only[Value.slice.injEq,true_and]at e;obtain⟨rfl,rfl⟩:=e;cases hml:Nat.beq m l with
       |true=>
        have:=Nat.eq_of_beq_eq_true hml;simp only[cond_true,this,if_true];exact .sliceX a L _ _ hs hL (by omega)
       |false=>
        have:=Nat.ne_of_beq_eq_false hml;simp only[cond_false,this,if_false,Option.map_some,ik];have q:=VG.sliceX (g:=J.g) (dP a (l*size)) L (hh'-l) (m-l) (by simpa[dP]using hs) (by simpa[dP]using hL) (by omega);simpa[dP,Nat.add_assoc]using q
     |false=>
      rw[hx]at h;simp only[cond_false]at h;simp only[Bool.or_eq_false_iff]at hx;obtain⟨hx1,hx2⟩:=hx;have hcs:aI<=c:=by
       rcases Nat.lt_or_ge c aI with q|q
       ·rw[da q]at hx1;cases hx1
       ·exact q
      cases mx with
      |some _=>simp at hx2
      |none=>
       simp only[fg,oi]at hm;simp only[Option.isSome_none,Bool.false_eq_true,if_false];cases a with
       |none=>obtain⟨rfl,rfl,_⟩:=hv.nilSlice;have:=eQ;omega
       |some a=>
        rcases hv.sliceL with ⟨hs,L,c2,hL,e,q⟩|⟨rfl,⟨xs,hs⟩,a2,c2,e,q⟩
        rotate_left
        ·simp only[Value.slice.injEq,true_and]at e
         obtain⟨rfl,rfl⟩:=e;obtain rfl:c=aI:=by
          rcases q with ⟨rfl,_⟩|rfl
          ·have:=eQ;omega
          ·rfl
         have h00:bW aI=0:=by simp[bW]
         have:m=0:=by omega
         subst this;have:hh'=0:=by omega
         subst this;have:l=0:=by omega
         subst this;rw[show Nat.beq 0 0=true from rfl]at h;simp only[cond_true,oi]at h;subst h;have e0:(if c'=0 then(some a2:Option Addr)else(some a2:Option Addr).map (·.add (0*size)))=some a2:=by
          split
          ·rfl
          ·simp[Addr.add]
         rw[e0,Nat.sub_zero];exact .sliceZ _ _ xs _ hs
        simp only[Value.slice.injEq,true_and]at e;obtain⟨rfl,rfl⟩:=e;rcases q with ⟨q,_⟩|⟨m',rfl,q1,q2,q3⟩
        ·omega
        ·rw[bM q1]at hm
         subst hm;cases hl0:Nat.beq l 0 with
         |true=>
          rw[hl0]at h;simp only[cond_true,oi]at h;subst h;have:=Nat.eq_of_beq_eq_true hl0;subst this;have e0:(if c'=0 then(some ⟨L.b,L.o+a.off,none⟩:Option Addr)else(some ⟨L.b,L.o+a.off,none⟩:Option Addr).map (·.add (0*size)))=some ⟨L.b,L.o+a.off,none⟩:=by
           split
           ·rfl
           ·simp[Addr.add]
          rw[e0,Nat.sub_zero,Nat.sub_zero];exact .sliceI a L _ _ _ hs hL q2 q1 q3
         |false=>
          rw[hl0]at h;simp only[cond_false]at h;cases hl2:(Nat.blt l m' && Nat.beq (ar L.es m' / aI) (size+1))with
          |false=>
           rw[hl2]at h;simp only[cond_false]at h;cases hl3:Nat.beq l m' with
           |false=>rw[hl3]at h;simp at h
           |true=>
            rw[hl3]at h;simp only[cond_true,oi]at h;subst h;have:=Nat.eq_of_beq_eq_true hl3;have e1:hh'-l=0:=by omega
            rw[e1];split
            ·exact .sliceZ _ _ 0 _ rfl
            ·exact .sliceZ _ _ 0 _ rfl
          |true=>
           rw[hl2]at h;simp only[cond_true,oi]at h;subst h;simp only[Bool.and_eq_true]at hl2;have g1:l<m':=Nat.le_of_ble_eq_true hl2.1;have g2:=Nat.eq_of_beq_eq_true hl2.2;rw[iJ q1]at g2;have g3:L.es=size:=by omega
           have hne:¬c'=l:=by omega
           simp only[hne,if_false,Option.map_some,ik];have q:=VG.sliceI (g:=J.g) (dP a (l*size)) L (hh'-l) (m'-l) (c'-l) (by simpa[dP]using hs) (by simpa[dP]using hL) (by omega) (by omega) (by
            simp only[dP];have e9:l*size+(c'-l)*L.es=c'*L.es:=by rw[g3,<-Nat.add_mul];congr 1;omega
            omega)
           rw[g3]at q;simpa[dP,Nat.add_assoc]using q
theorem BZ{t:TypeId}{x cx v:Value}{lo hi mx clo chi cmx:Option Value}(h:fx P t x lo hi mx=some v)(hx:VR J x cx)(h1:oF J lo clo)(h2:oF J hi chi)(h3:oF J mx cmx) :
  ∃c,(Instr.sliceAt t cx clo chi cmx).run P w=.ok c w/\VG J.g v c:=by
 unfold fx at h;split at h
 ·rename_i str hu
  split at h
  ·cases h
  ·split at h
   ·cases h
   ·rename_i hh' hh
    split at h
    ·cases h
    ·rename_i l hl
     simp only[oi]at h;subst h;obtain rfl:=(hx.of_ne (fun a=>by simp)).string;cases cmx with
     |some _=>exact h3.elim
     |none=>
      obtain⟨e1,_,_,_⟩:=tP (P:=P) (w:=w) (isS:=false) (len:=str.size) (c:=str.size) (m:=str.size) (mx:=none) (cmx:=none) (Nat.le_refl _) rfl hh hl h1 h2 trivial;exact⟨_,by simp[Instr.sliceAt,Instr.slice,aE hu,e1],.flat _ rfl⟩
 ·rename_i e a len c hu
  split at h
  ·rename_i n hn
   obtain⟨a',c',rfl,_⟩:=(hx.of_ne (fun a=>by simp)).sliceAny;obtain⟨l,hh,m,e1,e2⟩:=tL (P:=P) (w:=w) (isS:=true) h (hx.of_ne (fun a=>by simp)) h1 h2 h3;exact⟨_,by simp[Instr.sliceAt,Instr.slice,aE hu,e1,bK hn],e2⟩
  ·cases h
 ·rename_i n e a hu
  split at h
  ·rename_i z hsp hz
   obtain⟨L,hL,rfl⟩:=hx.ptrL;simp only[dm.at,hsp]at hL;cases hns:Nat.blt n aI with
   |false=>rw[hns]at h;simp at h
   |true=>
    rw[hns]at h;simp only[cond_true]at h;have hv:=VG.sliceX (g:=J.g) a L n n hsp hL (Nat.le_of_ble_eq_true hns);obtain⟨l,hh,m,e1,e2⟩:=tL (P:=P) (w:=w) (isS:=false) h hv h1 h2 h3;refine⟨_,?_,e2⟩;simp only[Instr.sliceAt,Sem.run_bind,aE hu,Instr.sureAddr,Sem.run_pure,Result.andThen_ok,e1,bK hz]
    congr 2
    split<;>rfl
  ·cases h
 ·cases h
end Go.Sim
namespace Go.Sim
variable{P:Program}{w:World}{J:dm}{s:St}
theorem Ar(off:Nat):∀(vs:List Value) (k:Nat) (cells:Array Value),off+k+vs.length<=cells.size->
  (vs.zipIdx k).foldl (fun(cs:Array Value) (p:Value×Nat)=>cs.setIfInBounds (off+p.2) p.1) cells=gF cells (off+k) vs
 | [],k,cells,_=>by
  apply Array.ext';simp[gF]
 |v :: rest,k,cells,h=>by
  simp only[List.length_cons]at h;simp only[List.zipIdx_cons,List.foldl_cons];rw[Ar off rest (k+1) _ (by simp;omega)];apply Array.ext_getElem?;intro i;rw[jS (by simp;omega),jS (by simp;omega)];simp only[Array.getElem?_setIfInBounds,List.length_cons];by_cases h1:i=off+k
  ·subst h1
   rw[if_neg (by omega),if_pos rfl,if_pos (by omega),if_pos ⟨by omega,by omega⟩];simp
  ·by_cases h2:off+(k+1)<=i/\i<off+(k+1)+rest.length
   ·rw[if_pos h2,if_pos ⟨by omega,by omega⟩]
    obtain⟨d,hd⟩:∃d,i-(off+k)=d+1:=⟨i-(off+k)-1,by omega⟩;rw[hd,show i-(off+(k+1))=d by omega];simp
   ·rw[if_neg h2,if_neg (by omega),if_neg (by omega)]
def pK(J:dm)(l l':List (Nat×Value)):Prop:=l.length=l'.length/\∀(i:Nat) (p q:Nat×Value),l[i]?=some p->l'[i]?=some q->p.1=q.1/\VR J p.2 q.2
theorem jl{place:Nat->Option (Nat×Nat)}{place':Nat->Option (Nat×Nat)}(hpl:∀i x,place i=some x->place' i=some x):∀(l l':List (Nat×Value)) (cells:List Value) (ccells:Array Value) (cs:List Value),
  fZ place cells l=some cs->pK J l l'->dK J.g cells ccells.toList->∃cs',Instr.fill place' ccells l'=some cs'/\dK J.g cs cs'.toList
 | [],l',cells,ccells,cs,h,hp,hc=>by
  have:l'=[]:=by have:=hp.1;cases l'<;>simp_all
  subst this;simp only[fZ,oi]at h;subst h;exact⟨ccells,rfl,hc⟩
 |(i,v) :: l,l',cells,ccells,cs,h,hp,hc=>by
  cases l' with
  |nil=>have:=hp.1;simp at this
  |cons q l'=>
   obtain⟨i',c⟩:=q;obtain⟨e1,e2⟩:=hp.2 0 _ _ rfl rfl;simp only at e1 e2;subst e1;simp only[fZ]at h;split at h
   ·rename_i off size hpi
    cases hb:(Nat.beq v.cells.toList.length size && v.cells.toList.all aA)with
    |false=>rw[hb]at h;simp at h
    |true=>
     rw[hb]at h;simp only[cond_true]at h;simp only[Bool.and_eq_true]at hb;split at h
     ·rename_i cells' hsl
      have hvc:=e2.cells hb.2;have hsz:=Nat.eq_of_beq_eq_true hb.1;obtain⟨hs1,hs2⟩:=kf hsl;have hlen:c.cells.size=size:=by have:=hvc.1;simp at this hsz;omega
      have hroom:off+c.cells.size<=ccells.size:=by have:=hc.1;have:=hvc.1;simp at *;omega
      have hnew:dK J.g cells' (gF ccells off c.cells.toList).toList:=by
       rw[hs2];simp only[gF];have hl:=hvc.1;rw[hl];have:=(hc.take off).append (hvc.append (hc.drop (off+c.cells.toList.length)));simpa[List.append_assoc]using this
      have hp':pK J l l':=⟨by have:=hp.1;simpa using this,fun k p q h1 h2=>hp.2 (k+1) p q (by simpa using h1) (by simpa using h2)⟩;obtain⟨cs',f1,f2⟩:=jl hpl l l' cells' (gF ccells off c.cells.toList) cs h hp' hnew;refine⟨cs',?_,f2⟩;have hfold:c.cells.zipIdx.foldl (fun(cs:Array Value) (p:Value×Nat)=>cs.setIfInBounds (off+p.2) p.1) ccells=gF ccells off c.cells.toList:=by
       have:=Ar off c.cells.toList 0 ccells (by simpa using hroom);rw[Nat.add_zero]at this;rw[<-this,<-Array.foldl_toList];simp
      simp only[Instr.fill,hpl _ _ hpi];rw[if_neg (by simp[hlen];omega)];show Instr.fill place' (c.cells.zipIdx.foldl (fun(cs:Array Value) (p:Value×Nat)=>cs.setIfInBounds (off+p.2) p.1) ccells) l'=some cs';rw[hfold];exact f1
     ·cases h
   ·cases h
theorem rT(P:Program):∀(fs:List Field),fs.all (fun f=>(P.info? f.type).isSome)=true->∃places,fs.mapM (fun f=>(P.info? f.type).map fun i=>(f.offset,i.size))=some places/\∀i x,gN P fs i=some x->places[i]?=some x
 | [],_=>⟨[],rfl,fun i x h=>by simp[gN]at h⟩
 |f :: fs,h=>by
  simp only[List.all_cons,Bool.and_eq_true]at h;obtain⟨pl,h1,h2⟩:=rT P fs h.2;obtain⟨i,hi⟩:=Option.isSome_iff_exists.1 h.1;refine⟨(f.offset,i.size) :: pl,by simp[List.mapM_cons,hi,h1],fun k x hk=>?_⟩;cases k with
  |zero=>simp[gN,bI,hi]at hk;simp[hk]
  |succ k=>simp only[List.getElem?_cons_succ];exact h2 k x (by simpa[gN]using hk)
theorem BB{t:TypeId}{parts:List (Nat×Value)}{cparts:Array (Nat×Value)}{v:Value}(h:rg P t parts=some v)(hp:pK J parts cparts.toList):∃c,(Instr.build t cparts).run P w=.ok c w/\VG J.g v c:=by
 unfold rg at h;split at h
 ·rename_i z hz
  obtain⟨hfl,it,hit,hiz⟩:=dO hz;split at h
  ·rename_i fs hu
   cases ha:fs.toList.all (fun f=>(P.info? f.type).isSome)with
   |false=>rw[ha]at h;simp at h
   |true=>
    rw[ha]at h;simp only[cond_true]at h;split at h
    ·rename_i cs hcs
     simp only[oi]at h;subst h;obtain⟨pl,p1,p2⟩:=rT P fs.toList ha;obtain⟨cs',f1,f2⟩:=jl (place':=(pl.toArray[·]?)) (fun i x hx=>by simpa using p2 i x hx) parts cparts.toList _ _ _ hcs hp (jF hfl);refine⟨.agg cs',run_build w t cparts cs' (by simp only[Program.built,hit,hu,hiz,p1];exact f1),?_⟩;have:=f2.agg;simpa using this
    ·cases h
  ·rename_i n e hu
   split at h
   ·rename_i k hk
    split at h
    ·rename_i cs hcs
     simp only[oi]at h;subst h;obtain⟨ie,hie,hik⟩:=vu hk;obtain⟨cs',f1,f2⟩:=jl (place':=fun i=>some (i*ie.size,ie.size)) (fun i x hx=>by rw[hik];exact hx) parts cparts.toList _ _ _ hcs hp (jF hfl);refine⟨.agg cs',run_build w t cparts cs' (by simp only[Program.built,hit,hu,hiz,hie];exact f1),?_⟩;have:=f2.agg;simpa using this
    ·cases h
   ·cases h
  ·cases h
 ·cases h
theorem fv(z:List Value):∀n,(aZ z n).length=n*z.length
 |0=>by simp[aZ]
 |n+1=>by simp[aZ,fv z n,Nat.add_mul];omega
theorem tp(z:List Value):∀n i,i<n*z.length->(aZ z n)[i]?=z[i % z.length]?
 |0,i,h=>by simp at h
 |n+1,i,h=>by
  have hz:0<z.length:=by
   rcases Nat.eq_zero_or_pos z.length with q|q
   ·rw[q]at h;simp at h
   ·exact q
  simp only[aZ];by_cases hi:i<z.length
  ·rw[List.getElem?_append_left hi,Nat.mod_eq_of_lt hi]
  ·rw[List.getElem?_append_right (by omega),tp z n (i-z.length) (by rw[Nat.add_mul]at h;omega)]
   congr 1
   exact(Nat.mod_eq_sub_mod (by omega)).symm
theorem iE(z:Array Value)(n:Nat):((Array.range (n*z.size)).map (fun i=>z[i % z.size]!)).toList=aZ z.toList n:=by
 apply List.ext_getElem?;intro i;by_cases h:i<n*z.size
 ·have hz:0<z.size:=by
   rcases Nat.eq_zero_or_pos z.size with q|q
   ·rw[q]at h;simp at h
   ·exact q
  have hm:i % z.size<z.size:=Nat.mod_lt _ hz;rw[tp _ _ _ (by simpa using h)];simp[h,hm]
 ·have h1:((Array.range (n*z.size)).map (fun i=>z[i % z.size]!)).toList.length=n*z.size:=by simp
  have h2:=fv z.toList n;simp only[Array.length_toList]at h2;rw[List.getElem?_eq_none (by omega),List.getElem?_eq_none (by omega)]
theorem jH{g:Nat->Option cN}{z:List Value}(h:dK g z z):∀n,dK g (aZ z n) (aZ z n)
 |0=>.nil _
 |n+1=>h.append (jH h n)
theorem sz{mk:jK}(hM:v5 J s w mk){t:TypeId}{len:Nat}{parts:List (Nat×Value)}{cparts:Array (Nat×Value)}{v:Value}{s':St}(h:dD P mk t len parts=some (v,s'))(hp:pK J parts cparts.toList) :
  ∃c w' J',(Instr.buildSlice t len cparts).run P w=.ok c w'/\aQ J s w J' s' w'/\(∀t L,J.l t=some L->J'.l t=some L)/\VG J'.g v c/\s'.env=s.env/\dI (Ce mk) J.g J'.g/\dI (fun _=>False) J.l J'.l:=by
 unfold dD at h;split at h
 ·rename_i e hu
  split at h
  ·rename_i n z hn hz
   obtain⟨hfl,it,hit,hiz⟩:=dO hz;cases hb:(Nat.ble (len*n) 16777216 && Nat.beq z.cells.toList.length n && Nat.ble len 16777216)with
   |false=>rw[hb]at h;simp at h
   |true=>
    rw[hb]at h;simp only[cond_true]at h;simp only[Bool.and_eq_true]at hb;have hb1:=Nat.le_of_ble_eq_true hb.1.1;have hb2:=Nat.eq_of_beq_eq_true hb.1.2;have hb3:=Nat.le_of_ble_eq_true hb.2;split at h
    ·rename_i cs hcs
     split at h
     ·rename_i a s2 hnew
      simp only[oi,pj]at h;obtain⟨rfl,rfl⟩:=h
      let z0:Array Value:=if len*n=0 then #[] else z.cells
      have hcells:((Array.range (len*n)).map (fun i=>z0[i % z0.size]!)).toList=aZ z.cells.toList len:=by
       by_cases h0:len*n=0
       ·have hl:(aZ z.cells.toList len)=[]:=by
         apply List.length_eq_zero_iff.1;rw[fv,hb2];exact h0
        rw[hl,h0];simp
       ·have:z0=z.cells:=by simp[z0,h0]
        rw[this];have:=iE z.cells len;rw[show z.cells.size=n by simpa using hb2]at this ⊢;exact this
      obtain⟨cs',f1,f2⟩:=jl (place':=fun i=>some (i*n,n)) (fun i x hx=>hx) parts cparts.toList _ ((Array.range (len*n)).map (fun i=>z0[i % z0.size]!)) _ hcs hp (by rw[hcells];exact jH (jF hfl) len);obtain⟨J',g1,g2,g3,g4,g6,ga,gb⟩:=hM _ _ _ cs' _ _ e hnew (by have:=CR.of_VGs f2;simpa using this);obtain⟨id,g7,g8⟩:=g6 rfl;simp only[Value.pointer.injEq,oi]at g7;subst g7;refine⟨.slice (some ⟨w.heap.size,0,none⟩) len len,w.alloc (.cells cs' e),J',?_,g1,g2,?_,g4,ga.mono (fun _ q=>q.2),gb.mono (fun _ q=>by cases q.1)⟩
      ·simp only[Instr.buildSlice,Sem.run_bind,aE hu,Result.andThen_ok,bK hn]
       rw[Sem.run_ite,if_neg (by omega)];by_cases h0:len*n=0
       ·have hz0:z0=#[]:=by simp[z0,h0]
        rw[hz0]at f1;rw[if_pos h0];simp only[Sem.run_bind,Sem.run_pure,Result.andThen_ok,f1,newRow,run_newObj];rfl
       ·have hz0:z0=z.cells:=by simp[z0,h0]
        rw[hz0]at f1;rw[if_neg h0];simp only[Sem.run_bind,Sem.run_pure,Result.andThen_ok,dZ hz,f1,newRow,run_newObj];rfl
      ·have hlen:len<aI:=by unfold aI;omega
       have q:=VG.sliceX (g:=J'.g) ⟨id,0,none⟩ _ len len rfl g8 hlen;simpa using q
     ·cases h
    ·cases h
  ·cases h
 ·cases h
end Go.Sim
namespace Go.Sim
variable{P:Program}{w:World}{J:dm}{s:St}
theorem mr{n:Int}(h0:0<=n)(h1:n<=1073741824):IntKind.i64.wrap n=n:=by
 unfold IntKind.wrap;have e:(2 ^ IntKind.i64.bits:Int)=18446744073709551616:=by decide
 have e2:(2 ^ (IntKind.i64.bits-1):Int)=9223372036854775808:=by decide
 simp only[e,e2];rw[Int.emod_eq_of_lt h0 (by omega)];simp only[IntKind.signed,Bool.true_and,decide_eq_true_eq];rw[if_neg (by omega)]
theorem uF{mk:jK}(hM:v5 J s w mk){t:TypeId}{l c cl cc v:Value}{s':St}(h:dR P mk t l c=some (v,s'))(hl:VR J l cl)(hc:VR J c cc) :
  ∃r w' J',(Instr.makeSlice t cl cc).run P w=.ok r w'/\aQ J s w J' s' w'/\(∀t L,J.l t=some L->J'.l t=some L)/\VG J'.g v r/\s'.env=s.env/\dI (Ce mk) J.g J'.g/\dI (fun _=>False) J.l J'.l:=by
 unfold dR at h;split at h
 ·rename_i e k1 l k2 c hu
  obtain rfl:=(hl.of_ne (fun a=>by simp)).int;obtain rfl:=(hc.of_ne (fun a=>by simp)).int;split at h
  ·rename_i n z by_ hn hz hby
   split at h
   ·rename_i hcond
    obtain⟨c1,c2,c3,c4,c5⟩:=hcond;split at h
    ·rename_i a s2 hnew
     simp only[oi,pj]at h;obtain⟨rfl,rfl⟩:=h;obtain⟨hfl,it,hit,hiz⟩:=dO hz;obtain⟨it2,hit2,hbt⟩:=mL hby
     rw[hit]at hit2;obtain rfl:=Option.some.inj hit2
     let z0:Array Value:=if c.toNat*n=0 then #[] else z.cells
     have hcells:((Array.range (c.toNat*n)).map (fun i=>z0[i % z0.size]!)).toList=aZ z.cells.toList c.toNat:=by
      by_cases h0:c.toNat*n=0
      ·have hl:(aZ z.cells.toList c.toNat)=[]:=by
        apply List.length_eq_zero_iff.1;rw[fv,c5];exact h0
       rw[hl,h0];simp
      ·have:z0=z.cells:=by simp[z0,h0]
       rw[this];have:=iE z.cells c.toNat;rw[show z.cells.size=n by simpa using c5]at this ⊢;exact this
     obtain⟨J',g1,g2,g3,g4,g6,ga,gb⟩:=hM _ _ _ ((Array.range (c.toNat*n)).map (fun i=>z0[i % z0.size]!)) _ _ e hnew (by rw[show(Array.range (c.toNat*n)).map (fun i=>z0[i % z0.size]!)=(aZ z.cells.toList c.toNat).toArray from Array.ext' (by rw[hcells])];exact CR.of_VGs (jH (g:=J.g) (jF hfl) c.toNat));obtain⟨id,g7,g8⟩:=g6 rfl;simp only[Value.pointer.injEq,oi]at g7;subst g7;refine⟨.slice (some ⟨w.heap.size,0,none⟩) l.toNat c.toNat,w.alloc (.cells ((Array.range (c.toNat*n)).map (fun i=>z0[i % z0.size]!)) e),J',?_,g1,g2,?_,g4,ga.mono (fun _ q=>q.2),gb.mono (fun _ q=>by cases q.1)⟩
     ·have wl:IntKind.i64.wrap l=l:=mr c1 (by omega)
      have wc:IntKind.i64.wrap c=c:=mr (by omega) c3;have hbig:¬((by_:Int)*c>2 ^ 48):=by
       have h1:(by_:Int)*c<=16384*1073741824:=Int.mul_le_mul (by omega) c3 (by omega) (by omega);have h2:(2:Int) ^ 48=281474976710656:=by decide
       omega
      have hno:¬((((decide (c<0) || decide ((by_:Int)*c>2 ^ 48)) || decide (l<0)) || decide (l>c))=true):=by
       simp only[Bool.or_eq_true,decide_eq_true_eq,not_or];exact⟨⟨⟨by omega,hbig⟩,by omega⟩,by omega⟩
      by_cases h0:c.toNat*n=0
      ·have hz0:z0=#[]:=by simp[z0,h0]
       simp only[Instr.makeSlice,Sem.run_bind,aE hu,asInt,asIntOf,Sem.run_pure,Result.andThen_ok,fL hit,hbt,wl,wc];rw[Sem.run_ite,if_neg hno];simp only[Sem.run_pure,Result.andThen_ok,Sem.run_bind,run_askRoom,bK hn];rw[Sem.run_ite,if_pos h0];simp only[Sem.run_pure,Result.andThen_ok,Sem.run_bind,newRow,run_newObj,hz0];rfl
      ·have hz0:z0=z.cells:=by simp[z0,h0]
       simp only[Instr.makeSlice,Sem.run_bind,aE hu,asInt,asIntOf,Sem.run_pure,Result.andThen_ok,fL hit,hbt,wl,wc];rw[Sem.run_ite,if_neg hno];simp only[Sem.run_pure,Result.andThen_ok,Sem.run_bind,run_askRoom,bK hn];rw[Sem.run_ite,if_neg h0];simp only[Sem.run_pure,Result.andThen_ok,Sem.run_bind,dZ hz,newRow,run_newObj,hz0];rfl
     ·have q:=VG.sliceX (g:=J'.g) ⟨id,0,none⟩ _ l.toNat c.toNat rfl g8 (by unfold aI;omega)
      simpa using q
    ·cases h
   ·cases h
  ·cases h
 ·cases h
theorem HR.drew{d:Nat}(h:HR J s w):HR J s { w with drawn:=d }:=
 { gdom:=h.gdom,gblk:=h.gblk,gcon:=h.gcon,ginj:=h.ginj,ldom:=h.ldom,lcon:=h.lcon,linj:=h.linj,sep:=h.sep }
theorem aQ.drew{d:Nat}(h:HR J s w):aQ J s w J s { w with drawn:=d } where
 hr:=h.drew
 mono:=fun _ _ h=>h
 next:=Nat.le_refl _
 low:=Nat.le_refl _
 size:=Nat.le_refl _
 os:=rfl
 tape:=rfl
 output:=rfl
 fresh:=(fun id L h1 h2=>by rw[h2]at h1;cases h1)
 lfresh:=fun t L h1=>.inr ⟨t,L,h1,rfl⟩
 frame:=fun _ _ _ _=>rfl
theorem aQ.kill (h : HR J s w) {b : Nat} (_hb : b < s.h.next) : aQ J s w J { s with h := s.h.kill b } w where
  hr := { gdom := h.gdom, gblk := h.gblk, ldom := h.ldom, lcon := h.lcon, linj := h.linj, sep := h.sep
          gcon := fun id L b1 h1 h2 => by
            simp only [af.kill, cg.get_set] at h2
            by_cases e : b = id
            · simp only [e, if_true, oi] at h2; subst h2; trivial
            · simp only [e, if_false] at h2; exact h.gcon _ _ _ h1 h2
          ginj := fun id id' L L' b1 b2 h1 h2 h3 h4 hv1 hv2 hb9 => by
            simp only [af.kill, cg.get_set] at h3 h4
            by_cases e : b = id
            · simp only [e, if_true, oi] at h3; subst h3; cases hv1
            · by_cases e' : b = id'
              · simp only [e', if_true, oi] at h4; subst h4; cases hv2
              · simp only [e, if_false] at h3
                simp only [e', if_false] at h4
                exact h.ginj _ _ _ _ _ _ h1 h2 h3 h4 hv1 hv2 hb9 }
  mono := fun _ _ h => h
  next := Nat.le_refl _
  low := Nat.min_le_left _ _
  size := Nat.le_refl _
  os := rfl
  tape := rfl
  output := rfl
  fresh := (fun id L h1 h2 => by rw [h2] at h1; cases h1)
  lfresh := fun t L h1 => .inr ⟨t, L, h1, rfl⟩
  frame := fun _ _ _ _ => rfl
theorem iD(z:Array Value)(n:Nat):(Builtin.zeroCells z n).toList=aZ z.toList n:=iE z n
def Gm(P:Program)(w:World)(zeros:Bool)(e size n:Nat)(cx:Value)(us:List Value):Prop:=
 (zeros=false/\(Builtin.lenOf cx).run P w=.ok n w/\(Builtin.firstCells size n cx).run P w=.ok us.toArray w) \/
 (zeros=true/\∃k m z it,cx=.int k m/\0<=m/\m<=1073741824/\n=m.toNat/\P.info? e=some it/\it.bytes<=16384/\(zeroValue e).run P w=.ok z w/\z.cells.toList.length=size/\us=aZ z.cells.toList n)
theorem Ei(hR:HR J s w){e:TypeId}{size:Nat}{zeros:Bool}{x cx:Value}{n:Nat}{news:List Value}(h:gI P s.h e size zeros x=some (n,news))(hx:VR J x cx) :
  ∃us,dK J.g news us/\∀d,Gm P { w with drawn:=d } zeros e size n cx us:=by
 unfold gI at h;cases zeros with
 |true=>
  simp only[cond_true]at h;split at h
  ·rename_i k m z by_ hz hby
   split at h
   ·rename_i hcond
    obtain⟨c1,c2,c3,c4⟩:=hcond;simp only[oi,pj]at h;obtain⟨rfl,rfl⟩:=h;obtain rfl:=(hx.of_ne (fun a=>by simp)).int;obtain⟨hfl,it,hit,hiz⟩:=dO hz;obtain⟨it2,hit2,hbt⟩:=mL hby
    rw[hit]at hit2;obtain rfl:=Option.some.inj hit2;exact⟨aZ z.cells.toList m.toNat,jH (jF hfl) _,fun d=>.inr ⟨rfl,k,m,z,it,rfl,c1,c2,rfl,hit,by omega,dZ hz,c4,rfl⟩⟩
   ·cases h
  ·cases h
 |false=>
  simp only[cond_false]at h;split at h
  ·rename_i a m c
   split at h
   ·rename_i l hl
    simp only[oi,pj]at h;obtain⟨rfl,rfl⟩:=h;obtain⟨hs,L,c',hL,rfl,_⟩:=(hx.of_ne (fun a=>by simp)).sliceG (gA hl).1;obtain⟨l',h1,h2,h3⟩:=hR.read (a:=a) (L:=L) (by simp[dm.at,hs,hL]) (gA hl).2;have:=fun d=>run_loadCells_list (P:=P) { w with drawn:=d } ⟨L.b,L.o+a.off,none⟩ l' h3
    rw[h2]at this;exact⟨l',h1,fun d=>.inl ⟨rfl,by simp[Builtin.lenOf],by simp[Builtin.firstCells,this d]⟩⟩
   ·cases hb:(a.spot.isSome && Nat.beq m 0)with
    |false=>rw[hb]at h;simp at h
    |true=>
     rw[hb]at h;simp only[cond_true,oi,pj]at h;obtain⟨rfl,rfl⟩:=h;simp only[Bool.and_eq_true]at hb;rcases(hx.of_ne (fun a=>by simp)).sliceL with ⟨hs,_⟩|⟨rfl,_,a',c',rfl,_⟩
     ·rw[hs]at hb;simp at hb
     ·exact⟨[],.nil _,fun d=>.inl ⟨rfl,by simp[Builtin.lenOf],by simp[Builtin.firstCells,loadCells,loadCellsFrom]⟩⟩
  ·rename_i m c
   cases hb:Nat.beq m 0 with
   |false=>rw[hb]at h;simp at h
   |true=>
    rw[hb]at h;simp only[cond_true,oi,pj]at h;obtain⟨rfl,rfl⟩:=h;obtain⟨rfl,rfl,rfl⟩:=(hx.of_ne (fun a=>by simp)).nilSlice;exact⟨[],.nil _,fun d=>.inl ⟨rfl,by simp[Builtin.lenOf],by simp[Builtin.firstCells]⟩⟩
  ·rename_i b
   simp only[oi,pj]at h;obtain⟨rfl,rfl⟩:=h;obtain rfl:=(hx.of_ne (fun a=>by simp)).string;refine⟨_,dK.flat (by simp only[List.all_map,List.all_eq_true];intro a _;rfl),fun d=>.inl ⟨rfl,by simp[Builtin.lenOf],?_⟩⟩;have e:b.extract 0 b.size=b:=by simp
   simp only[Builtin.firstCells,e,Sem.run_pure]
   congr 1
   apply Array.ext';simp
  ·cases h
theorem A4{need c:Nat}(h:c<need):Builtin.nextslicecap need c<=2*need+768:=by
 unfold Builtin.nextslicecap;split
 ·omega
 ·split
  ·omega
  ·have key:∀rounds c,c<=2*need+768->Builtin.growBy need rounds c<=2*need+768:=by
    intro rounds
    induction rounds with
    |zero=>intro c hc;simpa[Builtin.growBy]using hc
    |succ r ih=>
     intro c hc;simp only[Builtin.growBy];split
     ·exact hc
     ·exact ih _ (by omega)
   exact key 4 c (by omega)
theorem uT{n:Nat}(h:n<=1073741824):n<aI:=by unfold aI;omega
theorem zW{e size n:Nat}{z:Value}(hz:(zeroValue e).run P w=.ok z w)(hl:z.cells.toList.length=size) :
  (if n*size=0 then(pure #[]:Sem (Array Value))else do pure (Builtin.zeroCells (<-zeroValue e).cells n)).run P w=.ok (aZ z.cells.toList n).toArray w:=by
 by_cases h0:n*size=0
 ·rw[if_pos h0]
  have:aZ z.cells.toList n=[]:=by apply List.length_eq_zero_iff.1;rw[fv,hl];exact h0
  rw[this];rfl
 ·rw[if_neg h0]
  simp only[Sem.run_bind,hz,Result.andThen_ok,Sem.run_pure]
  congr 1
  apply Array.ext';rw[iD]
theorem jZ{t xt ty e:TypeId}{x:Value}{base:Option Addr}{len c size:Nat}{xd:TypeDesc}{n:Nat}{us:List Value}
  (hu:P.underlying t=some (.slice e)) (hxu:P.underlying xt=some xd) (hn:bI P e=some size) (hN:Gm P w (ct (some xd)) e size n x us) (hroom:len+n<=c) :
  (Builtin.append_ #[t,xt] ty #[.slice base len c,x]).run P w =
   ((match base with|some a=>storeCells (a.add (len*size)) us|none=>pure ():Sem Unit).run P w).andThen fun _ w'=>.ok (.slice base (len+n) c) w':=by
 unfold Builtin.append_;simp only[List.getElem?_toArray,List.getElem?_cons_zero,List.getElem?_cons_succ,Sem.run_bind,aE hu,Result.andThen_ok,bK hn,aE hxu,Sem.run_pure];rcases hN with ⟨hz,h1,h2⟩|⟨hz,k,m,z,it,rfl,c1,c2,rfl,hit,c4,h3,h4,rfl⟩
 ·clear hxu
  cases xd<;>first|(exfalso;simp[ct]at hz;done)|skip
  all_goals
   simp only[Bool.false_eq_true,if_false,Bool.not_false,if_true,Sem.run_bind,h1,Result.andThen_ok,hroom,h2];cases base with
   |none=>simp
   |some a=>simp
 ·have wl:IntKind.i64.wrap m=m:=mr c1 c2
  have hbig:¬(m*(it.bytes:Int)>2 ^ 48):=by
   have h1:m*(it.bytes:Int)<=1073741824*16384:=Int.mul_le_mul c2 (by omega) (by omega) (by omega);have h2:(2:Int) ^ 48=281474976710656:=by decide
   omega
  obtain⟨k',rfl⟩:∃k,xd=.int k:=by cases xd<;>simp_all [ct]
  simp only[if_true,Sem.run_bind,asInt,asIntOf,Sem.run_pure,Result.andThen_ok,wl];rw[Sem.run_ite,if_neg (show ¬m<0 by omega)];simp only[Sem.run_bind,Sem.run_pure,Result.andThen_ok,fL hit];rw[Sem.run_ite,if_neg hbig];simp only[Sem.run_bind,Sem.run_pure,Result.andThen_ok];rw[Sem.run_ite,if_pos hroom];simp only[Bool.not_true,Bool.false_eq_true,if_false,Sem.run_bind,zW h3 h4,Result.andThen_ok];cases base with
  |none=>simp
  |some a=>simp
theorem kg{t xt ty e:TypeId}{x:Value}{base:Option Addr}{len c size:Nat}{xd:TypeDesc}{n:Nat}{us old:List Value}{it:TypeInfo}{z:Value}
  (hu:P.underlying t=some (.slice e)) (hxu:P.underlying xt=some xd) (hn:bI P e=some size) (hit:P.info? e=some it) (hby:it.bytes<=16384) (hz:fS P e=some z)
  (hN:Gm P w (ct (some xd)) e size n x us) (hN1:Gm P { w with drawn:=w.drawn+1 } (ct (some xd)) e size n x us)
  (hold:(Builtin.firstCells size len (.slice base len c)).run P { w with drawn:=w.drawn+1 }=.ok old.toArray { w with drawn:=w.drawn+1 })
  (hroom:c<len+n) (hneed:len+n<=1073741824) :
  ∃newCap,len+n<=newCap/\(Builtin.append_ #[t,xt] ty #[.slice base len c,x]).run P w =
   .ok (.slice (some ⟨w.heap.size,0,none⟩) (len+n) newCap) (({ w with drawn:=w.drawn+1 }:World).alloc (.cells (old.toArray++us.toArray++Builtin.zeroCells z.cells (newCap-(len+n))) e)):=by
 have hnot:¬len+n<=c:=by omega
 have hmax:IntKind.i64.max=9223372036854775807:=by decide
 have hsmall:¬(((len+n:Nat):Int)>IntKind.i64.max):=by rw[hmax];omega
 have hcap:¬(Builtin.nextslicecap (len+n) c*it.bytes>2 ^ 48):=by
  have h1:=A4 hroom;have h2:Builtin.nextslicecap (len+n) c*it.bytes<=(2*1073741824+768)*16384:=Nat.mul_le_mul (by omega) hby
  have h3:(2:Nat) ^ 48=281474976710656:=by decide
  omega
 refine⟨(Question.appendCap (len+n) c e).cut (w.tape w.drawn (.appendCap (len+n) c e)),by simp[Question.cut],?_⟩;unfold Builtin.append_;simp only[List.getElem?_toArray,List.getElem?_cons_zero,List.getElem?_cons_succ,Sem.run_bind,aE hu,Result.andThen_ok,bK hn,aE hxu,Sem.run_pure];rcases hN with ⟨hzr,h1,h2⟩|⟨hzr,k,m,z',it',rfl,c1,c2,rfl,hit',c4,h3,h4,rfl⟩
 ·have hr:(Builtin.firstCells size n x).run P { w with drawn:=w.drawn+1 }=.ok us.toArray { w with drawn:=w.drawn+1 }:=by
   rcases hN1 with ⟨_,_,q⟩|⟨q,_⟩
   ·exact q
   ·rw[hzr]at q;cases q
  clear hxu hN1;cases xd<;>first|(exfalso;simp[ct]at hzr;done)|skip
  all_goals
   simp only[Bool.false_eq_true,if_false,Bool.not_false,if_true,Sem.run_bind,h1,Result.andThen_ok,hnot,fL hit,hsmall,false_and,false_or,hcap,run_choose,Question.forced,run_askRoom,hold,hr,dZ hz,newRow,run_newObj,Sem.run_pure];rfl
 ·have wl:IntKind.i64.wrap m=m:=mr c1 c2
  rw[hit]at hit';obtain rfl:=Option.some.inj hit';have hbig:¬(m*(it.bytes:Int)>2 ^ 48):=by
   have h1:m*(it.bytes:Int)<=1073741824*16384:=Int.mul_le_mul c2 (by omega) (by omega) (by omega);have h2:(2:Int) ^ 48=281474976710656:=by decide
   omega
  have hz1:(zeroValue e).run P { w with drawn:=w.drawn+1 }=.ok z' { w with drawn:=w.drawn+1 }:=by
   rw[dZ hz]at h3;obtain⟨rfl,_⟩:z=z'/\True:=by simpa using h3
   exact dZ hz
  obtain⟨k',rfl⟩:∃k,xd=.int k:=by cases xd<;>simp_all [ct]
  simp only[if_true,Sem.run_bind,asInt,asIntOf,Sem.run_pure,Result.andThen_ok,wl];rw[Sem.run_ite,if_neg (show ¬m<0 by omega)];simp only[Sem.run_bind,Sem.run_pure,Result.andThen_ok,fL hit];rw[Sem.run_ite,if_neg hbig];simp only[Sem.run_bind,Sem.run_pure,Result.andThen_ok];rw[Sem.run_ite,if_neg hnot];simp only[Sem.run_bind,Result.andThen_ok,fL hit];rw[Sem.run_ite,if_neg (fun q=>hsmall q.1)];simp only[Sem.run_bind,Result.andThen_ok,fL hit,Sem.run_pure];rw[Sem.run_ite,if_neg hcap];simp only[Bool.not_true,Bool.false_eq_true,if_false,Sem.run_bind,Result.andThen_ok,run_choose,Question.forced,fL hit,run_askRoom,hold,zW hz1 h4,dZ hz,newRow,run_newObj,Sem.run_pure];rfl
end Go.Sim
namespace Go.Sim
variable{P:Program}{w:World}{J:dm}{s:St}
theorem CR.head{g:Nat->Option cN}{l us:List Value}{rest:Array Value}(h:dK g l us):CR g l (us.toArray++rest) 0:=by
 intro i v hi;have hlt:i<us.length:=by rw[<-h.1];exact(List.getElem?_eq_some_iff.1 hi).1
 refine⟨us[i],?_,h.2 i v _ hi (by simp[hlt])⟩;rw[Nat.zero_add,Array.getElem?_append_left (by simpa using hlt)];simp[hlt]
theorem Eh{es:Nat}{cs:List Value}(h:cs.all aA=true):s.new false es cs=some (.pointer (some ⟨s.h.next,0,none⟩),{ s with h:=s.h.push es cs }):=by
 unfold St.new;rw[h];rfl
theorem oe(hR:HR J s w){size n len newCap:Nat}{e:TypeId}{old news uo un:List Value}{z:Array Value}(hold:dK J.g old uo)(hnews:dK J.g news un)(hok:(old++news).all aA=true)
  (ho:uo.length=len*size) (hu:un.length=n*size) (hz:z.size=size) (hcap:len+n<=newCap) (hsm:len+n<=1073741824) :
  ∃J',aQ J s w J' { s with h:=s.h.push size (old++news) } (w.alloc (.cells (uo.toArray++un.toArray++Builtin.zeroCells z (newCap-(len+n))) e))/\(∀t L,J.l t=some L->J'.l t=some L) /\
   VG J'.g (.slice (some ⟨s.h.next,0,none⟩) (len+n) (ar size (len+n))) (.slice (some ⟨w.heap.size,0,none⟩) (len+n) newCap)/\dI (s.h.next<=·) J.g J'.g/\(∀t L,J'.l t=some L->J.l t=some L):=by
 have hcr:CR J.g (old++news) (uo.toArray++un.toArray++Builtin.zeroCells z (newCap-(len+n))) 0:=by
  have:=CR.head (rest:=Builtin.zeroCells z (newCap-(len+n))) (hold.append hnews);simpa using this
 obtain⟨J',g1,g2,g3,g4,g6,ga,gb⟩:=hR.new (Eh hok) hcr e;obtain⟨_,g8⟩:=g6 rfl;refine⟨J',g1,g2,?_,fun k L hk=>(ga k L hk).imp (fun q=>q) (fun q=>by omega),fun t L ht=>(gb t L ht).elim (fun q=>q) (fun q=>by cases q.1)⟩;have hsz:(uo.toArray++un.toArray++Builtin.zeroCells z (newCap-(len+n))).size=newCap*size:=by
  have h1:=fv z.toList (newCap-(len+n));rw[<-iD]at h1;simp only[Array.length_toList,hz]at h1;simp only[Array.size_append,List.size_toArray,ho,hu,h1];rw[<-Nat.add_mul,<-Nat.add_mul]
  congr 1
  omega
 rw[hsz]at g8;have q:=VG.sliceI (g:=J'.g) ⟨s.h.next,0,none⟩ ⟨w.heap.size,0,newCap*size,size⟩ (len+n) (len+n) newCap rfl g8 hcap (uT hsm) (by simp);simpa using q
theorem F6(hR:HR J s w){size n len c' es:Nat}{a:Addr}{L:cN}{cs0 old news un:List Value}(hL:J.g a.block=some L)(hlive:s.h.m.get a.block=some (.live true es cs0))(hes:es=size)
  (hold:iS cs0 a.off (len*size)=some old) (hnews:dK J.g news un) (hok:news.all aA=true) (hu:un.length=n*size) (hcap:len+n<=c') (htot:L.o+a.off+c'*L.es<=L.tot) (hsm:len+n<=1073741824) :
  ∃cs e,w.heap[L.b]?=some (.cells cs e (0,0))/\L.o+a.off+len*size+un.length<=cs.size/\(∀v∈un,v.oneCell'=true) /\
  ∃J',aQ J s w J' { s with h:=(s.h.kill a.block).push size (old++news) } (w.setRow L.b (gF cs (L.o+a.off+len*size) un))/\(∀t L,J.l t=some L->J'.l t=some L) /\
   VG J'.g (.slice (some ⟨s.h.next,0,none⟩) (len+n) (ar size (len+n))) (.slice (some ⟨L.b,L.o+a.off,none⟩) (len+n) c')/\dI (s.h.next<=·) J.g J'.g/\(∀t L,J'.l t=some L->J.l t=some L):=by
 subst hes;obtain⟨hes,cs,e,fr,hw,hcr,hfr⟩:=hR.gcon _ _ _ hL hlive;obtain rfl:=hfr rfl;obtain⟨o2,hw2,htot2⟩:=hR.gblk _ _ hL;rw[hw]at hw2;obtain rfl:=Option.some.inj hw2;have htot2:=htot2 _ _ _ rfl;rw[hes]at htot;have hroom:L.o+a.off+len*es+un.length<=cs.size:=by
  rw[hu,htot2];have:len*es+n*es<=c'*es:=by rw[<-Nat.add_mul];exact Nat.mul_le_mul_right _ hcap
  omega
 have hone:∀v∈un,v.oneCell'=true:=by
  intro v hvm;obtain⟨i,hi⟩:=List.mem_iff_getElem?.1 hvm;have hlt:i<news.length:=by rw[hnews.1];exact(List.getElem?_eq_some_iff.1 hi).1
  simp only[List.all_eq_true]at hok;exact(hnews.2 i news[i] v (by simp[hlt]) hi).oneCell (hok _ (List.getElem_mem hlt))
 refine⟨cs,e,hw,hroom,hone,?_⟩
 let L':cN:=⟨L.b,L.o+a.off,L.tot,es⟩
 let g':Nat->Option cN:=fun id=>if id=s.h.next then some L' else J.g id
 have hblt:a.block<s.h.next:=hR.gdom _ _ hL;have hg':∀id L1,J.g id=some L1->g' id=some L1:=fun id L1 h1=>by
  have:=hR.gdom _ _ h1;simp only[g',show ¬id=s.h.next by omega,if_false,h1]
 have hsplit:∀id L1,g' id=some L1->(id=s.h.next/\L1=L')\/(id≠s.h.next/\J.g id=some L1):=fun id L1 h1=>by
  by_cases hid:id=s.h.next
  ·left;simp only[g',hid,if_true,oi]at h1;exact⟨hid,h1.symm⟩
  ·right;simp only[g',hid,if_false]at h1;exact⟨hid,h1⟩
 let cs1:=gF cs (L.o+a.off+len*es) un
 have hsz1:cs1.size=cs.size:=nD hroom;have hnewrow:(w.setRow L.b cs1).heap[L.b]?=some (.cells cs1 e (0,0)):=setRow_heap w L.b cs cs1 e _ hw;have hcr1:CR g' (old++news) cs1 (L.o+a.off):=by
  obtain⟨r1,r2⟩:=lU hold;intro i v hi;by_cases h1:i<old.length
  ·rw[List.getElem?_append_left h1,r2 i (by omega)]at hi
   obtain⟨c,hc,hg⟩:=hcr _ _ hi;refine⟨c,?_,hg.mono hg'⟩;rw[jS hroom,if_neg (by omega),<-hc]
   congr 1;omega
  ·rw[List.getElem?_append_right (by omega)]at hi
   have hlt:i-old.length<un.length:=by rw[<-hnews.1];exact(List.getElem?_eq_some_iff.1 hi).1
   refine⟨un[i-old.length],?_,(hnews.2 _ _ _ hi (by simp[hlt])).mono hg'⟩;rw[jS hroom,if_pos ⟨by omega,by omega⟩];rw[show L.o+a.off+i-(L.o+a.off+len*es)=i-old.length by omega];simp[hlt]
 have hget:∀id b1,((s.h.kill a.block).push es (old++news)).m.get id=some b1->b1.alive=true->(id=s.h.next/\b1=.live true es (old++news))\/(id≠s.h.next/\id≠a.block/\s.h.m.get id=some b1):=by
  intro id b1 h hal;simp only[af.push,af.kill,cg.get_set]at h;by_cases h1:s.h.next=id
  ·left;simp only[h1,if_true,oi]at h;exact⟨h1.symm,h.symm⟩
  ·right
   simp only[h1,if_false]at h;by_cases h2:a.block=id
   ·simp only[h2,if_true,oi]at h;subst h;cases hal
   ·simp only[h2,if_false]at h;exact⟨Ne.symm h1,Ne.symm h2,h⟩
 refine⟨⟨g',J.l⟩,?_,fun t L h=>h,?_,fun k L1 hk=>(hsplit k L1 hk).elim (fun q=>.inr (by omega)) (fun q=>.inl q.2),fun t L h=>h⟩
 ·refine { hr:=?_,mono:=hg',next:=by simp[af.push,af.kill],low:=Nat.min_le_left _ _,size:=by simp,os:=rfl,tape:=rfl,output:=rfl,fresh:=?_,lfresh:=fun t L h1=>.inr ⟨t,L,h1,rfl⟩,frame:=?_ }
  ·refine { gdom:=?_,gblk:=?_,gcon:=?_,ginj:=?_,ldom:=hR.ldom,lcon:=?_,linj:=hR.linj,sep:=?_ }
   ·intro id L1 h1
    rcases hsplit id L1 h1 with ⟨rfl,_⟩|⟨_,h1⟩
    ·simp[af.push,af.kill]
    ·have:=hR.gdom _ _ h1;simp[af.push,af.kill];omega
   ·intro id L1 h1
    rcases hsplit id L1 h1 with ⟨rfl,rfl⟩|⟨_,h1⟩
    ·exact⟨.cells cs1 e (0,0),hnewrow,fun c9 e9 f9 q=>by cases q;rw[hsz1,htot2]⟩
    ·by_cases hb:L1.b=L.b
     ·obtain⟨o2,hx,hy⟩:=hR.gblk _ _ h1
      rw[hb,hw]at hx;obtain rfl:=Option.some.inj hx;have:=hy _ _ _ rfl;exact⟨.cells cs1 e (0,0),by rw[hb];exact hnewrow,fun c9 e9 f9 q=>by cases q;omega⟩
     ·rw[setRow_other w _ _ _ hb];exact hR.gblk _ _ h1
   ·intro id L1 b1 h1 h2
    cases hal:b1.alive with
    |false=>cases b1<;>first|trivial|(simp[yS.alive]at hal)
    |true=>
    rcases hget _ _ h2 hal with ⟨rfl,rfl⟩|⟨hne,hne2,h2⟩
    ·rcases hsplit _ L1 h1 with ⟨_,rfl⟩|⟨hne,_⟩
     ·exact⟨rfl,cs1,e,(0,0),hnewrow,hcr1,fun _=>rfl⟩
     ·exact absurd rfl hne
    ·rcases hsplit id L1 h1 with ⟨rfl,_⟩|⟨_,h1⟩
     ·exact absurd rfl hne
     ·have hb:L1.b≠L.b:=fun hb=>hne2 (hR.ginj _ _ _ _ _ _ h1 hL h2 hlive hal rfl hb)
      rw[setRow_other w _ _ _ hb];exact(hR.gcon _ _ _ h1 h2).mono hg'
   ·intro id id' L1 L2 b1 b2 h1 h2 h3 h4 hv1 hv2 hb
    rcases hget _ _ h3 hv1 with ⟨rfl,_⟩|⟨hne,hne2,h3⟩<;>rcases hget _ _ h4 hv2 with ⟨rfl,_⟩|⟨hne',hne2',h4⟩
    ·rfl
    ·rcases hsplit _ L1 h1 with ⟨_,rfl⟩|⟨hx,_⟩
     ·rcases hsplit _ L2 h2 with ⟨hx,_⟩|⟨_,h2⟩
      ·exact absurd hx hne'
      ·exact absurd (hR.ginj _ _ _ _ _ _ h2 hL h4 hlive hv2 rfl hb.symm) hne2'
     ·exact absurd rfl hx
    ·rcases hsplit _ L2 h2 with ⟨_,rfl⟩|⟨hx,_⟩
     ·rcases hsplit _ L1 h1 with ⟨hx,_⟩|⟨_,h1⟩
      ·exact absurd hx hne
      ·exact absurd (hR.ginj _ _ _ _ _ _ h1 hL h3 hlive hv1 rfl hb) hne2
     ·exact absurd rfl hx
    ·rcases hsplit _ L1 h1 with ⟨hx,_⟩|⟨_,h1⟩
     ·exact absurd hx hne
     ·rcases hsplit _ L2 h2 with ⟨hx,_⟩|⟨_,h2⟩
      ·exact absurd hx hne'
      ·exact hR.ginj _ _ _ _ _ _ h1 h2 h3 h4 hv1 hv2 hb
   ·intro t L1 h1
    obtain⟨c9,e9,a1,a2⟩:=hR.lcon _ _ h1;have hb:L1.b≠L.b:=fun hb=>hR.sep _ _ _ _ hL h1 hb.symm
    exact⟨c9,e9,by rw[setRow_other w _ _ _ hb];exact a1,fun c hc=>(a2 c hc).mono hg'⟩
   ·intro id t L1 L2 h1 h2 hb
    rcases hsplit id L1 h1 with ⟨rfl,rfl⟩|⟨_,h1⟩
    ·exact hR.sep _ _ _ _ hL h2 hb
    ·exact hR.sep _ _ _ _ h1 h2 hb
  ·intro id L1 h1 h2
   rcases hsplit id L1 h1 with ⟨rfl,rfl⟩|⟨_,h1⟩
   ·exact .inr ⟨a.block,L,hL,rfl,Nat.min_le_right _ _⟩
   ·rw[h2]at h1;cases h1
  ·intro b hb hg hl
   have:b≠L.b:=fun e=>by
    have h1:=hg a.block L hL e.symm;have h2:Nat.min s.h.low a.block<=a.block:=Nat.min_le_right _ _;simp only[af.push,af.kill]at h1;omega
   exact setRow_other w _ _ _ this
 ·have q:=VG.sliceI (g:=g') ⟨s.h.next,0,none⟩ L' (len+n) (len+n) c' rfl (by simp[g']) hcap (uT hsm) (by simpa[L',hes]using htot)
  simpa[L']using q
def dg(P:Program)(J:dm)(s:St)(w:World)(x:Sem Value)(v:Value)(s':St)(R Rl:Nat->Prop):Prop:=
 ∃c w' J',x.run P w=.ok c w'/\aQ J s w J' s' w'/\(∀t L,J.l t=some L->J'.l t=some L)/\VR J' v c/\s'.env=s.env/\dI R J.g J'.g/\dI Rl J.l J'.l
theorem dg.still{x:Sem Value}{v c:Value}{R Rl:Nat->Prop}(hR:HR J s w)(h:x.run P w=.ok c w)(hv:VR J v c):dg P J s w x v s R Rl:=⟨c,w,J,h,.refl hR,fun _ _ h=>h,hv,rfl,.refl _ _,.refl _ _⟩
theorem aR{r:Option (Value×af)}{v:Value}{s':St}(h:bF s r=some (v,s')):∃h',r=some (v,h')/\s' = { s with h:=h' }:=by
 unfold bF at h;split at h
 ·simp only[oi,pj]at h
  obtain⟨rfl,rfl⟩:=h;exact⟨_,rfl,rfl⟩
 ·cases h
theorem zC(hR:HR J s w){ts:List TypeId}{args cargs:List Value}{ty:TypeId}{v:Value}{s':St}(h0:bF s (bO P s.h ts args)=some (v,s'))(ha:args.length=cargs.length/\∀(i:Nat) (a b:Value),args[i]?=some a->cargs[i]?=some b->VR J a b) :
  dg P J s w (Builtin.append_ ts.toArray ty cargs.toArray) v s' (s.h.next<=·) (fun _=>False):=by
 obtain⟨hp',h,rfl⟩:=aR h0;clear h0;unfold bO at h;split at h
 ·rename_i t xt base len c x
  obtain⟨c0,c1,rfl⟩:∃c0 c1,cargs=[c0,c1]:=by
   have:=ha.1
   match cargs,this with
   | [c0,c1],_=>exact⟨c0,c1,rfl⟩
  have hs:=ha.2 0 _ _ rfl rfl;have hx:=ha.2 1 _ _ rfl rfl;have hsg:=hs.of_ne (fun a=>by simp);split at h
  ·rename_i e hu
   split at h
   ·rename_i size by_ xd z hn hby hxu hz
    split at h
    ·rename_i n news hnews
     obtain⟨us,hus,hN0⟩:=Ei (P:=P) hR hnews hx;have hN:Gm P w (ct (some xd)) e size n c1 us:=hN0 w.drawn;have hN1:=hN0 (w.drawn+1);obtain⟨hfl,it,hit,hiz⟩:=dO hz;obtain⟨it2,hit2,hbt⟩:=mL hby
     rw[hit]at hit2;obtain rfl:=Option.some.inj hit2;cases hroomB:Nat.ble (len+n) (bW c)with
     |true=>
      rw[hroomB]at h;simp only[cond_true]at h;have hroom:=Nat.le_of_ble_eq_true hroomB;cases base with
      |none=>
       dsimp only at h;simp only[oi,pj]at h;obtain⟨rfl,rfl⟩:=h;obtain⟨rfl,rfl,rfl⟩:=hsg.nilSlice;rw[dE eQ]at hroom;have hn0:n=0:=by omega
       subst hn0;refine dg.still hR (c:=.slice none 0 0) ?_ (.glob _ _ (.flat _ rfl));have:=jZ (P:=P) (ty:=ty) (base:=none) (len:=0) (c:=0) hu hxu hn hN (by omega);simpa using this
      |some a=>
       dsimp only at h;split at h
       ·rename_i s2 hw
        simp only[oi,pj]at h;obtain⟨rfl,rfl⟩:=h;obtain⟨hsp,L,c',hL,rfl,q⟩:=hsg.sliceG (by have:=(gH hw).1;simpa[dP]using this);have hcc:bW c<=c':=by
         obtain⟨_,_,e9,q9⟩:=hsg.sliceAny;simp only[Value.slice.injEq,true_and]at e9;rw[e9.2];exact q9
        obtain⟨w',e1,e2,e3,_⟩:=hR.write (P:=P) (a:=dP a (len*size)) (L:=L) (by simp[dm.at,dP,hsp,hL]) (gH hw).2 hus;refine⟨.slice (some ⟨L.b,L.o+a.off,none⟩) (len+n) c',w',J,?_,e2,fun _ _ h=>h,?_,e3,.refl _ _,.refl _ _⟩
        ·have:=jZ (P:=P) (ty:=ty) (base:=some ⟨L.b,L.o+a.off,none⟩) (len:=len) (c:=c') hu hxu hn hN (by omega)
         rw[show([t,xt]:List TypeId).toArray=#[t,xt]from rfl,show([Value.slice (some ⟨L.b,L.o+a.off,none⟩) len c',c1]:List Value).toArray=#[.slice (some ⟨L.b,L.o+a.off,none⟩) len c',c1]from rfl,this];simp only[ik];have e1':(storeCells ⟨L.b,L.o+a.off+len*size,none⟩ us).run P w=.ok () w':=by simpa[dP,Nat.add_assoc]using e1
         rw[e1'];rfl
        ·rcases q with ⟨q,rfl⟩|⟨m,rfl,q1,q2,q3⟩
         ·exact .glob _ _ (.sliceX a L _ _ hsp hL q)
         ·exact .glob _ _ (.sliceI a L _ _ _ hsp hL q2 q1 q3)
       ·cases hb:(a.spot.isSome && Nat.beq n 0 && news.isEmpty)with
        |false=>rw[hb]at h;simp at h
        |true=>
         rw[hb]at h;simp only[cond_true,oi,pj]at h;obtain⟨rfl,rfl⟩:=h;simp only[Bool.and_eq_true,List.isEmpty_iff]at hb;obtain⟨⟨hb,hb2⟩,rfl⟩:=hb;have hn0:=Nat.eq_of_beq_eq_true hb2;subst hn0;have hsg0:=hsg;rcases hsg.sliceL with ⟨hs,_⟩|⟨rfl,⟨xs,hsx⟩,a',c',rfl,_⟩
         ·rw[hs]at hb;simp at hb
         ·refine dg.still hR (c:=.slice (some a') 0 c') ?_ (.glob _ _ hsg0)
          obtain rfl:=hus.nil_right;have:=jZ (P:=P) (ty:=ty) (base:=some a') (len:=0) (c:=c') hu hxu hn hN (by omega);simpa[storeCells]using this
     |false=>
      rw[hroomB]at h;simp only[cond_false]at h;have hroom:bW c<len+n:=by
       rcases Nat.lt_or_ge (bW c) (len+n)with q|q
       ·exact q
       ·rw[aS q]at hroomB;cases hroomB
      cases hcond:(Nat.ble (len+n) 1073741824 && Nat.ble by_ 16384 && news.all aA && Nat.beq z.cells.toList.length size && Nat.beq news.length (n*size))with
      |false=>rw[hcond]at h;simp at h
      |true=>
       rw[hcond]at h;simp only[cond_true]at h;simp only[Bool.and_eq_true]at hcond;obtain⟨⟨⟨⟨d1,d2⟩,d3⟩,d4⟩,d5⟩:=hcond;have hneed:=Nat.le_of_ble_eq_true d1;have hby2:=Nat.le_of_ble_eq_true d2;have hzl:=Nat.eq_of_beq_eq_true d4;have hnl:=Nat.eq_of_beq_eq_true d5;have hul:us.length=n*size:=by rw[<-hus.1,hnl]
       cases base with
       |none=>
        obtain⟨rfl,rfl,rfl⟩:=hsg.nilSlice;simp only[Nat.beq_refl,cond_true,oi,pj]at h;obtain⟨rfl,rfl⟩:=h;rw[dE eQ]at hroom;obtain⟨newCap,hcap,hrun⟩:=kg (P:=P) (ty:=ty) (base:=none) (len:=0) (c:=0) (old:=[]) hu hxu hn hit (by omega) hz hN hN1 (by simp[Builtin.firstCells]) hroom hneed;obtain⟨J',f1,f2,f3,fa,fb⟩:=oe (hR.drew (d:=w.drawn+1)) (size:=size) (n:=n) (len:=0) (newCap:=newCap) (e:=e) (old:=[]) (uo:=[]) (z:=z.cells) (.nil _) hus (by simpa using d3) (by simp) hul (by simpa using hzl) hcap hneed;exact⟨_,_,J',hrun,(aQ.drew hR).trans f1,f2,.glob _ _ f3,rfl,fa,fun t L h=>.inl (fb t L h)⟩
       |some a=>
        dsimp only at h;split at h
        ·rename_i old hsp' hold0
         obtain⟨hsp,L,c',hL,rfl,q⟩:=hsg.sliceG hsp';have hold:=(gA hold0).2;have hLa:J.at a=some L:=by simp[dm.at,hsp,hL]
         obtain⟨uo,o1,o2,o3⟩:=hR.read hLa hold;have holdrun:∀c9,(Builtin.firstCells size len (.slice (some ⟨L.b,L.o+a.off,none⟩) len c9)).run P { w with drawn:=w.drawn+1 }=.ok uo.toArray { w with drawn:=w.drawn+1 }:=fun c9=>by
          have:=run_loadCells_list (P:=P) { w with drawn:=w.drawn+1 } ⟨L.b,L.o+a.off,none⟩ uo o3;rw[o2]at this;simp only[Builtin.firstCells];exact this
         have hread:∃cs0 wr0 es0,s.h.m.get a.block=some (.live wr0 es0 cs0)/\iS cs0 a.off (len*size)=some old:=by
          simp only[St.read,St.cells?,hsp]at hold;split at hold
          ·rename_i cs0 hcs0
           obtain⟨wr0,es0,hm0⟩:=live_of_cells? hcs0;exact⟨cs0,wr0,es0,hm0,hold⟩
          ·cases hold
         obtain⟨cs0,wr0,es0,hm0,hrd⟩:=hread;cases hex:Nat.blt c aI with
         |true=>
          rw[hex]at h;simp only[cond_true]at h;cases hoo:old.all aA with
          |false=>rw[hoo]at h;simp at h
          |true=>
          rw[hoo]at h;simp only[cond_true,oi,pj]at h;obtain⟨rfl,rfl⟩:=h;have hcs:c<aI:=Nat.le_of_ble_eq_true hex;have hc':c'=c:=by
           rcases q with ⟨_,rfl⟩|⟨m,rfl,_⟩
           ·rfl
           ·have:=cS L.es m;omega
          subst hc';rw[dE hcs]at hroom;obtain⟨newCap,hcap,hrun⟩:=kg (P:=P) (ty:=ty) (base:=some ⟨L.b,L.o+a.off,none⟩) (len:=len) (c:=c') (old:=uo) hu hxu hn hit (by omega) hz hN hN1 (holdrun c') hroom hneed;obtain⟨J',f1,f2,f3,fa,fb⟩:=oe (hR.drew (d:=w.drawn+1)) (size:=size) (n:=n) (len:=len) (newCap:=newCap) (e:=e) (z:=z.cells) o1 hus (by rw[List.all_append,hoo,d3];rfl) o2 hul (by simpa using hzl) hcap hneed;exact⟨_,_,J',hrun,(aQ.drew hR).trans f1,f2,.glob _ _ f3,rfl,fa,fun t L h=>.inl (fb t L h)⟩
         |false=>
          rw[hex]at h;simp only[cond_false]at h;have hcs:aI<=c:=by
           rcases Nat.lt_or_ge c aI with q|q
           ·rw[da q]at hex;cases hex
           ·exact q
          cases hoo:old.all aA with
          |false=>rw[hoo]at h;simp at h
          |true=>
          rw[hoo]at h;simp only[cond_true]at h;split at h
          ·rename_i es cs9 hlive
           cases hes:Nat.beq es size with
           |false=>rw[hes]at h;simp at h
           |true=>
            rw[hes]at h;simp only[cond_true,oi,pj]at h;obtain⟨rfl,rfl⟩:=h;rw[hm0]at hlive;obtain⟨rfl,rfl,rfl⟩:wr0=true/\es0=es/\cs0=cs9:=by simpa using hlive
            rcases q with ⟨q,_⟩|⟨m,rfl,q1,q2,q3⟩
            ·omega
            ·rw[bM q1]at hroom
             by_cases hfit:len+n<=c'
             ·obtain⟨cs,e9,k1,k2,k3,J',k4,k5,k6,ka,kb⟩:=F6 hR hL hm0 (Nat.eq_of_beq_eq_true hes) hrd hus d3 hul hfit q3 hneed
              refine⟨_,_,J',?_,k4,k5,.glob _ _ k6,rfl,ka,fun t L h=>.inl (kb t L h)⟩;have:=jZ (P:=P) (ty:=ty) (base:=some ⟨L.b,L.o+a.off,none⟩) (len:=len) (c:=c') hu hxu hn hN hfit;rw[show([t,xt]:List TypeId).toArray=#[t,xt]from rfl,show([Value.slice (some ⟨L.b,L.o+a.off,none⟩) len c',c1]:List Value).toArray=#[.slice (some ⟨L.b,L.o+a.off,none⟩) len c',c1]from rfl,this];simp only[ik];have e1':=run_storeCells_at (P:=P) L.b (L.o+a.off+len*size) e9 us 0 cs w k1 (by simpa using k2) k3;simp only[Nat.add_zero]at e1';rw[e1'];rfl
             ·obtain⟨newCap,hcap,hrun⟩:=kg (P:=P) (ty:=ty) (base:=some ⟨L.b,L.o+a.off,none⟩) (len:=len) (c:=c') (old:=uo) hu hxu hn hit (by omega) hz hN hN1 (holdrun c') (by omega) hneed
              have hk:=aQ.kill hR (hR.gdom _ _ hL);obtain⟨J',f1,f2,f3,fa,fb⟩:=oe (hk.hr.drew (d:=w.drawn+1)) (size:=size) (n:=n) (len:=len) (newCap:=newCap) (e:=e) (z:=z.cells) o1 hus (by rw[List.all_append,hoo,d3];rfl) o2 hul (by simpa using hzl) hcap hneed;exact⟨_,_,J',hrun,(hk.trans (aQ.drew hk.hr)).trans f1,f2,.glob _ _ f3,rfl,fa,fun t L h=>.inl (fb t L h)⟩
          ·cases h
        ·rename_i xs hsp'
         cases hc0:Nat.beq c 0 with
         |false=>rw[hc0]at h;simp at h
         |true=>
         rw[hc0]at h;simp only[cond_true,oi,pj]at h;obtain⟨rfl,rfl⟩:=h;have hc0:=Nat.eq_of_beq_eq_true hc0;rcases hsg.sliceL with ⟨hs,_⟩|⟨rfl,_,a',c',rfl,hk⟩
         ·rw[hs]at hsp';cases hsp'
         ·obtain⟨rfl,rfl⟩:c=0/\c'=0:=by
           rcases hk with q|q
           ·exact q
           ·have:=eQ;omega
          rw[dE eQ]at hroom;obtain⟨newCap,hcap,hrun⟩:=kg (P:=P) (ty:=ty) (base:=some a') (len:=0) (c:=0) (old:=[]) hu hxu hn hit (by omega) hz hN hN1 (by simp[Builtin.firstCells,loadCells,loadCellsFrom]) hroom hneed;obtain⟨J',f1,f2,f3,fa,fb⟩:=oe (hR.drew (d:=w.drawn+1)) (size:=size) (n:=n) (len:=0) (newCap:=newCap) (e:=e) (old:=[]) (uo:=[]) (z:=z.cells) (.nil _) hus (by simpa using d3) (by simp) hul (by simpa using hzl) hcap hneed;exact⟨_,_,J',hrun,(aQ.drew hR).trans f1,f2,.glob _ _ f3,rfl,fa,fun t L h=>.inl (fb t L h)⟩
        ·cases h
    ·cases h
   ·cases h
  ·cases h
 ·cases h
theorem Ee(hR:HR J s w){ts:List TypeId}{args cargs:List Value}{ty:TypeId}{v:Value}{s':St}(h0:bF s (pE P s.h ts args)=some (v,s'))(ha:args.length=cargs.length/\∀(i:Nat) (a b:Value),args[i]?=some a->cargs[i]?=some b->VR J a b) :
  dg P J s w (Builtin.copy_ ts.toArray ty cargs.toArray) v s' (s.h.next<=·) (fun _=>False):=by
 obtain⟨hp',h,rfl⟩:=aR h0;clear h0;unfold pE at h;split at h
 ·rename_i t xt base len c x
  obtain⟨c0,c1,rfl⟩:∃c0 c1,cargs=[c0,c1]:=by
   have:=ha.1
   match cargs,this with
   | [c0,c1],_=>exact⟨c0,c1,rfl⟩
  have hs:=ha.2 0 _ _ rfl rfl;have hx:=ha.2 1 _ _ rfl rfl;have hsg:=hs.of_ne (fun a=>by simp);split at h
  ·rename_i e hu
   split at h
   ·rename_i size hn
    split at h
    ·rename_i b n cb
     split at h
     ·rename_i l hl
      obtain⟨hsb,Lb,cb',hLb,rfl,_⟩:=(hx.of_ne (fun a=>by simp)).sliceG (gA hl).1;obtain⟨l',r1,r2,r3⟩:=hR.read (a:=b) (L:=Lb) (by simp[dm.at,hsb,hLb]) (gA hl).2;have hrd:=run_loadCells_list (P:=P) w ⟨Lb.b,Lb.o+b.off,none⟩ l' r3;rw[r2]at hrd;cases base with
      |none=>
       dsimp only at h;simp only[oi,pj]at h;obtain⟨rfl,rfl⟩:=h;obtain⟨rfl,rfl,rfl⟩:=hsg.nilSlice;refine dg.still hR (c:=.int .i64 (Nat.min n 0:Nat)) ?_ (.glob _ _ (.flat _ rfl));have hrd':(loadCells ⟨Lb.b,Lb.o+b.off,none⟩ (n.min 0*size)).run P w=.ok l'.toArray w:=hrd;simp only[Builtin.copy_,List.getElem?_toArray,List.getElem?_cons_zero,List.getElem?_cons_succ,Sem.run_bind,aE hu,Result.andThen_ok,Builtin.lenOf,Sem.run_pure,bK hn,Builtin.firstCells,hrd',goInt]
      |some a=>
       dsimp only at h;split at h
       ·rename_i s2 hw
        simp only[oi,pj]at h;obtain⟨rfl,rfl⟩:=h;obtain⟨hsp,L,c',hL,rfl,_⟩:=hsg.sliceG (gH hw).1;obtain⟨w',e1,e2,e3,_⟩:=hR.write (P:=P) (a:=a) (L:=L) (by simp[dm.at,hsp,hL]) (gH hw).2 r1;refine⟨.int .i64 (Nat.min n len:Nat),w',J,?_,e2,fun _ _ h=>h,.glob _ _ (.flat _ rfl),e3,.refl _ _,.refl _ _⟩;simp only[Builtin.copy_,List.getElem?_toArray,List.getElem?_cons_zero,List.getElem?_cons_succ,Sem.run_bind,aE hu,Result.andThen_ok,Builtin.lenOf,Sem.run_pure,bK hn,Builtin.firstCells,hrd,goInt,e1]
       ·cases hb:a.spot.isSome with
        |false=>rw[hb]at h;simp at h
        |true=>
         rw[hb]at h;simp only[cond_true,oi,pj]at h;obtain⟨rfl,rfl⟩:=h;rcases hsg.sliceL with ⟨hs,_⟩|⟨rfl,_,a',c',rfl,_⟩
         ·rw[hs]at hb;simp at hb
         ·refine dg.still hR (c:=.int .i64 0) ?_ (.glob _ _ (.flat _ rfl))
          have h0:n.min 0=0:=Nat.min_zero _;simp[Builtin.copy_,aE hu,Builtin.lenOf,bK hn,Builtin.firstCells,goInt,h0,loadCells,loadCellsFrom,storeCells]
     ·cases hb:(b.spot.isSome && Nat.beq n 0)with
      |false=>rw[hb]at h;simp at h
      |true=>
       rw[hb]at h;simp only[cond_true,oi,pj]at h;obtain⟨rfl,rfl⟩:=h;simp only[Bool.and_eq_true]at hb;rcases(hx.of_ne (fun a=>by simp)).sliceL with ⟨hs,_⟩|⟨rfl,_,a',c',rfl,_⟩
       ·rw[hs]at hb;simp at hb
       ·obtain⟨a2,c2,rfl,_⟩:=hsg.sliceAny
        refine dg.still hR (c:=.int .i64 0) ?_ (.glob _ _ (.flat _ rfl));have h0:Nat.min 0 len=0:=Nat.zero_min _;cases a2 with
        |none=>simp[Builtin.copy_,aE hu,Builtin.lenOf,bK hn,Builtin.firstCells,goInt,h0,loadCells,loadCellsFrom,storeCells]
        |some a=>simp[Builtin.copy_,aE hu,Builtin.lenOf,bK hn,Builtin.firstCells,goInt,h0,loadCells,loadCellsFrom,storeCells]
    ·rename_i n cb
     cases hb:Nat.beq n 0 with
     |false=>rw[hb]at h;simp at h
     |true=>
      rw[hb]at h;simp only[cond_true,oi,pj]at h;obtain⟨rfl,rfl⟩:=h;obtain⟨rfl,rfl,rfl⟩:=(hx.of_ne (fun a=>by simp)).nilSlice;obtain⟨a',c',rfl,_⟩:=hsg.sliceAny;refine dg.still hR (c:=.int .i64 0) ?_ (.glob _ _ (.flat _ rfl));simp only[Builtin.copy_,List.getElem?_toArray,List.getElem?_cons_zero,List.getElem?_cons_succ,Sem.run_bind,aE hu,Result.andThen_ok,Builtin.lenOf,Sem.run_pure,bK hn,Builtin.firstCells,goInt];have h0:Nat.min 0 len=0:=Nat.zero_min _;cases a' with
      |none=>simp[h0]
      |some a=>simp[h0,storeCells]
    ·cases h
   ·cases h
  ·cases h
 ·cases h
theorem HR.pushB(h:HR J s w){b:yS}{o:Obj}(ho:∀cs e fr,o≠.cells cs e fr)
  (hb:∀g',(∀id L,J.g id=some L->g' id=some L)->BR g' b ⟨w.heap.size,0,0,0⟩ (some o)) :
  ∃J',aQ J s w J' { s with h:=s.h.pushB b } (w.alloc o)/\J'.l=J.l/\J'.g s.h.next=some ⟨w.heap.size,0,0,0⟩/\dI (s.h.next<=·) J.g J'.g:=by
 have hJ:J.g s.h.next=none:=by
  cases hx:J.g s.h.next with
  |none=>rfl
  |some L=>have:=h.gdom _ _ hx;omega
 let L:cN:=⟨w.heap.size,0,0,0⟩
 let g':Nat->Option cN:=fun k=>if k=s.h.next then some L else J.g k
 have hg':∀k L1,J.g k=some L1->g' k=some L1:=fun k L1 h1=>by
  have hne:¬k=s.h.next:=fun e=>by rw[e,hJ]at h1;cases h1
  simp only[g',hne,if_false,h1]
 have hsplit:∀k L1,g' k=some L1->(k=s.h.next/\L1=L)\/(k≠s.h.next/\J.g k=some L1):=fun k L1 h1=>by
  by_cases hk:k=s.h.next
  ·left;simp only[g',hk,if_true,oi]at h1;exact⟨hk,h1.symm⟩
  ·right;simp only[g',hk,if_false]at h1;exact⟨hk,h1⟩
 have hnew:(w.alloc o).heap[w.heap.size]?=some o:=by show(w.heap.push _)[w.heap.size]?=_;simp
 have hold:∀k,k<w.heap.size->(w.alloc o).heap[k]?=w.heap[k]?:=fun k hk=>by show(w.heap.push _)[k]?=_;rw[Array.getElem?_push,if_neg (by omega)]
 have hsize:(w.alloc o).heap.size=w.heap.size+1:=by show(w.heap.push _).size=_;simp
 refine⟨⟨g',J.l⟩,?_,rfl,by simp[g',L],fun k L1 hk=>(hsplit k L1 hk).elim (fun q=>.inr (by omega)) (fun q=>.inl q.2)⟩;refine { hr:=?_,mono:=hg',next:=by simp[af.pushB],low:=Nat.le_refl _,size:=by omega,os:=rfl,tape:=rfl,output:=rfl,fresh:=?_,lfresh:=fun t L h1=>.inr ⟨t,L,h1,rfl⟩,frame:=fun b hb _ _=>hold b hb }
 ·refine { gdom:=?_,gblk:=?_,gcon:=?_,ginj:=?_,ldom:=h.ldom,lcon:=?_,linj:=h.linj,sep:=?_ }
  ·intro k L1 h1
   rcases hsplit k L1 h1 with ⟨rfl,_⟩|⟨_,h1⟩
   ·show s.h.next<s.h.next+1;omega
   ·have:=h.gdom _ _ h1;show k<s.h.next+1;omega
  ·intro k L1 h1
   rcases hsplit k L1 h1 with ⟨rfl,rfl⟩|⟨_,h1⟩
   ·exact⟨_,hnew,fun c9 e9 f9 q=>absurd q (ho _ _ _)⟩
   ·rw[hold _ (h.lt h1)];exact h.gblk _ _ h1
  ·intro k L1 b1 h1 h2
   simp only[af.pushB,cg.get_set]at h2;rcases hsplit k L1 h1 with ⟨rfl,rfl⟩|⟨hne,h1⟩
   ·simp only[if_true,oi]at h2
    subst h2;rw[show L.b=w.heap.size from rfl,hnew];exact hb g' hg'
   ·simp only[Ne.symm hne,if_false]at h2
    have:=(h.gcon _ _ _ h1 h2).mono hg';rw[hold _ (h.lt h1)];exact this
  ·intro k k' L1 L2 b1 b2 h1 h2 h3 h4 hv1 hv2 hb
   simp only[af.pushB,cg.get_set]at h3 h4;rcases hsplit k L1 h1 with ⟨hk1,hk2⟩|⟨hne,h1⟩<;>rcases hsplit k' L2 h2 with ⟨hk3,hk4⟩|⟨hne',h2⟩
   ·rw[hk1,hk3]
   ·have:=h.lt h2;rw[hk2]at hb;simp only[L]at hb;omega
   ·have:=h.lt h1;rw[hk4]at hb;simp only[L]at hb;omega
   ·simp only[Ne.symm hne,if_false]at h3
    simp only[Ne.symm hne',if_false]at h4;exact h.ginj _ _ _ _ _ _ h1 h2 h3 h4 hv1 hv2 hb
  ·intro t L1 h1
   obtain⟨cs9,e1,a1,a2⟩:=h.lcon _ _ h1;exact⟨cs9,e1,by rw[hold _ (h.llt h1)];exact a1,fun c hc=>(a2 c hc).mono hg'⟩
  ·intro k t L1 L2 h1 h2 hb
   rcases hsplit k L1 h1 with ⟨rfl,rfl⟩|⟨_,h1⟩
   ·have:=h.llt h2;simp only[L]at hb;omega
   ·exact h.sep _ _ _ _ h1 h2 hb
 ·intro k L1 h1 h2
  rcases hsplit k L1 h1 with ⟨rfl,rfl⟩|⟨_,h1⟩
  ·exact .inl (Nat.le_refl _)
  ·rw[h2]at h1;cases h1
theorem HR.putB(h:HR J s w){id:Nat}{L:cN}(hL:J.g id=some L){b0 b:yS}(hb0:s.h.m.get id=some b0)(ha0:b0.alive=true){o:Obj}(ho:∀cs e fr,o≠.cells cs e fr)(hb:BR J.g b L (some o)) :
  aQ J s w J { s with h:=s.h.putB id b } (w.putObj L.b o):=by
 have hlt:=h.lt hL;have hsame:(w.putObj L.b o).heap[L.b]?=some o:=World.putObj_heap_same hlt;have hother:∀k,k≠L.b->(w.putObj L.b o).heap[k]?=w.heap[k]?:=fun k hk=>World.putObj_heap_other hk
 refine { hr:=?_,mono:=fun _ _ h=>h,next:=Nat.le_refl _,low:=Nat.min_le_left _ _,size:=by simp,os:=rfl,tape:=rfl,output:=rfl,fresh:=(fun id L h1 h2=>by rw[h2]at h1;cases h1),lfresh:=fun t L h1=>.inr ⟨t,L,h1,rfl⟩,frame:=?_ }
 ·refine { gdom:=h.gdom,gblk:=?_,gcon:=?_,ginj:=?_,ldom:=h.ldom,lcon:=?_,linj:=h.linj,sep:=h.sep }
  ·intro k L1 h1
   by_cases e:L1.b=L.b
   ·exact⟨o,by rw[e];exact hsame,fun c9 e9 f9 q=>absurd q (ho _ _ _)⟩
   ·rw[hother _ e];exact h.gblk _ _ h1
  ·intro k L1 b1 h1 h2
   simp only[af.putB,cg.get_set]at h2;by_cases hid:id=k
   ·subst hid
    rw[hL]at h1;obtain rfl:=Option.some.inj h1;simp only[if_true,oi]at h2;subst h2;rw[hsame];exact hb
   ·simp only[hid,if_false]at h2
    cases hal:b1.alive with
    |false=>cases b1<;>first|trivial|(simp[yS.alive]at hal)
    |true=>
     have hne:L1.b≠L.b:=fun hb=>hid (h.ginj _ _ _ _ _ _ hL h1 hb0 h2 ha0 hal hb.symm)
     rw[hother _ hne];exact h.gcon _ _ _ h1 h2
  ·intro k k' L1 L2 b1 b2 h1 h2 h3 h4 hv1 hv2 hb
   simp only[af.putB,cg.get_set]at h3 h4;have l3:∃b,s.h.m.get k=some b/\b.alive=true:=by
    by_cases hid:id=k
    ·subst hid;exact⟨_,hb0,ha0⟩
    ·simp only[hid,if_false]at h3;exact⟨_,h3,hv1⟩
   have l4:∃b,s.h.m.get k'=some b/\b.alive=true:=by
    by_cases hid:id=k'
    ·subst hid;exact⟨_,hb0,ha0⟩
    ·simp only[hid,if_false]at h4;exact⟨_,h4,hv2⟩
   obtain⟨_,l3,v3⟩:=l3;obtain⟨_,l4,v4⟩:=l4;exact h.ginj _ _ _ _ _ _ h1 h2 l3 l4 v3 v4 hb
  ·intro t L1 h1
   rw[hother _ (fun e=>h.sep _ _ _ _ hL h1 e.symm)];exact h.lcon _ _ h1
 ·intro b1 hb1 hg hl
  refine hother b1 fun e=>?_
  have h1:=hg id L hL e.symm;have h2:Nat.min s.h.low id<=id:=Nat.min_le_right _ _;simp only[af.putB]at h1;omega
theorem MR.cons{g:Nat->Option cN}{e:Value×Value}{es:List (Value×Value)}{c:MapEntry}{ces:List MapEntry}(h:MR g (e :: es) (c :: ces)):(c.key=e.1/\VG g e.2 c.val)/\MR g es ces:=
 ⟨h.2 0 e c rfl rfl,by have:=h.1;simpa using this,fun i e' c' h1 h2=>h.2 (i+1) e' c' (by simpa using h1) (by simpa using h2)⟩
theorem kU{g:Nat->Option cN}{kind:TypeDesc}{k:Value}:∀(es:List (Value×Value)) (ces:List MapEntry) (i:Nat) (r:Option (Nat×Value)),MR g es ces->ve kind k es i=some r->
  (r=none/\Instr.findNow kind k ces i=some none)\/∃j v c e,r=some (i+j,v)/\Instr.findNow kind k ces i=some (some (i+j,c))/\VG g v c/\j<es.length/\ces[j]?=some e/\Instr.sameNow kind k e.key=some true
 | [],ces,i,r,hm,h=>by
  have:ces=[]:=by have:=hm.1;simp at this;exact List.eq_nil_of_length_eq_zero this.symm
  subst this;simp only[ve,oi]at h;exact .inl ⟨h.symm,rfl⟩
 |e :: es,[],i,r,hm,h=>by have:=hm.1;simp at this
 |e :: es,c :: ces,i,r,hm,h=>by
  obtain⟨⟨h1,h2⟩,h3⟩:=hm.cons;simp only[ve]at h;rw[<-h1]at h;split at h
  ·rename_i hs
   simp only[oi]at h;subst h;exact .inr ⟨0,e.2,c.val,c,rfl,by simp only[Instr.findNow,hs];rfl,h2,by simp,rfl,hs⟩
  ·rename_i hs
   rcases kU es ces (i+1) r h3 h with ⟨q1,q2⟩|⟨j,v,cv,e9,q1,q2,q3,q4,q5,q6⟩
   ·exact .inl ⟨q1,by simp only[Instr.findNow,hs];exact q2⟩
   ·refine .inr ⟨j+1,v,cv,e9,by rw[q1];congr 2;omega,?_,q3,by simp;omega,by simpa using q5,q6⟩
    simp only[Instr.findNow,hs];rw[q2];congr 3;omega
  ·cases h
theorem mt{kt:TypeId}{kd:TypeDesc}{k:Value}(hk:P.underlying kt=some kd)(hs:gE kd=true)(em:Bool)(n:Nat):(Instr.checkKey em (n+1) kt k).run P w=.ok () w:=by
 unfold Instr.checkKey;rw[Sem.run_bind,aE hk,Result.andThen_ok];cases kd<;>simp[gE]at hs<;>rfl
theorem VR.key{v c:Value}(h:VR J v c)(hk:vg v=true):c=v:=by
 cases v with
 |int k n=>exact(h.of_ne (fun a=>by simp)).int
 |string b=>exact(h.of_ne (fun a=>by simp)).string
 |bool b=>exact(h.of_ne (fun a=>by simp)).bool
 |_=>simp[vg]at hk
theorem IK(a b:ByteArray)(h:(a == b)=true):a=b:=by
 have h1:(a.data == b.data)=true:=h;have h2:a.data=b.data:=by simpa using h1
 cases a;cases b;simp_all
theorem Ek(a:ByteArray):(a == a)=true:=by
 show(a.data == a.data)=true;simp
theorem Bi{kind:TypeDesc}{k e:Value}(h:Instr.sameNow kind k e=some true):e=k/\∀n,Instr.sameBits n e k=true:=by
 unfold Instr.sameNow at h;split at h
 ·split at h
  ·rename_i hk
   simp at h;subst h;subst hk;exact⟨rfl,fun n=>by cases n<;>simp[Instr.sameBits]⟩
  ·cases h
 ·simp only[oi]at h
  obtain rfl:=IK _ _ h;exact⟨rfl,fun n=>by cases n<;>simp[Instr.sameBits,Ek]⟩
 ·simp at h;subst h;exact⟨rfl,fun n=>by cases n<;>simp[Instr.sameBits]⟩
 ·cases h
theorem xW(hR:HR J s w){x cx:Value}{es:List (Value×Value)}(h:uk s.h x=some es)(hx:VR J x cx) :
  (cx=.map none/\es=[])\/∃id L ces clock,x=.map (some id)/\cx=.map (some L.b)/\J.g id=some L/\s.h.m.get id=some (.map es)/\w.heap[L.b]?=some (.map ces clock)/\MR J.g es ces.toList:=by
 unfold uk at h;split at h
 ·simp only[oi]at h;subst h
  exact .inl ⟨(hx.of_ne (fun a=>by simp)).nilMap,rfl⟩
 ·rename_i id
  split at h
  ·rename_i es' hm
   simp only[oi]at h;subst h;obtain⟨L,hL,rfl⟩:=(hx.of_ne (fun a=>by simp)).mapL;obtain⟨ces,clock,h1,h2⟩:=hR.gcon _ _ _ hL hm;exact .inr ⟨id,L,ces,clock,rfl,rfl,hL,hm,h1,h2⟩
  ·cases h
 ·cases h
theorem ma{r:Nat}{es:Array MapEntry}{clock:Nat}(hb:w.heap[r]?=some (.map es clock)):(getObj r).run P w=.ok (.map es clock) w:=by simp[getObj,Sem.run,hb]
theorem uS{r:Nat}{es:Array MapEntry}{clock:Nat}(o:Obj)(hb:w.heap[r]?=some (.map es clock)):(setObj r o).run P w=.ok () (w.putObj r o):=by simp[setObj,Sem.run,hb,World.putObj]
theorem vh{g:Nat->Option cN}{v c:Value}(h:VG g v c)(ok b:Bool):VG g (tU ok v b) (if ok then .tuple #[c,.bool b] else c):=by
 cases ok with
 |false=>exact h
 |true=>
  refine .tuple _ _ (by simp) fun i x y hx hy=>?_
  match i with
  |0=>simp at hx hy;subst hx;subst hy;exact h
  |1=>simp at hx hy;subst hx;subst hy;exact .flat _ rfl
  |i+2=>simp at hx
theorem zU(hR:HR J s w){t:TypeId}{x cx k ck v:Value}{ok:Bool}{s':St}(h0:bF s (jo P s.h t x k ok)=some (v,s'))(hx:VR J x cx)(hk:VR J k ck) :
  dg P J s w (Instr.lookup t cx ck ok) v s' (s.h.next<=·) (fun _=>False):=by
 obtain⟨h',h,rfl⟩:=aR h0;unfold jo at h;split at h
 ·rename_i kt et hu
  split at h
  ·rename_i kd z es hkd hz hes
   cases hc:(gE kd && vg k)with
   |false=>rw[hc]at h;simp at h
   |true=>
    rw[hc]at h;simp only[cond_true]at h;simp only[Bool.and_eq_true]at hc;obtain rfl:=hk.key hc.2;have hck:=fun em=>mt (P:=P) (w:=w) (k:=ck) hkd hc.1 em 9999
    rcases xW hR hes hx with ⟨rfl,rfl⟩|⟨id,L,ces,clock,rfl,rfl,hL,hm,hw,hmr⟩
    ·simp only[ve,oi,pj]at h
     obtain⟨rfl,rfl⟩:=h;refine dg.still hR ?_ (.glob _ _ (vh (VG.of_flat (dO hz).1) ok false));simp only[Instr.lookup,Sem.run_bind,aE hu,Result.andThen_ok,Sem.run_pure,hck,Instr.findKey,aE hkd,Instr.findNow,dZ hz]
    ·split at h
     ·rename_i j u hf
      simp only[oi,pj]at h;obtain⟨rfl,rfl⟩:=h;rcases kU _ _ _ _ hmr hf with ⟨q,_⟩|⟨j',v',c',e',q1,q2,q3,_⟩
      ·cases q
      ·simp only[oi,pj]at q1
       obtain⟨rfl,rfl⟩:=q1;refine dg.still hR ?_ (.glob _ _ (vh q3 ok true));simp only[Instr.lookup,Sem.run_bind,aE hu,Result.andThen_ok,ma hw,Sem.run_pure,hck,Instr.findKey,aE hkd,q2]
     ·rename_i hf
      simp only[oi,pj]at h;obtain⟨rfl,rfl⟩:=h;rcases kU _ _ _ _ hmr hf with ⟨_,q2⟩|⟨j',v',c',e',q1,_⟩
      ·refine dg.still hR ?_ (.glob _ _ (vh (VG.of_flat (dO hz).1) ok false))
       simp only[Instr.lookup,Sem.run_bind,aE hu,Result.andThen_ok,ma hw,Sem.run_pure,hck,Instr.findKey,aE hkd,q2,dZ hz]
      ·cases q1
     ·cases h
  ·cases h
 ·cases h
theorem MR.set{g:Nat->Option cN}{es:List (Value×Value)}{ces:Array MapEntry}(h:MR g es ces.toList){k v c:Value}(hv:VG g v c)(i:Nat):MR g (es.set i (k,v)) (ces.modify i fun e=>{ e with key:=k,val:=c }).toList:=by
 refine⟨by simp[h.1],fun j e x he hx=>?_⟩;rw[List.getElem?_set]at he;simp only[Array.getElem?_toList,Array.getElem?_modify]at hx;by_cases hij:i=j
 ·subst hij
  simp only[if_true]at he hx;cases hc:ces[i]? with
  |none=>rw[hc]at hx;simp at hx
  |some c0=>
   rw[hc]at hx;simp only[Option.map_some,oi]at hx;subst hx;split at he
   ·simp only[oi]at he;subst he;exact⟨rfl,hv⟩
   ·cases he
 ·simp only[hij,if_false]at he hx
  exact h.2 j e x he (by simpa using hx)
theorem MR.push{g:Nat->Option cN}{es:List (Value×Value)}{ces:Array MapEntry}(h:MR g es ces.toList){k v c:Value}(hv:VG g v c)(b:Nat):MR g (es++[(k,v)]) (ces.push { key:=k,val:=c,born:=b }).toList:=by
 refine⟨by simp[h.1],fun j e x he hx=>?_⟩;have hl:es.length=ces.toList.length:=h.1;simp only[Array.toList_push]at hx;rw[List.getElem?_append]at he hx;by_cases hj:j<es.length
 ·rw[if_pos hj]at he
  rw[if_pos (by omega)]at hx;exact h.2 j e x he hx
 ·rw[if_neg hj]at he
  rw[if_neg (by omega)]at hx;have:j-es.length=j-ces.toList.length:=by omega
  rw[this]at he;cases hz:j-ces.toList.length with
  |zero=>rw[hz]at he hx;simp at he hx;subst he;subst hx;exact⟨rfl,hv⟩
  |succ n=>rw[hz]at he;simp at he
theorem rO(hR:HR J s w){t:TypeId}{x cx k ck v cv r:Value}{s':St}(h0:bF s (jp P s.h t x k v)=some (r,s'))(hx:VR J x cx)(hk:VR J k ck)(hv:VR J v cv) :
  ∃w',(Instr.mapUpdate t cx ck cv).run P w=.ok () w'/\aQ J s w J s' w'/\r=undef/\s'.env=s.env:=by
 obtain⟨h',h,rfl⟩:=aR h0;unfold jp at h;split at h
 ·rename_i kt et id hu
  split at h
  ·rename_i kd es hkd hes
   cases hc:(gE kd && vg k && cP v)with
   |false=>rw[hc]at h;simp at h
   |true=>
    rw[hc]at h;simp only[cond_true]at h;simp only[Bool.and_eq_true]at hc;obtain rfl:=hk.key hc.1.2;have hvg:=hv.of_noLoc hc.2;have hck:=fun em=>mt (P:=P) (w:=w) (k:=ck) hkd hc.1.1 em 9999
    obtain⟨L,hL,rfl⟩:=(hx.of_ne (fun a=>by simp)).mapL;obtain⟨ces,clock,hw,hmr⟩:=hR.gcon _ _ _ hL hes;split at h
    ·rename_i i u hf
     simp only[oi,pj]at h;obtain⟨rfl,rfl⟩:=h;rcases kU _ _ _ _ hmr hf with ⟨q,_⟩|⟨j',v',c',e',q1,q2,q3,q4,q5,q6⟩
     ·cases q
     ·simp only[Nat.zero_add,oi,pj]at q1
      obtain⟨rfl,rfl⟩:=q1;obtain⟨q7,q8⟩:=Bi q6;have q5':ces[i]?=some e':=by simpa using q5
      refine⟨_,?_,hR.putB hL hes rfl (o:=.map (ces.modify i fun e=>{ e with key:=ck,val:=cv }) clock) (by simp) ⟨_,_,rfl,hmr.set hvg i⟩,rfl,rfl⟩;simp only[Instr.mapUpdate,Sem.run_bind,aE hu,Result.andThen_ok,ma hw,hck,Instr.findKey,aE hkd,q2,Nat.zero_add,Sem.run_pure,q5',Option.map_some,Option.getD_some,Instr.keyThatStays,q8,if_true];exact uS _ hw
    ·rename_i hf
     simp only[oi,pj]at h;obtain⟨rfl,rfl⟩:=h;rcases kU _ _ _ _ hmr hf with ⟨_,q2⟩|⟨j',v',c',e',q1,_⟩
     ·refine⟨_,?_,hR.putB hL hes rfl (o:=.map (ces.push { key:=ck,val:=cv,born:=clock }) (clock+1)) (by simp) ⟨_,_,rfl,hmr.push hvg clock⟩,rfl,rfl⟩
      simp only[Instr.mapUpdate,Sem.run_bind,aE hu,Result.andThen_ok,ma hw,hck,Instr.findKey,aE hkd,q2,Sem.run_pure];exact uS _ hw
     ·cases q1
    ·cases h
  ·cases h
 ·cases h
theorem pA:∀(l:List Value) (bs:List UInt8),qh l=some bs->∃ns:List Int,l=ns.map (.int .u8)/\bs=ns.map (fun n=>UInt8.ofNat n.toNat)
 | [],bs,h=>by simp only[qh,oi]at h;subst h;exact⟨[],rfl,rfl⟩
 |v :: l,bs,h=>by
  unfold qh at h;split at h
  ·rename_i e;cases e
  ·rename_i n r e
   split at h
   ·rename_i l' hl
    simp only[oi]at h;subst h;simp only[List.cons.injEq]at e;obtain⟨rfl,rfl⟩:=e;obtain⟨ns,rfl,rfl⟩:=pA _ _ hl;exact⟨n :: ns,rfl,rfl⟩
   ·cases h
  ·cases h
theorem u6:∀(ns:List Int) (s:ByteArray),ns.foldl (fun r n=>r.push (UInt8.ofNat n.toNat)) s=⟨s.data++(ns.map (fun n=>UInt8.ofNat n.toNat)).toArray⟩
 | [],s=>by simp
 |n :: ns,s=>by
  rw[List.foldl_cons,u6 ns];simp[ByteArray.push]
theorem dK.ints{g:Nat->Option cN}{k:IntKind}:∀(ns:List Int) (l':List Value),dK g (ns.map (.int k)) l'->l'=ns.map (.int k)
 | [],l',h=>h.nil_right
 |n :: ns,l',h=>by
  obtain⟨v,l2,rfl,hv,hl⟩:=h.head;rw[dK.ints ns l2 hl,hv.int];rfl
theorem Dx(hR:HR J s w){src dst:TypeId}{a:Option Addr}{n c:Nat}{cx v:Value}(h:ms P s.h src dst a n=some v)(hx:VR J (.slice a n c) cx):(convert src dst cx).run P w=.ok v w/\aU v=true:=by
 unfold ms at h;split at h
 ·rename_i e hs hd
  split at h
  ·rename_i he
   split at h
   ·simp only[oi]at h;subst h
    obtain⟨rfl,rfl,rfl⟩:=(hx.of_ne (fun a=>by simp)).nilSlice;rw[run_convert_bytes_string w src dst e none 0 0 hs he hd];exact⟨by simp[Conv.bytesToString],rfl⟩
   ·rename_i a
    split at h
    ·rename_i l hl
     split at h
     ·rename_i bs hb
      simp only[oi]at h;subst h;obtain⟨ns,rfl,rfl⟩:=pA _ _ hb;obtain⟨hsp,L,c',hL,rfl,_⟩:=(hx.of_ne (fun a=>by simp)).sliceG (gA hl).1;obtain⟨l',h1,h2,h3⟩:=hR.read (a:=a) (L:=L) (by simp[dm.at,hsp,hL]) (gA hl).2;obtain rfl:=dK.ints _ _ h1;have hrd:=run_loadCells_list (P:=P) w ⟨L.b,L.o+a.off,none⟩ _ h3;rw[h2]at hrd;rw[run_convert_bytes_string w src dst e _ n c' hs he hd,run_bytesToString w _ n c' ns hrd,u6];have e0:ByteArray.empty.data=#[]:=rfl;exact⟨by rw[e0];simp,rfl⟩
     ·cases h
    ·cases hb:(a.spot.isSome && Nat.beq n 0)with
     |false=>rw[hb]at h;simp at h
     |true=>
      rw[hb]at h;simp only[cond_true,oi]at h;subst h;simp only[Bool.and_eq_true]at hb;rcases(hx.of_ne (fun a=>by simp)).sliceL with ⟨hs',_⟩|⟨rfl,_,a',c',rfl,_⟩
      ·rw[hs']at hb;simp at hb
      ·have hrd:(loadCells a' 0).run P w=.ok (([]:List Int).map (Value.int .u8)).toArray w:=by simp[loadCells,loadCellsFrom]
       rw[run_convert_bytes_string w src dst e _ 0 c' hs he hd,run_bytesToString w _ 0 c' [] hrd];exact⟨rfl,rfl⟩
  ·cases h
 ·cases h
theorem A8(hR:HR J s w){ts:List TypeId}{args cargs:List Value}{ty:TypeId}{v:Value}{s':St}(h0:bF s (o8 P s.h ts args)=some (v,s'))(ha:args.length=cargs.length/\∀(i:Nat) (a b:Value),args[i]?=some a->cargs[i]?=some b->VR J a b) :
  dg P J s w (Builtin.clear_ ts.toArray ty cargs.toArray) v s' (s.h.next<=·) (fun _=>False):=by
 obtain⟨hp',h,rfl⟩:=aR h0;clear h0;unfold o8 at h;split at h
 ·rename_i t base len c
  obtain⟨c0,rfl⟩:∃c0,cargs=[c0]:=by
   have:=ha.1
   match cargs,this with
   | [c0],_=>exact⟨c0,rfl⟩
  have hs:=(ha.2 0 _ _ rfl rfl).of_ne (fun a=>by simp);split at h
  ·rename_i e hu
   split at h
   ·simp only[oi,pj]at h;obtain⟨rfl,rfl⟩:=h
    obtain⟨rfl,rfl,rfl⟩:=hs.nilSlice;exact dg.still hR (c:=undef) (by simp[Builtin.clear_,aE hu,undef]) (.glob _ _ (VG.of_flat rfl))
   ·rename_i a
    cases hb:Nat.beq len 0 with
    |true=>
     rw[hb]at h;simp only[cond_true,oi,pj]at h;obtain⟨rfl,rfl⟩:=h;have:=Nat.eq_of_beq_eq_true hb;subst this;obtain⟨a',c',rfl,_⟩:=hs.sliceAny;exact dg.still hR (c:=undef) (by cases a'<;>simp[Builtin.clear_,aE hu,undef]) (.glob _ _ (VG.of_flat rfl))
    |false=>
     rw[hb]at h;simp only[cond_false]at h;have hne:=Nat.ne_of_beq_eq_false hb;split at h
     ·rename_i z hz
      split at h
      ·rename_i h' hw
       simp only[oi,pj]at h;obtain⟨rfl,rfl⟩:=h;obtain⟨hsp,L,c',hL,rfl,_⟩:=hs.sliceG (gH hw).1;obtain⟨w',e1,e2,e3,_⟩:=hR.write (P:=P) (a:=a) (L:=L) (by simp[dm.at,hsp,hL]) (gH hw).2 (jH (jF (dO hz).1) len);refine⟨undef,w',J,?_,e2,fun _ _ h=>h,.glob _ _ (VG.of_flat rfl),e3,.refl _ _,.refl _ _⟩;have hzc:(Builtin.zeroCells z.cells len).toList=aZ z.cells.toList len:=iD z.cells len;obtain⟨m,rfl⟩:∃m,len=m+1:=⟨len-1,by omega⟩;simp only[Builtin.clear_,List.getElem?_toArray,List.getElem?_cons_zero,Sem.run_bind,aE hu,Result.andThen_ok,dZ hz,hzc,e1,Sem.run_pure,undef]
      ·cases h
     ·cases h
  ·cases h
 ·cases h
theorem Bu(hR:HR J s w){t:TypeId}{a:Addr}{L:cN}(hL:J.at a=some L){v cv:Value}{s':St}(h:kC P s t a v=some s')(hv:VR J v cv) :
  ∃w',(storeVar t ⟨L.b,L.o+a.off,none⟩ cv).run P w=.ok () w'/\aQ J s w J s' w'/\s'.env=s.env:=by
 unfold kC at h;split at h
 ·rename_i n hn
  cases hb:Nat.beq v.cells.toList.length n with
  |false=>rw[hb]at h;simp at h
  |true=>
   rw[hb]at h;simp only[cond_true]at h;have hlen:=Nat.eq_of_beq_eq_true hb;have hok:v.cells.toList.all aA=true:=by
    unfold St.write at h;cases ho:v.cells.toList.all aA with
    |true=>rfl
    |false=>rw[ho]at h;simp at h
   have hvc:=hv.cells hok;obtain⟨w',e1,e2,e3,_⟩:=hR.write (P:=P) hL h hvc;refine⟨w',?_,e2,e3⟩;have hsz:cv.cells.size=n:=by have:=hvc.1;simp at this hlen;omega
   simp only[storeVar,Sem.run_bind,bK hn,Result.andThen_ok];rw[Sem.run_ite,if_neg (by simp[hsz])];simpa using e1
 ·cases h
def mF(J:dm)(s:St)(a:Act)(l:List Operand):Prop:=∀x v,x∈l->bq s x=some v->VR J v (a.eval x)
theorem ER.ev{a:Act}(h:ER J s a)(l:List Operand):mF J s a l:=fun _ _ _ hx=>h.eval hx
theorem mF.tail{a:Act}{x:Operand}{l:List Operand}(h:mF J s a (x :: l)):mF J s a l:=fun y v hy hv=>h y v (List.mem_cons_of_mem _ hy) hv
theorem mF.sub{a:Act}{l l':List Operand}(h:mF J s a l)(hl:∀x∈l',x∈l):mF J s a l':=fun y v hy hv=>h y v (hl y hy) hv
theorem iC{a:Act}:∀(l:List Operand) (_:mF J s a l) (vs:List Value),fG s l=some vs->vs.length=(l.map a.eval).length/\∀(i:Nat) (x y:Value),vs[i]?=some x->(l.map a.eval)[i]?=some y->VR J x y
 | [],_,vs,h=>by simp only[fG,oi]at h;subst h;exact⟨rfl,fun i x y h=>by simp at h⟩
 |o :: l,hE,vs,h=>by
  simp only[fG]at h;split at h
  ·rename_i v hv
   split at h
   ·rename_i r hr
    simp only[oi]at h;subst h;obtain⟨h1,h2⟩:=iC l hE.tail r hr;refine⟨by simp at h1 ⊢;exact h1,fun i x y hx hy=>?_⟩;cases i with
    |zero=>simp at hx hy;subst hx;subst hy;exact hE _ _ (by simp) hv
    |succ i=>simp only[List.getElem?_cons_succ,List.map_cons]at hx hy;exact h2 i x y hx hy
   ·cases h
  ·cases h
theorem kE{a:Act}:∀(l:List (Nat×Operand)) (_:mF J s a (l.map (·.2))) (vs:List (Nat×Value)),eO s l=some vs->pK J vs (l.map fun(i,x)=>(i,a.eval x))
 | [],_,vs,h=>by simp only[eO,oi]at h;subst h;exact⟨rfl,fun i x y h=>by simp at h⟩
 |(k,o) :: l,hE,vs,h=>by
  simp only[eO]at h;split at h
  ·rename_i v hv
   split at h
   ·rename_i r hr
    simp only[oi]at h;subst h;obtain⟨h1,h2⟩:=kE l (mF.tail hE) r hr;refine⟨by simp at h1 ⊢;exact h1,fun i x y hx hy=>?_⟩;cases i with
    |zero=>simp at hx hy;subst hx;subst hy;exact⟨rfl,hE _ _ (by simp) hv⟩
    |succ i=>simp only[List.getElem?_cons_succ,List.map_cons]at hx hy;exact h2 i x y hx hy
   ·cases h
  ·cases h
theorem mO{a:Act}{x:Option Operand}(hE:mF J s a x.toList){v:Option Value}(h:gR s x=some v):oF J v (x.map a.eval):=by
 cases x with
 |none=>simp only[gR,oi]at h;subst h;trivial
 |some x=>
  simp only[gR]at h;split at h
  ·rename_i u hu;simp only[oi]at h;subst h;exact hE _ _ (by simp) hu
  ·cases h
theorem sV{l:List Value}{c:List Value}(h:l.length=c.length/\∀(i:Nat) (x y:Value),l[i]?=some x->c[i]?=some y->VR J x y)(hn:l.all cP=true):dK J.g l c:=
 ⟨h.1,fun i x y hx hy=>(h.2 i x y hx hy).of_noLoc (by simp only[List.all_eq_true]at hn;exact hn x (List.mem_of_getElem? hx))⟩
def zn(P:Program)(J:dm)(s:St)(w:World)(x:Sem Next)(v:Value)(s':St)(R Rl:Nat->Prop):Prop:=
 ∃n c w' J',x.run P w=.ok n w'/\(n=.value c\/(n=.skip/\c=undef))/\aQ J s w J' s' w'/\(∀t L,J.l t=some L->J'.l t=some L)/\VR J' v c/\s'.env=s.env/\dI R J.g J'.g/\dI Rl J.l J'.l
theorem dg.op{x:Sem Value}{v:Value}{s':St}{R Rl:Nat->Prop}(h:dg P J s w x v s' R Rl):zn P J s w (x >>= fun u=>Pure.pure (Next.value u)) v s' R Rl:=by
 obtain⟨c,w',J',h1,h2,h3,h4,h5⟩:=h;exact⟨.value c,c,w',J',by simp[h1],.inl rfl,h2,h3,h4,h5⟩
theorem Df{a:Act}{mk:jK}{loc:Bool}{o:Oper}{v:Value}{s':St}(hR:HR J s w)(hM:v5 J s w mk)(hE:mF J s a o.op.operands.toList)(hK:∀{loc:Bool} {es:Nat} {cells:List Value} {r:Value×St},mk loc es cells=some r->cells.all aA=true)(h:fe P mk loc o.op s=some (v,s')):zn P J s w (execOp a.eval o) v s' (fun k=>(zf o.op loc=true/\Ce mk k)\/(Cn o.op=true/\s.h.next<=k)) (fun t=>Al o.op loc=true/\Hk mk t):=by
 unfold fe at h;unfold execOp;have ev:∀{x:Operand} {v:Value},bq s x=some v->x∈o.op.operands.toList->VR J v (a.eval x):=fun h1 h2=>hE _ _ h2 h1
 split at h
 ·
  rename_i x ho;simp only[ho];split at h
  ·rename_i u hu
   simp only[oi,pj]at h;obtain⟨rfl,rfl⟩:=h;exact⟨.value (a.eval x),a.eval x,w,J,by simp,.inl rfl,.refl hR,fun _ _ h=>h,ev hu (by simp[ho,Op.operands]),rfl,.refl _ _,.refl _ _⟩
  ·cases h
 ·
  rename_i x ho;simp only[ho];split at h
  ·rename_i u hu
   simp only[oi,pj]at h;obtain⟨rfl,rfl⟩:=h;exact⟨.value (a.eval x),a.eval x,w,J,by simp,.inl rfl,.refl hR,fun _ _ h=>h,ev hu (by simp[ho,Op.operands]),rfl,.refl _ _,.refl _ _⟩
  ·cases h
 ·
  rename_i c x y ho;simp only[ho];split at h
  ·rename_i hc
   have hcv:=((ev hc (by simp[ho,Op.operands])).of_ne (fun a=>by simp)).bool;split at h
   ·rename_i u hu
    simp only[oi,pj]at h;obtain⟨rfl,rfl⟩:=h;exact⟨.value (a.eval x),a.eval x,w,J,by simp[asBool,hcv],.inl rfl,.refl hR,fun _ _ h=>h,ev hu (by simp[ho,Op.operands]),rfl,.refl _ _,.refl _ _⟩
   ·cases h
  ·rename_i hc
   have hcv:=((ev hc (by simp[ho,Op.operands])).of_ne (fun a=>by simp)).bool;split at h
   ·rename_i u hu
    simp only[oi,pj]at h;obtain⟨rfl,rfl⟩:=h;exact⟨.value (a.eval y),a.eval y,w,J,by simp[asBool,hcv],.inl rfl,.refl hR,fun _ _ h=>h,ev hu (by simp[ho,Op.operands]),rfl,.refl _ _,.refl _ _⟩
   ·cases h
  ·cases h
 ·
  rename_i e ho;simp only[ho];split at h
  ·rename_i z n hz hn
   obtain⟨hfl,_⟩:=dO hz;obtain⟨J',g1,g2,g3,g4,_,ga,gb⟩:=hM _ _ _ _ _ _ e h (CR.of_VGs (jF hfl));refine dg.op ⟨_,_,J',?_,g1,g2,g3,g4,ga.mono (fun _ q=>.inl ⟨by simp[zf,q.1],q.2⟩),gb.mono (fun _ q=>⟨by simp[Al,q.1],q.2⟩)⟩;simp only[Instr.alloc,Sem.run_bind,dZ hz,Result.andThen_ok,newVar,newRow,run_newObj,Sem.run_pure];simp[World.alloc_eq]
  ·cases h
 ·
  rename_i e x ho;simp only[ho];split at h
  ·rename_i u n hu hn
   have hok:u.cells.toList.all aA=true:=hK h;have hcr:=CR.of_VGs ((ev hu (by simp[ho,Op.operands])).cells hok);obtain⟨J',g1,g2,g3,g4,_,ga,gb⟩:=hM _ _ _ _ _ _ e h hcr;refine dg.op ⟨_,_,J',?_,g1,g2,g3,g4,ga.mono (fun _ q=>.inl ⟨by simp[zf,q.1],q.2⟩),gb.mono (fun _ q=>⟨by simp[Al,q.1],q.2⟩)⟩;simp only[Instr.box,Sem.run_bind,Result.andThen_ok,newVar,newRow,run_newObj,Sem.run_pure];simp[World.alloc_eq]
  ·cases h
 ·
  rename_i t parts ho;simp only[ho];split at h
  ·rename_i l hl
   split at h
   ·rename_i u hu
    simp only[oi,pj]at h;obtain⟨rfl,rfl⟩:=h;obtain⟨c,e1,e2⟩:=BB (P:=P) (w:=w) (cparts:=parts.map fun(i,x)=>(i,a.eval x)) hu (by have:=kE parts.toList (hE.sub (by simp[ho,Op.operands])) _ hl;simpa using this);exact dg.op (dg.still hR e1 (.glob _ _ e2))
   ·cases h
  ·cases h
 ·
  rename_i t len parts ho;simp only[ho];split at h
  ·rename_i l hl
   obtain⟨c,w',J',e1,e2,e3,e4,e5,ea,eb⟩:=sz (P:=P) hM (cparts:=parts.map fun(i,x)=>(i,a.eval x)) h (by have:=kE parts.toList (hE.sub (by simp[ho,Op.operands])) _ hl;simpa using this);exact dg.op ⟨c,w',J',e1,e2,e3,.glob _ _ e4,e5,ea.mono (fun _ q=>.inl ⟨rfl,q⟩),eb.mono (fun _ q=>q.elim)⟩
  ·cases h
 ·
  rename_i t x ho;simp only[ho];split at h
  ·rename_i ad hu
   split at h
   ·rename_i u hv
    simp only[oi,pj]at h;obtain⟨rfl,rfl⟩:=h;obtain⟨L,hL,hc⟩:=(ev hu (by simp[ho,Op.operands])).ptrL;obtain⟨c,e1,e2⟩:=wK (P:=P) hR hL hv;exact dg.op (dg.still hR (c:=c) (by simp[Instr.loadAt,hc,Instr.sureAddr,e1]) (.glob _ _ e2))
   ·cases h
  ·cases h
 ·
  rename_i t x y ho;simp only[ho];split at h
  ·rename_i ad u hx hu
   split at h
   ·rename_i s2 hs2
    simp only[oi,pj]at h;obtain⟨rfl,rfl⟩:=h;obtain⟨L,hL,hc⟩:=(ev hx (by simp[ho,Op.operands])).ptrL;obtain⟨w',e1,e2,e3⟩:=Bu (P:=P) hR hL hs2 (ev hu (by simp[ho,Op.operands]));exact⟨.skip,undef,w',J,by simp[Instr.storeAt,hc,Instr.sureAddr,e1],.inr ⟨rfl,rfl⟩,e2,fun _ _ h=>h,.glob _ _ (VG.of_flat rfl),e3,.refl _ _,.refl _ _⟩
   ·cases h
  ·cases h
 ·
  rename_i x ho;simp only[ho];split at h
  ·rename_i ad hu
   simp only[oi,pj]at h;obtain⟨rfl,rfl⟩:=h;have hv:=ev hu (by simp[ho,Op.operands]);obtain⟨L,hL,hc⟩:=hv.ptrL;exact⟨.value (a.eval x),a.eval x,w,J,by simp[hc],.inl rfl,.refl hR,fun _ _ h=>h,hv,rfl,.refl _ _,.refl _ _⟩
  ·rename_i f first cap hu
   simp only[oi,pj]at h;obtain⟨rfl,rfl⟩:=h;have hv:=ev hu (by simp[ho,Op.operands]);obtain⟨x',y',hc,_,_⟩:=(hv.of_ne (fun a=>by simp)).funcL;exact⟨.value (a.eval x),a.eval x,w,J,by simp[hc],.inl rfl,.refl hR,fun _ _ h=>h,hv,rfl,.refl _ _,.refl _ _⟩
  ·cases h
 ·
  rename_i op t x y yt ho;simp only[ho];split at h
  ·rename_i u1 u2 h1 h2
   split at h
   ·rename_i u hu
    simp only[oi,pj]at h;obtain⟨rfl,rfl⟩:=h;obtain⟨e1,e2⟩:=EL (P:=P) (w:=w) (X:=x) (Y:=y) hu (ev h1 (by simp[ho,Op.operands])) (ev h2 (by simp[ho,Op.operands]));exact dg.op (dg.still hR e1 (.glob _ _ (.flat _ e2)))
   ·cases h
  ·cases h
 ·
  rename_i op t x ho;simp only[ho];split at h
  ·rename_i u1 h1
   split at h
   ·rename_i u hu
    simp only[oi,pj]at h;obtain⟨rfl,rfl⟩:=h;obtain⟨e1,e2⟩:=HM (P:=P) (w:=w) hu (ev h1 (by simp[ho,Op.operands]));exact dg.op (dg.still hR e1 (.glob _ _ (.flat _ e2)))
   ·cases h
  ·cases h
 ·
  rename_i src dst x ho;simp only[ho];split at h
  ·rename_i a n c h1
   split at h
   ·rename_i u hu
    simp only[oi,pj]at h;obtain⟨rfl,rfl⟩:=h;obtain⟨e1,e2⟩:=Dx (P:=P) hR hu (ev h1 (by simp[ho,Op.operands]));exact dg.op (dg.still hR e1 (.glob _ _ (.flat _ e2)))
   ·cases h
  ·rename_i u1 _ h1
   split at h
   ·rename_i u hu
    simp only[oi,pj]at h;obtain⟨rfl,rfl⟩:=h;obtain⟨e1,e2⟩:=ED (P:=P) (w:=w) hu (ev h1 (by simp[ho,Op.operands]));exact dg.op (dg.still hR e1 (.glob _ _ (.flat _ e2)))
   ·cases h
  ·cases h
 ·
  rename_i fn first cap ho
  simp only[ho];split at h
  ·rename_i f l r h1 h2
   cases hb:(l.all cP && r.all cP)with
   |false=>rw[hb]at h;simp at h
   |true=>
    rw[hb]at h;simp only[cond_true,oi,pj]at h;obtain⟨rfl,rfl⟩:=h;simp only[Bool.and_eq_true]at hb;have g1:=sV (iC first.toList (hE.sub (by simp[ho,Op.operands];grind)) _ h1) hb.1;have g2:=sV (iC cap.toList (hE.sub (by simp[ho,Op.operands];grind)) _ h2) hb.2;refine dg.op (dg.still hR (c:=.func (.func f) (first.map a.eval) (cap.map a.eval)) (by simp[Instr.makeFunc]) (.glob _ _ ?_));exact .func _ _ _ _ _ (by simpa using g1.1) (by simpa using g2.1) (fun i u v hu hv=>g1.2 i u v (by simpa using hu) (by simpa using hv)) (fun i u v hu hv=>g2.2 i u v (by simpa using hu) (by simpa using hv))
  ·cases h
 ·
  rename_i t l c ho;simp only[ho];split at h
  ·rename_i u1 u2 h1 h2
   obtain⟨r,w',J',e1,e2,e3,e4,e5,ea,eb⟩:=uF (P:=P) hM h (ev h1 (by simp[ho,Op.operands])) (ev h2 (by simp[ho,Op.operands]));exact dg.op ⟨r,w',J',e1,e2,e3,.glob _ _ e4,e5,ea.mono (fun _ q=>.inl ⟨rfl,q⟩),eb.mono (fun _ q=>q.elim)⟩
  ·cases h
 ·
  rename_i t x lo hi mx ho;simp only[ho];split at h
  ·rename_i u b1 b2 b3 h1 h2 h3 h4
   split at h
   ·rename_i r hr
    simp only[oi,pj]at h;obtain⟨rfl,rfl⟩:=h;obtain⟨c,e1,e2⟩:=BZ (P:=P) (w:=w) hr (ev h1 (by simp[ho,Op.operands])) (mO (hE.sub (by simp[ho,Op.operands];grind)) h2) (mO (hE.sub (by simp[ho,Op.operands];grind)) h3) (mO (hE.sub (by simp[ho,Op.operands];grind)) h4);exact dg.op (dg.still hR e1 (.glob _ _ e2))
   ·cases h
  ·cases h
 ·
  rename_i t x f ho;simp only[ho];split at h
  ·rename_i u h1
   split at h
   ·rename_i r hr
    simp only[oi,pj]at h;obtain⟨rfl,rfl⟩:=h;obtain⟨c,e1,e2⟩:=vr (P:=P) (w:=w) hr (ev h1 (by simp[ho,Op.operands]));exact dg.op (dg.still hR e1 e2)
   ·cases h
  ·cases h
 ·
  rename_i t x f ho;simp only[ho];split at h
  ·rename_i u h1
   split at h
   ·rename_i r hr
    simp only[oi,pj]at h;obtain⟨rfl,rfl⟩:=h;obtain⟨c,e1,e2⟩:=Bg (P:=P) (w:=w) hr (ev h1 (by simp[ho,Op.operands]));exact dg.op (dg.still hR e1 (.glob _ _ e2))
   ·cases h
  ·cases h
 ·
  rename_i t x i ho;simp only[ho];split at h
  ·rename_i u1 u2 h1 h2
   split at h
   ·rename_i r hr
    simp only[oi,pj]at h;obtain⟨rfl,rfl⟩:=h;obtain⟨c,e1,e2⟩:=ux (P:=P) (w:=w) hr (ev h1 (by simp[ho,Op.operands])) (ev h2 (by simp[ho,Op.operands]));exact dg.op (dg.still hR e1 e2)
   ·cases h
  ·cases h
 ·
  rename_i t x i ho;simp only[ho];split at h
  ·rename_i u1 u2 h1 h2
   split at h
   ·rename_i r hr
    simp only[oi,pj]at h;obtain⟨rfl,rfl⟩:=h;obtain⟨c,e1,e2⟩:=BJ (P:=P) (w:=w) hr (ev h1 (by simp[ho,Op.operands])) (ev h2 (by simp[ho,Op.operands]));exact dg.op (dg.still hR e1 (.glob _ _ e2))
   ·cases h
  ·cases h
 ·
  rename_i x i ho;simp only[ho];split at h
  ·rename_i vs h1
   split at h
   ·rename_i r hr
    simp only[oi,pj]at h;obtain⟨rfl,rfl⟩:=h;obtain⟨ys,hc,hy⟩:=((ev h1 (by simp[ho,Op.operands])).of_ne (fun a=>by simp)).tupleL;have hlt:i<ys.toList.length:=by rw[<-hy.1];exact(List.getElem?_eq_some_iff.1 hr).1
    have hx:ys[i]?=some (ys.toList[i]):=by simp at hlt ⊢
    exact dg.op (dg.still hR (c:=ys.toList[i]) (by simp[Instr.extract,hc,hx]) (.glob _ _ (hy.2 i r _ hr (by simp at hlt ⊢))))
   ·cases h
  ·cases h
 ·
  rename_i b args argTypes ho;simp only[ho,resolve];split at h
  ·rename_i l hl
   have hargs:=iC args.toList (hE.sub (by simp[ho,Op.operands,Call.operands])) _ hl;have harr:args.map a.eval=(args.toList.map a.eval).toArray:=by apply Array.ext';simp
   split at h
   ·rename_i x
    split at h
    ·rename_i t ht
     split at h
     ·rename_i u hu
      simp only[oi,pj]at h;obtain⟨rfl,rfl⟩:=h;obtain⟨c0,hc0⟩:∃c0,args.toList.map a.eval=[c0]:=by
       have:=hargs.1
       match hm:args.toList.map a.eval,this with
       | [c0],_=>exact⟨c0,rfl⟩
      have hx:=hargs.2 0 x c0 rfl (by rw[hc0];rfl);obtain⟨e1,e2⟩:=Gv (P:=P) (w:=w) (ty:=o.type) hu hx;have hat:argTypes=#[t]:=by apply Array.ext';simpa using ht
      refine⟨.value u,u,w,J,?_,.inl rfl,.refl hR,fun _ _ h=>h,.glob _ _ (.flat _ e2),rfl,.refl _ _,.refl _ _⟩;simp[invoke,builtin,harr,hc0,hat,e1]
     ·cases h
    ·cases h
   ·rename_i x
    split at h
    ·rename_i t ht
     split at h
     ·rename_i u hu
      simp only[oi,pj]at h;obtain⟨rfl,rfl⟩:=h;obtain⟨c0,hc0⟩:∃c0,args.toList.map a.eval=[c0]:=by
       have:=hargs.1
       match hm:args.toList.map a.eval,this with
       | [c0],_=>exact⟨c0,rfl⟩
      have hx:=hargs.2 0 x c0 rfl (by rw[hc0];rfl);obtain⟨e1,e2⟩:=FU (P:=P) (w:=w) (ty:=o.type) hu hx;have hat:argTypes=#[t]:=by apply Array.ext';simpa using ht
      refine⟨.value u,u,w,J,?_,.inl rfl,.refl hR,fun _ _ h=>h,.glob _ _ (.flat _ e2),rfl,.refl _ _,.refl _ _⟩;simp[invoke,builtin,harr,hc0,hat,e1]
     ·cases h
    ·cases h
   ·rename_i x r
    split at h
    ·rename_i u hu
     simp only[oi,pj]at h;obtain⟨rfl,rfl⟩:=h;obtain⟨c0,cr,hc0⟩:∃c0 cr,args.toList.map a.eval=c0 :: cr:=by
      have:=hargs.1
      match hm:args.toList.map a.eval,this with
      |c0 :: cr,_=>exact⟨c0,cr,rfl⟩
     rw[hc0]at hargs;obtain⟨c,e1,e2⟩:=qW (P:=P) (w:=w) (F:=Builtin.max2) (fun x y v h=>(Dn h).1) (fun x y v h=>Bq h) r cr x c0 u hu (hargs.2 0 x c0 rfl rfl) ⟨by have:=hargs.1;simpa using this,fun i p q hp hq=>hargs.2 (i+1) p q (by simpa using hp) (by simpa using hq)⟩;refine⟨.value c,c,w,J,?_,.inl rfl,.refl hR,fun _ _ h=>h,e2,rfl,.refl _ _,.refl _ _⟩;simp[invoke,builtin,harr,hc0,Builtin.max_,e1]
    ·cases h
   ·rename_i x r
    split at h
    ·rename_i u hu
     simp only[oi,pj]at h;obtain⟨rfl,rfl⟩:=h;obtain⟨c0,cr,hc0⟩:∃c0 cr,args.toList.map a.eval=c0 :: cr:=by
      have:=hargs.1
      match hm:args.toList.map a.eval,this with
      |c0 :: cr,_=>exact⟨c0,cr,rfl⟩
     rw[hc0]at hargs;obtain⟨c,e1,e2⟩:=qW (P:=P) (w:=w) (F:=Builtin.min2) (fun x y v h=>(D6 h).1) (fun x y v h=>Bm h) r cr x c0 u hu (hargs.2 0 x c0 rfl rfl) ⟨by have:=hargs.1;simpa using this,fun i p q hp hq=>hargs.2 (i+1) p q (by simpa using hp) (by simpa using hq)⟩;refine⟨.value c,c,w,J,?_,.inl rfl,.refl hR,fun _ _ h=>h,e2,rfl,.refl _ _,.refl _ _⟩;simp[invoke,builtin,harr,hc0,Builtin.min_,e1]
    ·cases h
   ·obtain⟨c,w',J',e1,e2,e3,e4,e5,ea,eb⟩:=zC (P:=P) hR (ty:=o.type) h hargs
    refine⟨.value c,c,w',J',?_,.inl rfl,e2,e3,e4,e5,ea.mono (fun _ q=>.inr ⟨rfl,q⟩),eb.mono (fun _ q=>q.elim)⟩;simp[invoke,builtin,harr]at e1 ⊢;rw[e1];rfl
   ·obtain⟨c,w',J',e1,e2,e3,e4,e5,ea,eb⟩:=Ee (P:=P) hR (ty:=o.type) h hargs
    refine⟨.value c,c,w',J',?_,.inl rfl,e2,e3,e4,e5,ea.mono (fun _ q=>.inr ⟨rfl,q⟩),eb.mono (fun _ q=>q.elim)⟩;simp[invoke,builtin,harr]at e1 ⊢;rw[e1];rfl
   ·obtain⟨c,w',J',e1,e2,e3,e4,e5,ea,eb⟩:=A8 (P:=P) hR (ty:=o.type) h hargs
    refine⟨.value c,c,w',J',?_,.inl rfl,e2,e3,e4,e5,ea.mono (fun _ q=>.inr ⟨rfl,q⟩),eb.mono (fun _ q=>q.elim)⟩;simp[invoke,builtin,harr]at e1 ⊢;rw[e1];rfl
   ·cases h
  ·cases h
 ·
  rename_i t ho;simp only[ho];obtain⟨h',h1,rfl⟩:=aR h;simp only[oi,pj]at h1;obtain⟨rfl,rfl⟩:=h1;obtain⟨J',e1,e2,e3,e4⟩:=hR.pushB (b:=.map []) (o:=.map #[] 0) (by simp) (fun g' _=>⟨#[],0,rfl,rfl,fun i e c h=>by simp at h⟩);exact dg.op ⟨.map (some w.heap.size),w.alloc (.map #[] 0),J',by simp[Instr.makeMap],e1,fun t L h=>by rw[e2];exact h,.glob _ _ (.mapR _ _ e3),rfl,e4.mono (fun _ q=>.inr ⟨rfl,q⟩),by rw[e2];exact .refl _ _⟩
 ·
  rename_i t x i ok ho;simp only[ho];split at h
  ·rename_i u1 u2 h1 h2
   obtain⟨c,w',J',e1,e2,e3,e4,e5,ea,eb⟩:=zU (P:=P) hR h (ev h1 (by simp[ho,Op.operands])) (ev h2 (by simp[ho,Op.operands]));exact dg.op ⟨c,w',J',e1,e2,e3,e4,e5,ea.mono (fun _ q=>.inr ⟨rfl,q⟩),eb.mono (fun _ q=>q.elim)⟩
  ·cases h
 ·
  rename_i t m k x ho;simp only[ho];split at h
  ·rename_i u1 u2 u3 h1 h2 h3
   obtain⟨w',e1,e2,rfl,e3⟩:=rO (P:=P) hR h (ev h1 (by simp[ho,Op.operands])) (ev h2 (by simp[ho,Op.operands])) (ev h3 (by simp[ho,Op.operands]));exact⟨.skip,undef,w',J,by simp[e1],.inr ⟨rfl,rfl⟩,e2,fun _ _ h=>h,.glob _ _ (VG.of_flat rfl),e3,.refl _ _,.refl _ _⟩
  ·cases h
 ·
  rename_i t m k x ho;simp only[ho];split at h
  ·rename_i u1 u2 u3 h1 h2 h3
   obtain⟨w',e1,e2,rfl,e3⟩:=rO (P:=P) hR h (ev h1 (by simp[ho,Op.operands])) (ev h2 (by simp[ho,Op.operands])) (ev h3 (by simp[ho,Op.operands]));exact⟨.skip,undef,w',J,by simp[e1],.inr ⟨rfl,rfl⟩,e2,fun _ _ h=>h,.glob _ _ (VG.of_flat rfl),e3,.refl _ _,.refl _ _⟩
  ·cases h
 ·cases h
