import Derived.Test.YtdpbiegfljmhmaaSimA
import Derived.Laws.BytesString
set_option linter.unusedSimpArgs false
set_option linter.unusedVariables false
namespace Go.cY
variable{P:Program}{w:World}{J:dS}{s:St}
theorem xW{t:TypeId}{x cx v:Value}{f:Nat}(h:lL P t x f=some v)(hx:VR J x cx):∃c,(Instr.fieldAt t cx f).run P w=.ok c w/\VR J v c:=by
 unfold lL at h;split at h
 ·rename_i fs a hu
  split at h
  ·rename_i fd hf
   split at h
   ·rename_i n hn
    cases hb:Nat.beq n 0 with
    |true=>rw[hb]at h;simp at h
    |false=>
     rw[hb]at h;simp only[cond_false,oi]at h;subst h;obtain⟨L,hL,rfl⟩:=hx.pT;have xQ:=Nat.ne_of_beq_eq_false hb;have Ly:fs[f]?=some fd:=by simpa using hf
     refine⟨_,?_,VR.Lq hL fd.offset⟩;simp[Instr.fieldAt,aK hu,Ly,Instr.sureAddr,fieldPlace,ct hn,xQ,jt]
   ·cases h
  ·cases h
 ·cases h
theorem xZ{t:TypeId}{x cx ix ci v:Value}(h:lM P t x ix=some v)(hx:VR J x cx)(hi:VR J ix ci):∃c,(Instr.indexAt t cx ci).run P w=.ok c w/\VR J v c:=by
 unfold lM at h;split at h
 ·rename_i len e a k i hu
  split at h
  ·rename_i n hn
   split at h
   ·rename_i fg
    simp only[oi]at h;subst h;obtain⟨L,hL,rfl⟩:=hx.pT;obtain rfl:=(hi.bg (fun a=>by simp)).int;refine⟨_,?_,VR.Lq hL _⟩;simp[Instr.indexAt,asIntOf,aK hu,Instr.sureAddr,fg.1,fg.2,ct hn,jt]
   ·cases h
  ·cases h
 ·rename_i e a len c k i hu
  split at h
  ·rename_i n hn
   split at h
   ·rename_i fg
    simp only[oi]at h;subst h;obtain⟨hs,L,c',hL,rfl,_⟩:=(hx.bg (fun a=>by simp)).SO om;obtain rfl:=(hi.bg (fun a=>by simp)).int;refine⟨_,?_,VR.Lq (a:=a) (L:=L) (by simp[dS.at,hs,hL]) _⟩;simp[Instr.indexAt,asIntOf,aK hu,fg.1,fg.2,ct hn,jt]
   ·cases h
  ·cases h
 ·cases h
theorem lA{v cv:Value}{y y' n:Nat}{code:BoundsCode}(h:bound v y=some n)(hv:VR J v cv)(hy:y<=y'):(Instr.sliceBound cv y' code).run P w=.ok n w/\n<=y:=by
 unfold bound at h;split at h
 ·rename_i k i
  split at h
  ·rename_i hi
   simp only[oi]at h;subst h;obtain rfl:=(hv.bg (fun a=>by simp)).int;refine⟨?_,om⟩;have h2:i<=(y':Int):=om
   simp[Instr.sliceBound,asIntOf,hi.1,h2]
  ·cases h
 ·cases h
def sd(J:dS):Option Value->Option Value->Prop
 |none,none=>True
 |some v,some c=>VR J v c
 |_,_=>False
theorem ye{isS:Bool}{len c c':Nat}{lo hi mx HU LH cmx:Option Value}{m h l:Nat}(hc:c<=c')
  (hm:gI mx c=some m)
  (hh:iN hi mx len m=some h)
  (hl:ik lo h=some l)
  (h1:sd J lo HU) (h2:sd J hi LH) (h3:sd J mx cmx) :
  (Instr.sliceBounds isS len c' HU LH cmx).run P w=.ok (l,h,if mx.isSome then m else c') w/\(lo=none->l=0)/\l<=h/\(mx.isSome=true->m<=c):=by
 cases mx with
 |none=>
  cases cmx with
  |some _=>exact h3.elim
  |none=>
   simp only[gI,oi]at hm;subst hm;cases hi with
   |none=>
    cases LH with
    |some _=>exact h2.elim
    |none=>
     simp only[iN,oi]at hh;subst hh;cases lo with
     |none=>
      cases HU with
      |some _=>exact h1.elim
      |none=>simp only[ik,oi]at hl;subst hl;exact⟨by simp[Instr.sliceBounds],fun _=>rfl,Nat.zero_le _,by simp⟩
     |some v=>
      cases HU with
      |none=>exact h1.elim
      |some cv=>
       obtain⟨e1,e2⟩:=lA (P:=P) (w:=w) (code:=.sliceB) hl h1 (Nat.le_refl _);exact⟨by simp[Instr.sliceBounds,e1],by simp,e2,by simp⟩
   |some hv=>
    cases LH with
    |none=>exact h2.elim
    |some chv=>
     have e0:=fun code=>lA (P:=P) (w:=w) (code:=code) hh h2 hc
     cases lo with
     |none=>
      cases HU with
      |some _=>exact h1.elim
      |none=>
       simp only[ik,oi]at hl;subst hl;refine⟨?_,fun _=>rfl,Nat.zero_le _,by simp⟩;cases isS<;>simp[Instr.sliceBounds,(e0 _).1]
     |some v=>
      cases HU with
      |none=>exact h1.elim
      |some cv=>
       obtain⟨e1,e2⟩:=lA (P:=P) (w:=w) (code:=.sliceB) hl h1 (Nat.le_refl _);refine⟨?_,by simp,e2,by simp⟩;cases isS<;>simp[Instr.sliceBounds,(e0 _).1,e1]
 |some mv=>
  cases cmx with
  |none=>exact h3.elim
  |some cmv=>
   have em:=fun code=>lA (P:=P) (w:=w) (code:=code) hm h3 hc
   cases hi with
   |none=>simp[iN]at hh
   |some hv=>
    cases LH with
    |none=>exact h2.elim
    |some chv=>
     have e0:=fun code=>lA (P:=P) (w:=w) (code:=code) hh h2 (Nat.le_refl _)
     cases lo with
     |none=>
      cases HU with
      |some _=>exact h1.elim
      |none=>
       simp only[ik,oi]at hl;subst hl;refine⟨?_,fun _=>rfl,Nat.zero_le _,fun _=>(em .index).2⟩;cases isS<;>simp[Instr.sliceBounds,(em _).1,(e0 _).1]
     |some v=>
      cases HU with
      |none=>exact h1.elim
      |some cv=>
       obtain⟨e1,e2⟩:=lA (P:=P) (w:=w) (code:=.slice3C) hl h1 (Nat.le_refl _);refine⟨?_,by simp,e2,fun _=>(em .index).2⟩;cases isS<;>simp[Instr.sliceBounds,(em _).1,(e0 _).1,e1]
theorem yf{isS:Bool}{a:Option Addr}{a':Option Addr}{len c c' size:Nat}{lo hi mx HU LH cmx:Option Value}{v:Value}(h:lK a len c size lo hi mx=some v)
  (hv:VG J.g (.slice a len c) (.slice a' len c')) (h1:sd J lo HU) (h2:sd J hi LH) (h3:sd J mx cmx) :
  ∃l h m,(Instr.sliceBounds isS len c' HU LH cmx).run P w=.ok (l,h,m) w/\VG J.g v (.slice (if m=l then a' else a'.map (·.add (l*size))) (h-l) (m-l)):=by
 obtain⟨_,_,e,nB⟩:=hv.iH;simp only[Value.slice.injEq,true_and]at e;obtain⟨rfl,rfl⟩:=e;unfold lK at h;split at h
 ·cases h
 ·rename_i m hm
  split at h
  ·cases h
  ·rename_i An hh
   split at h
   ·cases h
   ·rename_i l hl
    obtain⟨e1,e2,e3,e4⟩:=ye (P:=P) (w:=w) (isS:=isS) nB hm hh hl h1 h2 h3;cases hb:Nat.ble An m with
    |false=>rw[hb]at h;simp at h
    |true=>
     rw[hb]at h;simp only[cond_true]at h;have hhm:An<=m:=Nat.le_of_ble_eq_true hb;refine⟨l,An,if mx.isSome then m else c',e1,?_⟩;cases hx:(Nat.blt c aP || mx.isSome)with
     |true=>
      rw[hx]at h;simp only[cond_true,oi]at h;subst h;have hmm:(if mx.isSome then m else c')=m:=by
       cases mx with
       |some _=>rfl
       |none=>
        simp only[Option.isSome_none,Bool.or_false]at hx;have hc:c<aP:=Nat.le_of_ble_eq_true hx;simp only[gI,oi]at hm;rw[fE hc]at hm;cases a with
        |none=>obtain⟨rfl,rfl,e⟩:=hv.fH;simp at e;simp[e,<-hm]
        |some a=>
         rcases hv.fe with ⟨_,L,c2,_,e,q⟩|⟨rfl,_,a2,c2,e,q⟩
         ·simp only[Value.slice.injEq,true_and]at e
          obtain⟨_,rfl⟩:=e;rcases q with ⟨_,rfl⟩|⟨m',rfl,_⟩
          ·simp[hm]
          ·have:=dE L.es m';omega
         ·simp only[Value.slice.injEq,true_and]at e
          rcases q with ⟨rfl,rfl⟩|rfl
          ·simp[e.2,<-hm]
          ·omega
      rw[hmm];have YH:m<aP:=by
       have SZ:m<=cL c:=by
        cases mx with
        |some _=>exact e4 rfl
        |none=>simp only[gI,oi]at hm;omega
       have:=Nat.mod_lt c gB;unfold cL at SZ;omega
      cases a with
      |none=>
       obtain⟨rfl,rfl,e⟩:=hv.fH;simp only[Value.slice.injEq]at e;obtain⟨rfl,_,rfl⟩:=e;have Py:m=0:=by
        have SZ:m<=cL 0:=by
         cases mx with
         |some _=>exact e4 rfl
         |none=>simp only[gI,oi]at hm;omega
        rw[fE gB]at SZ;omega
       subst Py;have:An=0:=om
       subst this;have:l=0:=om
       subst this;exact .flat _ rfl
      |some a=>
       rcases hv.fe with ⟨hs,L,c2,hL,e,q⟩|⟨rfl,⟨xs,hs⟩,a2,c2,e,q⟩
       rotate_left
       ·simp only[Value.slice.injEq,true_and]at e
        obtain⟨rfl,rfl⟩:=e;have Py:m=0:=by
         have SZ:m<=cL c:=by
          cases mx with
          |some _=>exact e4 rfl
          |none=>simp only[gI,oi]at hm;omega
         have h00:cL c=0:=by
          rcases q with ⟨rfl,_⟩|rfl
          ·rfl
          ·simp[cL]
         omega
        subst Py;have:An=0:=om
        subst this;have:l=0:=om
        subst this;exact .kC a a2 xs hs
       simp only[Value.slice.injEq,true_and]at e;obtain⟨rfl,rfl⟩:=e;cases SZ:Nat.beq m l with
       |true=>
        have:=Nat.eq_of_beq_eq_true SZ;simp only[cond_true,this,if_true];exact .gR a L _ _ hs hL om
       |false=>
        have:=Nat.ne_of_beq_eq_false SZ;simp only[cond_false,this,if_false,Option.map_some,jt];have q:=VG.gR (g:=J.g) (fV a (l*size)) L (An-l) (m-l) (by simpa[fV]using hs) (by simpa[fV]using hL) om;simpa[fV,Nat.add_assoc]using q
     |false=>
      rw[hx]at h;simp only[cond_false]at h;simp only[Bool.or_eq_false_iff]at hx;obtain⟨AX,Gd⟩:=hx;have wL:aP<=c:=by
       rcases Nat.lt_or_ge c aP with q|q
       ·rw[dN q]at AX;cases AX
       ·exact q
      cases mx with
      |some _=>simp at Gd
      |none=>
       simp only[gI,oi]at hm;simp only[Option.isSome_none,Bool.false_eq_true,if_false];cases a with
       |none=>obtain⟨rfl,rfl,_⟩:=hv.fH;have:=gB;omega
       |some a=>
        rcases hv.fe with ⟨hs,L,c2,hL,e,q⟩|⟨rfl,⟨xs,hs⟩,a2,c2,e,q⟩
        rotate_left
        ·simp only[Value.slice.injEq,true_and]at e
         obtain⟨rfl,rfl⟩:=e;obtain rfl:c=aP:=by
          rcases q with ⟨rfl,_⟩|rfl
          ·have:=gB;omega
          ·rfl
         have h00:cL aP=0:=by simp[cL]
         have:m=0:=om
         subst this;have:An=0:=om
         subst this;have:l=0:=om
         subst this;rw[show Nat.beq 0 0=true from rfl]at h;simp only[cond_true,oi]at h;subst h;have e0:(if c'=0 then(some a2:Option Addr)else(some a2:Option Addr).map (·.add (0*size)))=some a2:=by
          split
          ·rfl
          ·simp[Addr.add]
         rw[e0,Nat.sub_zero];exact .jQ _ _ xs _ hs
        simp only[Value.slice.injEq,true_and]at e;obtain⟨rfl,rfl⟩:=e;rcases q with ⟨q,_⟩|⟨m',rfl,q1,q2,q3⟩
        ·omega
        ·rw[cA q1]at hm
         subst hm;cases fF:Nat.beq l 0 with
         |true=>
          rw[fF]at h;simp only[cond_true,oi]at h;subst h;have:=Nat.eq_of_beq_eq_true fF;subst this;have e0:(if c'=0 then(some ⟨L.b,L.o+a.off,none⟩:Option Addr)else(some ⟨L.b,L.o+a.off,none⟩:Option Addr).map (·.add (0*size)))=some ⟨L.b,L.o+a.off,none⟩:=by
           split
           ·rfl
           ·simp[Addr.add]
          rw[e0,Nat.sub_zero,Nat.sub_zero];exact .gZ a L _ _ _ hs hL q2 q1 q3
         |false=>
          rw[fF]at h;simp only[cond_false]at h;cases BM:(Nat.blt l m' && Nat.beq (az L.es m' / aP) (size+1))with
          |false=>
           rw[BM]at h;simp only[cond_false]at h;cases U5:Nat.beq l m' with
           |false=>rw[U5]at h;simp at h
           |true=>
            rw[U5]at h;simp only[cond_true,oi]at h;subst h;have:=Nat.eq_of_beq_eq_true U5;have e1:An-l=0:=om
            rw[e1];split
            ·exact .jQ _ _ 0 _ rfl
            ·exact .jQ _ _ 0 _ rfl
          |true=>
           rw[BM]at h;simp only[cond_true,oi]at h;subst h;simp only[Bool.and_eq_true]at BM;have g1:l<m':=Nat.le_of_ble_eq_true BM.1;have g2:=Nat.eq_of_beq_eq_true BM.2;rw[kg q1]at g2;have g3:L.es=size:=om
           have ff:¬c'=l:=om
           simp only[ff,if_false,Option.map_some,jt];have q:=VG.gZ (g:=J.g) (fV a (l*size)) L (An-l) (m'-l) (c'-l) (by simpa[fV]using hs) (by simpa[fV]using hL) om om (by
            simp only[fV];have e9:l*size+(c'-l)*L.es=c'*L.es:=by rw[g3,<-Nat.add_mul];congr 1;omega
            omega)
           rw[g3]at q;simpa[fV,Nat.add_assoc]using q
theorem Ge{t:TypeId}{x cx v:Value}{lo hi mx HU LH cmx:Option Value}(h:gQ P t x lo hi mx=some v)(hx:VR J x cx)(h1:sd J lo HU)(h2:sd J hi LH)(h3:sd J mx cmx) :
  ∃c,(Instr.sliceAt t cx HU LH cmx).run P w=.ok c w/\VG J.g v c:=by
 unfold gQ at h;split at h
 ·rename_i str hu
  split at h
  ·cases h
  ·split at h
   ·cases h
   ·rename_i An hh
    split at h
    ·cases h
    ·rename_i l hl
     simp only[oi]at h;subst h;obtain rfl:=(hx.bg (fun a=>by simp)).string;cases cmx with
     |some _=>exact h3.elim
     |none=>
      obtain⟨e1,_,_,_⟩:=ye (P:=P) (w:=w) (isS:=false) (len:=str.size) (c:=str.size) (m:=str.size) (mx:=none) (cmx:=none) (Nat.le_refl _) rfl hh hl h1 h2 trivial;exact⟨_,by simp[Instr.sliceAt,Instr.slice,aK hu,e1],.flat _ rfl⟩
 ·rename_i e a len c hu
  split at h
  ·rename_i n hn
   obtain⟨a',c',rfl,_⟩:=(hx.bg (fun a=>by simp)).iH;obtain⟨l,hh,m,e1,e2⟩:=yf (P:=P) (w:=w) (isS:=true) h (hx.bg (fun a=>by simp)) h1 h2 h3;exact⟨_,by simp[Instr.sliceAt,Instr.slice,aK hu,e1,ct hn],e2⟩
  ·cases h
 ·rename_i n e a hu
  split at h
  ·rename_i z jM hz
   obtain⟨L,hL,rfl⟩:=hx.pT;simp only[dS.at,jM]at hL;cases hns:Nat.blt n aP with
   |false=>rw[hns]at h;simp at h
   |true=>
    rw[hns]at h;simp only[cond_true]at h;have hv:=VG.gR (g:=J.g) a L n n jM hL (Nat.le_of_ble_eq_true hns);obtain⟨l,hh,m,e1,e2⟩:=yf (P:=P) (w:=w) (isS:=false) h hv h1 h2 h3;refine⟨_,?_,e2⟩;simp only[Instr.sliceAt,Sem.run_bind,aK hu,Instr.sureAddr,Sem.run_pure,Result.andThen_ok,e1,ct hz]
    congr 2
    split<;>rfl
  ·cases h
 ·cases h
end Go.cY
namespace Go.cY
variable{P:Program}{w:World}{J:dS}{s:St}
theorem DB(off:Nat):∀(vs:List Value) (k:Nat) (cells:Array Value),off+k+vs.length<=cells.size->
  (vs.zipIdx k).foldl (fun(cs:Array Value) (p:Value×Nat)=>cs.setIfInBounds (off+p.2) p.1) cells=iS cells (off+k) vs
 | [],k,cells,_=>by
  apply Array.ext';simp[iS]
 |v :: rest,k,cells,h=>by
  simp only[List.length_cons]at h;simp only[List.zipIdx_cons,List.foldl_cons];rw[DB off rest (k+1) _ (by simp;omega)];apply Array.ext_getElem?;intro i;rw[lP (by simp;omega),lP (by simp;omega)];simp only[Array.getElem?_setIfInBounds,List.length_cons];by_cases h1:i=off+k
  ·subst h1
   rw[if_neg om,if_pos rfl,if_pos om,if_pos ⟨om,om⟩];simp
  ·by_cases h2:off+(k+1)<=i/\i<off+(k+1)+rest.length
   ·rw[if_pos h2,if_pos ⟨om,om⟩]
    obtain⟨d,hd⟩:∃d,i-(off+k)=d+1:=⟨i-(off+k)-1,om⟩;rw[hd,show i-(off+(k+1))=d by omega];simp
   ·rw[if_neg h2,if_neg om,if_neg om]
def tu(J:dS)(l l':List (Nat×Value)):Prop:=l.length=l'.length/\∀(i:Nat) (p q:Nat×Value),l[i]?=some p->l'[i]?=some q->p.1=q.1/\VR J p.2 q.2
theorem kW{place:Nat->Option (Nat×Nat)}{place':Nat->Option (Nat×Nat)}(hpl:∀i x,place i=some x->place' i=some x):∀(l l':List (Nat×Value)) (cells:List Value) (kD:Array Value) (cs:List Value),
  iG place cells l=some cs->tu J l l'->fQ J.g cells kD.toList->∃lr,Instr.fill place' kD l'=some lr/\fQ J.g cs lr.toList
 | [],l',cells,kD,cs,h,hp,hc=>by
  have:l'=[]:=by have:=hp.1;cases l'<;>simp_all
  subst this;simp only[iG,oi]at h;subst h;exact⟨kD,rfl,hc⟩
 |(i,v) :: l,l',cells,kD,cs,h,hp,hc=>by
  cases l' with
  |nil=>have:=hp.1;simp at this
  |cons q l'=>
   obtain⟨i',c⟩:=q;obtain⟨e1,e2⟩:=hp.2 0 _ _ rfl rfl;simp only at e1 e2;subst e1;simp only[iG]at h;split at h
   ·rename_i off size hpi
    cases hb:(Nat.beq v.cells.toList.length size && v.cells.toList.all aE)with
    |false=>rw[hb]at h;simp at h
    |true=>
     rw[hb]at h;simp only[cond_true]at h;simp only[Bool.and_eq_true]at hb;split at h
     ·rename_i jR Dd
      have S0:=e2.cells hb.2;have uT:=Nat.eq_of_beq_eq_true hb.1;obtain⟨gm,pY⟩:=mE Dd;have hlen:c.cells.size=size:=by have:=S0.1;simp at this uT;omega
      have hH:off+c.cells.size<=kD.size:=by have:=hc.1;have:=S0.1;simp at *;omega
      have pE:fQ J.g jR (iS kD off c.cells.toList).toList:=by
       rw[pY];simp only[iS];have hl:=S0.1;rw[hl];have:=(hc.take off).append (S0.append (hc.drop (off+c.cells.toList.length)));simpa[List.append_assoc]using this
      have sZ:tu J l l':=⟨by have:=hp.1;simpa using this,fun k p q h1 h2=>hp.2 (k+1) p q (by simpa using h1) (by simpa using h2)⟩;obtain⟨lr,f1,f2⟩:=kW hpl l l' jR (iS kD off c.cells.toList) cs h sZ pE;refine⟨lr,?_,f2⟩;have VX:c.cells.zipIdx.foldl (fun(cs:Array Value) (p:Value×Nat)=>cs.setIfInBounds (off+p.2) p.1) kD=iS kD off c.cells.toList:=by
       have:=DB off c.cells.toList 0 kD (by simpa using hH);rw[Nat.add_zero]at this;rw[<-this,<-Array.foldl_toList];simp
      simp only[Instr.fill,hpl _ _ hpi];rw[if_neg (by simp[hlen];omega)];show Instr.fill place' (c.cells.zipIdx.foldl (fun(cs:Array Value) (p:Value×Nat)=>cs.setIfInBounds (off+p.2) p.1) kD) l'=some lr;rw[VX];exact f1
     ·cases h
   ·cases h
theorem vG(P:Program):∀(fs:List Field),fs.all (fun f=>(P.info? f.type).isSome)=true->∃places,fs.mapM (fun f=>(P.info? f.type).map fun i=>(f.offset,i.size))=some places/\∀i x,iV P fs i=some x->places[i]?=some x
 | [],_=>⟨[],rfl,fun i x h=>by simp[iV]at h⟩
 |f :: fs,h=>by
  simp only[List.all_cons,Bool.and_eq_true]at h;obtain⟨pl,h1,h2⟩:=vG P fs h.2;obtain⟨i,hi⟩:=Option.isSome_iff_exists.1 h.1;refine⟨(f.offset,i.size) :: pl,by simp[List.mapM_cons,hi,h1],fun k x hk=>?_⟩;cases k with
  |zero=>simp[iV,bY,hi]at hk;simp[hk]
  |succ k=>simp only[List.getElem?_cons_succ];exact h2 k x (by simpa[iV]using hk)
theorem Gg{t:TypeId}{parts:List (Nat×Value)}{cparts:Array (Nat×Value)}{v:Value}(h:uP P t parts=some v)(hp:tu J parts cparts.toList):∃c,(Instr.build t cparts).run P w=.ok c w/\VG J.g v c:=by
 unfold uP at h;split at h
 ·rename_i z hz
  obtain⟨Jv,it,wu,U6⟩:=fX hz;split at h
  ·rename_i fs hu
   cases ha:fs.toList.all (fun f=>(P.info? f.type).isSome)with
   |false=>rw[ha]at h;simp at h
   |true=>
    rw[ha]at h;simp only[cond_true]at h;split at h
    ·rename_i cs wL
     simp only[oi]at h;subst h;obtain⟨pl,p1,p2⟩:=vG P fs.toList ha;obtain⟨lr,f1,f2⟩:=kW (place':=(pl.toArray[·]?)) (fun i x hx=>by simpa using p2 i x hx) parts cparts.toList _ _ _ wL hp (lQ Jv);refine⟨.agg lr,run_build w t cparts lr (by simp only[Program.built,wu,hu,U6,p1];exact f1),?_⟩;have:=f2.agg;simpa using this
    ·cases h
  ·rename_i n e hu
   split at h
   ·rename_i k hk
    split at h
    ·rename_i cs wL
     simp only[oi]at h;subst h;obtain⟨ie,hie,HV⟩:=xU hk;obtain⟨lr,f1,f2⟩:=kW (place':=fun i=>some (i*ie.size,ie.size)) (fun i x hx=>by rw[HV];exact hx) parts cparts.toList _ _ _ wL hp (lQ Jv);refine⟨.agg lr,run_build w t cparts lr (by simp only[Program.built,wu,hu,U6,hie];exact f1),?_⟩;have:=f2.agg;simpa using this
    ·cases h
   ·cases h
  ·cases h
 ·cases h
theorem gO(z:List Value):∀n,(bF z n).length=n*z.length
 |0=>by simp[bF]
 |n+1=>by simp[bF,gO z n,Nat.add_mul];omega
theorem yg(z:List Value):∀n i,i<n*z.length->(bF z n)[i]?=z[i % z.length]?
 |0,i,h=>by simp at h
 |n+1,i,h=>by
  have hz:0<z.length:=by
   rcases Nat.eq_zero_or_pos z.length with q|q
   ·rw[q]at h;simp at h
   ·exact q
  simp only[bF];by_cases hi:i<z.length
  ·rw[List.getElem?_append_left hi,Nat.mod_eq_of_lt hi]
  ·rw[List.getElem?_append_right om,yg z n (i-z.length) (by rw[Nat.add_mul]at h;omega)]
   congr 1
   exact(Nat.mod_eq_sub_mod om).symm
theorem jS(z:Array Value)(n:Nat):((Array.range (n*z.size)).map (fun i=>z[i % z.size]!)).toList=bF z.toList n:=by
 apply List.ext_getElem?;intro i;by_cases h:i<n*z.size
 ·have hz:0<z.size:=by
   rcases Nat.eq_zero_or_pos z.size with q|q
   ·rw[q]at h;simp at h
   ·exact q
  have hm:i % z.size<z.size:=Nat.mod_lt _ hz;rw[yg _ _ _ (by simpa using h)];simp[h,hm]
 ·have h1:((Array.range (n*z.size)).map (fun i=>z[i % z.size]!)).toList.length=n*z.size:=by simp
  have h2:=gO z.toList n;simp only[Array.length_toList]at h2;rw[List.getElem?_eq_none om,List.getElem?_eq_none om]
theorem lS{g:Nat->Option Loc}{z:List Value}(h:fQ g z z):∀n,fQ g (bF z n) (bF z n)
 |0=>.nil _
 |n+1=>h.append (lS h n)
theorem wv{mk:lJ}(hM:AV J s w mk){t:TypeId}{len:Nat}{parts:List (Nat×Value)}{cparts:Array (Nat×Value)}{v:Value}{s':St}(h:fy P mk t len parts=some (v,s'))(hp:tu J parts cparts.toList) :
  ∃c w' J',(Instr.buildSlice t len cparts).run P w=.ok c w'/\Good J s w J' s' w'/\(∀t L,J.l t=some L->J'.l t=some L)/\VG J'.g v c/\s'.env=s.env/\fP (HS mk) J.g J'.g/\fP (fun _=>False) J.l J'.l:=by
 unfold fy at h;split at h
 ·rename_i e hu
  split at h
  ·rename_i n z hn hz
   obtain⟨Jv,it,wu,U6⟩:=fX hz;cases hb:(Nat.ble (len*n) 16777216 && Nat.beq z.cells.toList.length n && Nat.ble len 16777216)with
   |false=>rw[hb]at h;simp at h
   |true=>
    rw[hb]at h;simp only[cond_true]at h;simp only[Bool.and_eq_true]at hb;have FL:=Nat.le_of_ble_eq_true hb.1.1;have wz:=Nat.eq_of_beq_eq_true hb.1.2;have hb3:=Nat.le_of_ble_eq_true hb.2;split at h
    ·rename_i cs wL
     split at h
     ·rename_i a s2 pE
      simp only[oi,pj]at h;obtain⟨rfl,rfl⟩:=h
      let z0:Array Value:=if len*n=0 then #[] else z.cells
      have yh:((Array.range (len*n)).map (fun i=>z0[i % z0.size]!)).toList=bF z.cells.toList len:=by
       by_cases h0:len*n=0
       ·have hl:(bF z.cells.toList len)=[]:=by
         apply List.length_eq_zero_iff.1;rw[gO,wz];exact h0
        rw[hl,h0];simp
       ·have:z0=z.cells:=by simp[z0,h0]
        rw[this];have:=jS z.cells len;rw[show z.cells.size=n by simpa using wz]at this ⊢;exact this
      obtain⟨lr,f1,f2⟩:=kW (place':=fun i=>some (i*n,n)) (fun i x hx=>hx) parts cparts.toList _ ((Array.range (len*n)).map (fun i=>z0[i % z0.size]!)) _ wL hp (by rw[yh];exact lS (lQ Jv) len);obtain⟨J',g1,g2,g3,g4,g6,ga,gb⟩:=hM _ _ _ lr _ _ e pE (by have:=CR.BK f2;simpa using this);obtain⟨id,g7,g8⟩:=g6 rfl;simp only[Value.pointer.injEq,oi]at g7;subst g7;refine⟨.slice (some ⟨w.heap.size,0,none⟩) len len,w.alloc (.cells lr e),J',?_,g1,g2,?_,g4,ga.mono (fun _ q=>q.2),gb.mono (fun _ q=>by cases q.1)⟩
      ·simp only[Instr.buildSlice,Sem.run_bind,aK hu,Result.andThen_ok,ct hn]
       rw[Sem.run_ite,if_neg om];by_cases h0:len*n=0
       ·have PC:z0=#[]:=by simp[z0,h0]
        rw[PC]at f1;rw[if_pos h0];simp only[Sem.run_bind,Sem.run_pure,Result.andThen_ok,f1,newRow,run_newObj];rfl
       ·have PC:z0=z.cells:=by simp[z0,h0]
        rw[PC]at f1;rw[if_neg h0];simp only[Sem.run_bind,Sem.run_pure,Result.andThen_ok,gC hz,f1,newRow,run_newObj];rfl
      ·have hlen:len<aP:=by unfold aP;omega
       have q:=VG.gR (g:=J'.g) ⟨id,0,none⟩ _ len len rfl g8 hlen;simpa using q
     ·cases h
    ·cases h
  ·cases h
 ·cases h
end Go.cY
namespace Go.cY
variable{P:Program}{w:World}{J:dS}{s:St}
theorem wrap_small{n:Int}(h0:0<=n)(h1:n<=1073741824):IntKind.i64.wrap n=n:=by
 unfold IntKind.wrap;have e:(2 ^ IntKind.i64.bits:Int)=18446744073709551616:=by decide
 have e2:(2 ^ (IntKind.i64.bits-1):Int)=9223372036854775808:=by decide
 simp only[e,e2];rw[Int.emod_eq_of_lt h0 om];simp only[IntKind.signed,Bool.true_and,decide_eq_true_eq];rw[if_neg om]
theorem yi{mk:lJ}(hM:AV J s w mk){t:TypeId}{l c cl cc v:Value}{s':St}(h:fW P mk t l c=some (v,s'))(hl:VR J l cl)(hc:VR J c cc) :
  ∃r w' J',(Instr.makeSlice t cl cc).run P w=.ok r w'/\Good J s w J' s' w'/\(∀t L,J.l t=some L->J'.l t=some L)/\VG J'.g v r/\s'.env=s.env/\fP (HS mk) J.g J'.g/\fP (fun _=>False) J.l J'.l:=by
 unfold fW at h;split at h
 ·rename_i e k1 l k2 c hu
  obtain rfl:=(hl.bg (fun a=>by simp)).int;obtain rfl:=(hc.bg (fun a=>by simp)).int;split at h
  ·rename_i n z by_ hn hz rj
   split at h
   ·rename_i se
    obtain⟨c1,c2,c3,c4,c5⟩:=se;split at h
    ·rename_i a s2 pE
     simp only[oi,pj]at h;obtain⟨rfl,rfl⟩:=h;obtain⟨Jv,it,wu,U6⟩:=fX hz;obtain⟨it2,DC,YI⟩:=pX rj
     rw[wu]at DC;obtain rfl:=Option.some.inj DC
     let z0:Array Value:=if c.toNat*n=0 then #[] else z.cells
     have yh:((Array.range (c.toNat*n)).map (fun i=>z0[i % z0.size]!)).toList=bF z.cells.toList c.toNat:=by
      by_cases h0:c.toNat*n=0
      ·have hl:(bF z.cells.toList c.toNat)=[]:=by
        apply List.length_eq_zero_iff.1;rw[gO,c5];exact h0
       rw[hl,h0];simp
      ·have:z0=z.cells:=by simp[z0,h0]
       rw[this];have:=jS z.cells c.toNat;rw[show z.cells.size=n by simpa using c5]at this ⊢;exact this
     obtain⟨J',g1,g2,g3,g4,g6,ga,gb⟩:=hM _ _ _ ((Array.range (c.toNat*n)).map (fun i=>z0[i % z0.size]!)) _ _ e pE (by rw[show(Array.range (c.toNat*n)).map (fun i=>z0[i % z0.size]!)=(bF z.cells.toList c.toNat).toArray from Array.ext' (by rw[yh])];exact CR.BK (lS (g:=J.g) (lQ Jv) c.toNat));obtain⟨id,g7,g8⟩:=g6 rfl;simp only[Value.pointer.injEq,oi]at g7;subst g7;refine⟨.slice (some ⟨w.heap.size,0,none⟩) l.toNat c.toNat,w.alloc (.cells ((Array.range (c.toNat*n)).map (fun i=>z0[i % z0.size]!)) e),J',?_,g1,g2,?_,g4,ga.mono (fun _ q=>q.2),gb.mono (fun _ q=>by cases q.1)⟩
     ·have wl:IntKind.i64.wrap l=l:=wrap_small c1 om
      have wc:IntKind.i64.wrap c=c:=wrap_small om c3;have tv:¬((by_:Int)*c>2 ^ 48):=by
       have h1:(by_:Int)*c<=16384*1073741824:=Int.mul_le_mul om c3 om om;have h2:(2:Int) ^ 48=281474976710656:=by decide
       omega
      have Gh:¬((((decide (c<0) || decide ((by_:Int)*c>2 ^ 48)) || decide (l<0)) || decide (l>c))=true):=by
       simp only[Bool.or_eq_true,decide_eq_true_eq,not_or];exact⟨⟨⟨om,tv⟩,om⟩,om⟩
      by_cases h0:c.toNat*n=0
      ·have PC:z0=#[]:=by simp[z0,h0]
       simp only[Instr.makeSlice,Sem.run_bind,aK hu,asInt,asIntOf,Sem.run_pure,Result.andThen_ok,il wu,YI,wl,wc];rw[Sem.run_ite,if_neg Gh];simp only[Sem.run_pure,Result.andThen_ok,Sem.run_bind,run_askRoom,ct hn];rw[Sem.run_ite,if_pos h0];simp only[Sem.run_pure,Result.andThen_ok,Sem.run_bind,newRow,run_newObj,PC];rfl
      ·have PC:z0=z.cells:=by simp[z0,h0]
       simp only[Instr.makeSlice,Sem.run_bind,aK hu,asInt,asIntOf,Sem.run_pure,Result.andThen_ok,il wu,YI,wl,wc];rw[Sem.run_ite,if_neg Gh];simp only[Sem.run_pure,Result.andThen_ok,Sem.run_bind,run_askRoom,ct hn];rw[Sem.run_ite,if_neg h0];simp only[Sem.run_pure,Result.andThen_ok,Sem.run_bind,gC hz,newRow,run_newObj,PC];rfl
     ·have q:=VG.gR (g:=J'.g) ⟨id,0,none⟩ _ l.toNat c.toNat rfl g8 (by unfold aP;omega)
      simpa using q
    ·cases h
   ·cases h
  ·cases h
 ·cases h
theorem HR.drew{d:Nat}(h:HR J s w):HR J s { w with drawn:=d }:=
 { cV:=h.cV,dx:=h.dx,cN:=h.cN,dy:=h.dy,fv:=h.fv,fj:=h.fj,fw:=h.fw,sep:=h.sep }
theorem Good.drew{d:Nat}(h:HR J s w):Good J s w J s { w with drawn:=d } where
 hr:=h.drew
 mono:=fun _ _ h=>h
 next:=Nat.le_refl _
 low:=Nat.le_refl _
 size:=Nat.le_refl _
 os:=rfl
 tape:=rfl
 output:=rfl
 fresh:=(fun id L h1 h2=>by rw[h2]at h1;cases h1)
 cO:=fun t L h1=>.inr ⟨t,L,h1,rfl⟩
 frame:=fun _ _ _ _=>rfl
theorem Good.kill (h : HR J s w) {b : Nat} (_hb : b < s.h.next) : Good J s w J { s with h := s.h.kill b } w where
  hr := { cV := h.cV, dx := h.dx, fv := h.fv, fj := h.fj, fw := h.fw, sep := h.sep
          cN := fun id L b1 h1 h2 => by
            simp only [af.kill, cW.bP] at h2
            by_cases e : b = id
            · simp only [e, if_true, oi] at h2; subst h2; trivial
            · simp only [e, if_false] at h2; exact h.cN _ _ _ h1 h2
          dy := fun id pQ L L' b1 b2 h1 h2 h3 h4 Aa Dw hb9 => by
            simp only [af.kill, cW.bP] at h3 h4
            by_cases e : b = id
            · simp only [e, if_true, oi] at h3; subst h3; cases Aa
            · by_cases e' : b = pQ
              · simp only [e', if_true, oi] at h4; subst h4; cases Dw
              · simp only [e, if_false] at h3
                simp only [e', if_false] at h4
                exact h.dy _ _ _ _ _ _ h1 h2 h3 h4 Aa Dw hb9 }
  mono := fun _ _ h => h
  next := Nat.le_refl _
  low := Nat.min_le_left _ _
  size := Nat.le_refl _
  os := rfl
  tape := rfl
  output := rfl
  fresh := (fun id L h1 h2 => by rw [h2] at h1; cases h1)
  cO := fun t L h1 => .inr ⟨t, L, h1, rfl⟩
  frame := fun _ _ _ _ => rfl
theorem jT(z:Array Value)(n:Nat):(Builtin.zeroCells z n).toList=bF z.toList n:=jS z n
def LI(P:Program)(w:World)(kM:Bool)(e size n:Nat)(cx:Value)(us:List Value):Prop:=
 (kM=false/\(Builtin.lenOf cx).run P w=.ok n w/\(Builtin.firstCells size n cx).run P w=.ok us.toArray w) \/
 (kM=true/\∃k m z it,cx=.int k m/\0<=m/\m<=1073741824/\n=m.toNat/\P.info? e=some it/\it.bytes<=16384/\(zeroValue e).run P w=.ok z w/\z.cells.toList.length=size/\us=bF z.cells.toList n)
theorem Jw(hR:HR J s w){e:TypeId}{size:Nat}{kM:Bool}{x cx:Value}{n:Nat}{news:List Value}(h:iW P s.h e size kM x=some (n,news))(hx:VR J x cx) :
  ∃us,fQ J.g news us/\∀d,LI P { w with drawn:=d } kM e size n cx us:=by
 unfold iW at h;cases kM with
 |true=>
  simp only[cond_true]at h;split at h
  ·rename_i k m z by_ hz rj
   split at h
   ·rename_i se
    obtain⟨c1,c2,c3,c4⟩:=se;simp only[oi,pj]at h;obtain⟨rfl,rfl⟩:=h;obtain rfl:=(hx.bg (fun a=>by simp)).int;obtain⟨Jv,it,wu,U6⟩:=fX hz;obtain⟨it2,DC,YI⟩:=pX rj
    rw[wu]at DC;obtain rfl:=Option.some.inj DC;exact⟨bF z.cells.toList m.toNat,lS (lQ Jv) _,fun d=>.inr ⟨rfl,k,m,z,it,rfl,c1,c2,rfl,wu,om,gC hz,c4,rfl⟩⟩
   ·cases h
  ·cases h
 |false=>
  simp only[cond_false]at h;split at h
  ·rename_i a m c
   split at h
   ·rename_i l hl
    simp only[oi,pj]at h;obtain⟨rfl,rfl⟩:=h;obtain⟨hs,L,c',hL,rfl,_⟩:=(hx.bg (fun a=>by simp)).pU (iT hl).1;obtain⟨l',h1,h2,h3⟩:=hR.read (a:=a) (L:=L) (by simp[dS.at,hs,hL]) (iT hl).2;have:=fun d=>run_loadCells_list (P:=P) { w with drawn:=d } ⟨L.b,L.o+a.off,none⟩ l' h3
    rw[h2]at this;exact⟨l',h1,fun d=>.inl ⟨rfl,by simp[Builtin.lenOf],by simp[Builtin.firstCells,this d]⟩⟩
   ·cases hb:(a.spot.isSome && Nat.beq m 0)with
    |false=>rw[hb]at h;simp at h
    |true=>
     rw[hb]at h;simp only[cond_true,oi,pj]at h;obtain⟨rfl,rfl⟩:=h;simp only[Bool.and_eq_true]at hb;rcases(hx.bg (fun a=>by simp)).fe with ⟨hs,_⟩|⟨rfl,_,a',c',rfl,_⟩
     ·rw[hs]at hb;simp at hb
     ·exact⟨[],.nil _,fun d=>.inl ⟨rfl,by simp[Builtin.lenOf],by simp[Builtin.firstCells,loadCells,loadCellsFrom]⟩⟩
  ·rename_i m c
   cases hb:Nat.beq m 0 with
   |false=>rw[hb]at h;simp at h
   |true=>
    rw[hb]at h;simp only[cond_true,oi,pj]at h;obtain⟨rfl,rfl⟩:=h;obtain⟨rfl,rfl,rfl⟩:=(hx.bg (fun a=>by simp)).fH;exact⟨[],.nil _,fun d=>.inl ⟨rfl,by simp[Builtin.lenOf],by simp[Builtin.firstCells]⟩⟩
  ·rename_i b
   simp only[oi,pj]at h;obtain⟨rfl,rfl⟩:=h;obtain rfl:=(hx.bg (fun a=>by simp)).string;refine⟨_,fQ.flat (by simp only[List.all_map,List.all_eq_true];intro a _;rfl),fun d=>.inl ⟨rfl,by simp[Builtin.lenOf],?_⟩⟩;have e:b.extract 0 b.size=b:=by simp
   simp only[Builtin.firstCells,e,Sem.run_pure]
   congr 1
   apply Array.ext';simp
  ·cases h
theorem Gi{Jx c:Nat}(h:c<Jx):Builtin.nextslicecap Jx c<=2*Jx+768:=by
 unfold Builtin.nextslicecap;split
 ·omega
 ·split
  ·omega
  ·have key:∀rounds c,c<=2*Jx+768->Builtin.growBy Jx rounds c<=2*Jx+768:=by
    intro rounds
    induction rounds with
    |zero=>intro c hc;simpa[Builtin.growBy]using hc
    |succ r ih=>
     intro c hc;simp only[Builtin.growBy];split
     ·exact hc
     ·exact ih _ om
   exact key 4 c om
theorem yj{n:Nat}(h:n<=1073741824):n<aP:=by unfold aP;omega
theorem DD{e size n:Nat}{z:Value}(hz:(zeroValue e).run P w=.ok z w)(hl:z.cells.toList.length=size) :
  (if n*size=0 then(pure #[]:Sem (Array Value))else do pure (Builtin.zeroCells (<-zeroValue e).cells n)).run P w=.ok (bF z.cells.toList n).toArray w:=by
 by_cases h0:n*size=0
 ·rw[if_pos h0]
  have:bF z.cells.toList n=[]:=by apply List.length_eq_zero_iff.1;rw[gO,hl];exact h0
  rw[this];rfl
 ·rw[if_neg h0]
  simp only[Sem.run_bind,hz,Result.andThen_ok,Sem.run_pure]
  congr 1
  apply Array.ext';rw[jT]
theorem mG{t xt ty e:TypeId}{x:Value}{base:Option Addr}{len c size:Nat}{xd:TypeDesc}{n:Nat}{us:List Value}
  (hu:P.underlying t=some (.slice e)) (HW:P.underlying xt=some xd) (hn:bY P e=some size) (hN:LI P w (cX (some xd)) e size n x us) (hH:len+n<=c) :
  (Builtin.append_ #[t,xt] ty #[.slice base len c,x]).run P w =
   ((match base with|some a=>storeCells (a.add (len*size)) us|none=>pure ():Sem Unit).run P w).andThen fun _ w'=>.ok (.slice base (len+n) c) w':=by
 unfold Builtin.append_;simp only[List.getElem?_toArray,List.getElem?_cons_zero,List.getElem?_cons_succ,Sem.run_bind,aK hu,Result.andThen_ok,ct hn,aK HW,Sem.run_pure];rcases hN with ⟨hz,h1,h2⟩|⟨hz,k,m,z,it,rfl,c1,c2,rfl,wu,c4,h3,h4,rfl⟩
 ·clear HW
  cases xd<;>first|(exfalso;simp[cX]at hz;done)|skip
  all_goals
   simp only[Bool.false_eq_true,if_false,Bool.not_false,if_true,Sem.run_bind,h1,Result.andThen_ok,hH,h2];cases base with
   |none=>simp
   |some a=>simp
 ·have wl:IntKind.i64.wrap m=m:=wrap_small c1 c2
  have tv:¬(m*(it.bytes:Int)>2 ^ 48):=by
   have h1:m*(it.bytes:Int)<=1073741824*16384:=Int.mul_le_mul c2 om om om;have h2:(2:Int) ^ 48=281474976710656:=by decide
   omega
  obtain⟨k',rfl⟩:∃k,xd=.int k:=by cases xd<;>simp_all [cX]
  simp only[if_true,Sem.run_bind,asInt,asIntOf,Sem.run_pure,Result.andThen_ok,wl];rw[Sem.run_ite,if_neg (show ¬m<0 by omega)];simp only[Sem.run_bind,Sem.run_pure,Result.andThen_ok,il wu];rw[Sem.run_ite,if_neg tv];simp only[Sem.run_bind,Sem.run_pure,Result.andThen_ok];rw[Sem.run_ite,if_pos hH];simp only[Bool.not_true,Bool.false_eq_true,if_false,Sem.run_bind,DD h3 h4,Result.andThen_ok];cases base with
  |none=>simp
  |some a=>simp
theorem mH{t xt ty e:TypeId}{x:Value}{base:Option Addr}{len c size:Nat}{xd:TypeDesc}{n:Nat}{us cE:List Value}{it:TypeInfo}{z:Value}
  (hu:P.underlying t=some (.slice e)) (HW:P.underlying xt=some xd) (hn:bY P e=some size) (wu:P.info? e=some it) (rj:it.bytes<=16384) (hz:iw P e=some z)
  (hN:LI P w (cX (some xd)) e size n x us) (HX:LI P { w with drawn:=w.drawn+1 } (cX (some xd)) e size n x us)
  (hold:(Builtin.firstCells size len (.slice base len c)).run P { w with drawn:=w.drawn+1 }=.ok cE.toArray { w with drawn:=w.drawn+1 })
  (hH:c<len+n) (sf:len+n<=1073741824) :
  ∃newCap,len+n<=newCap/\(Builtin.append_ #[t,xt] ty #[.slice base len c,x]).run P w =
   .ok (.slice (some ⟨w.heap.size,0,none⟩) (len+n) newCap) (({ w with drawn:=w.drawn+1 }:World).alloc (.cells (cE.toArray++us.toArray++Builtin.zeroCells z.cells (newCap-(len+n))) e)):=by
 have VY:¬len+n<=c:=om
 have aaa:IntKind.i64.max=9223372036854775807:=by decide
 have LJ:¬(((len+n:Nat):Int)>IntKind.i64.max):=by rw[aaa];omega
 have nB:¬(Builtin.nextslicecap (len+n) c*it.bytes>2 ^ 48):=by
  have h1:=Gi hH;have h2:Builtin.nextslicecap (len+n) c*it.bytes<=(2*1073741824+768)*16384:=Nat.mul_le_mul om rj
  have h3:(2:Nat) ^ 48=281474976710656:=by decide
  omega
 refine⟨(Question.appendCap (len+n) c e).cut (w.tape w.drawn (.appendCap (len+n) c e)),by simp[Question.cut],?_⟩;unfold Builtin.append_;simp only[List.getElem?_toArray,List.getElem?_cons_zero,List.getElem?_cons_succ,Sem.run_bind,aK hu,Result.andThen_ok,ct hn,aK HW,Sem.run_pure];rcases hN with ⟨hzr,h1,h2⟩|⟨hzr,k,m,z',it',rfl,c1,c2,rfl,VZ,c4,h3,h4,rfl⟩
 ·have hr:(Builtin.firstCells size n x).run P { w with drawn:=w.drawn+1 }=.ok us.toArray { w with drawn:=w.drawn+1 }:=by
   rcases HX with ⟨_,_,q⟩|⟨q,_⟩
   ·exact q
   ·rw[hzr]at q;cases q
  clear HW HX;cases xd<;>first|(exfalso;simp[cX]at hzr;done)|skip
  all_goals
   simp only[Bool.false_eq_true,if_false,Bool.not_false,if_true,Sem.run_bind,h1,Result.andThen_ok,VY,il wu,LJ,false_and,false_or,nB,run_choose,Question.forced,run_askRoom,hold,hr,gC hz,newRow,run_newObj,Sem.run_pure];rfl
 ·have wl:IntKind.i64.wrap m=m:=wrap_small c1 c2
  rw[wu]at VZ;obtain rfl:=Option.some.inj VZ;have tv:¬(m*(it.bytes:Int)>2 ^ 48):=by
   have h1:m*(it.bytes:Int)<=1073741824*16384:=Int.mul_le_mul c2 om om om;have h2:(2:Int) ^ 48=281474976710656:=by decide
   omega
  have hz1:(zeroValue e).run P { w with drawn:=w.drawn+1 }=.ok z' { w with drawn:=w.drawn+1 }:=by
   rw[gC hz]at h3;obtain⟨rfl,_⟩:z=z'/\True:=by simpa using h3
   exact gC hz
  obtain⟨k',rfl⟩:∃k,xd=.int k:=by cases xd<;>simp_all [cX]
  simp only[if_true,Sem.run_bind,asInt,asIntOf,Sem.run_pure,Result.andThen_ok,wl];rw[Sem.run_ite,if_neg (show ¬m<0 by omega)];simp only[Sem.run_bind,Sem.run_pure,Result.andThen_ok,il wu];rw[Sem.run_ite,if_neg tv];simp only[Sem.run_bind,Sem.run_pure,Result.andThen_ok];rw[Sem.run_ite,if_neg VY];simp only[Sem.run_bind,Result.andThen_ok,il wu];rw[Sem.run_ite,if_neg (fun q=>LJ q.1)];simp only[Sem.run_bind,Result.andThen_ok,il wu,Sem.run_pure];rw[Sem.run_ite,if_neg nB];simp only[Bool.not_true,Bool.false_eq_true,if_false,Sem.run_bind,Result.andThen_ok,run_choose,Question.forced,il wu,run_askRoom,hold,DD hz1 h4,gC hz,newRow,run_newObj,Sem.run_pure];rfl
end Go.cY
namespace Go.cY
variable{P:Program}{w:World}{J:dS}{s:St}
theorem CR.head{g:Nat->Option Loc}{l us:List Value}{rest:Array Value}(h:fQ g l us):CR g l (us.toArray++rest) 0:=by
 intro i v hi;have fg:i<us.length:=by rw[<-h.1];exact(List.getElem?_eq_some_iff.1 hi).1
 refine⟨us[i],?_,h.2 i v _ hi (by simp[fg])⟩;rw[Nat.zero_add,Array.getElem?_append_left (by simpa using fg)];simp[fg]
theorem Jy{es:Nat}{cs:List Value}(h:cs.all aE=true):s.new false es cs=some (.pointer (some ⟨s.h.next,0,none⟩),{ s with h:=s.h.push es cs }):=by
 unfold St.new;rw[h];rfl
theorem rk(hR:HR J s w){size n len newCap:Nat}{e:TypeId}{cE news uo un:List Value}{z:Array Value}(hold:fQ J.g cE uo)(gH:fQ J.g news un)(fD:(cE++news).all aE=true)
  (ho:uo.length=len*size) (hu:un.length=n*size) (hz:z.size=size) (nB:len+n<=newCap) (uL:len+n<=1073741824) :
  ∃J',Good J s w J' { s with h:=s.h.push size (cE++news) } (w.alloc (.cells (uo.toArray++un.toArray++Builtin.zeroCells z (newCap-(len+n))) e))/\(∀t L,J.l t=some L->J'.l t=some L) /\
   VG J'.g (.slice (some ⟨s.h.next,0,none⟩) (len+n) (az size (len+n))) (.slice (some ⟨w.heap.size,0,none⟩) (len+n) newCap)/\fP (s.h.next<=·) J.g J'.g/\(∀t L,J'.l t=some L->J.l t=some L):=by
 have BL:CR J.g (cE++news) (uo.toArray++un.toArray++Builtin.zeroCells z (newCap-(len+n))) 0:=by
  have:=CR.head (rest:=Builtin.zeroCells z (newCap-(len+n))) (hold.append gH);simpa using this
 obtain⟨J',g1,g2,g3,g4,g6,ga,gb⟩:=hR.new (Jy fD) BL e;obtain⟨_,g8⟩:=g6 rfl;refine⟨J',g1,g2,?_,fun k L hk=>(ga k L hk).imp (fun q=>q) (fun q=>om),fun t L ht=>(gb t L ht).elim (fun q=>q) (fun q=>by cases q.1)⟩;have uT:(uo.toArray++un.toArray++Builtin.zeroCells z (newCap-(len+n))).size=newCap*size:=by
  have h1:=gO z.toList (newCap-(len+n));rw[<-jT]at h1;simp only[Array.length_toList,hz]at h1;simp only[Array.size_append,List.size_toArray,ho,hu,h1];rw[<-Nat.add_mul,<-Nat.add_mul]
  congr 1
  omega
 rw[uT]at g8;have q:=VG.gZ (g:=J'.g) ⟨s.h.next,0,none⟩ ⟨w.heap.size,0,newCap*size,size⟩ (len+n) (len+n) newCap rfl g8 nB (yj uL) (by simp);simpa using q
theorem LK(hR:HR J s w){size n len c' es:Nat}{a:Addr}{L:Loc}{K6 cE news un:List Value}(hL:J.g a.block=some L)(yk:s.h.m.get a.block=some (.live true es K6))(uS:es=size)
  (hold:ke K6 a.off (len*size)=some cE) (gH:fQ J.g news un) (fD:news.all aE=true) (hu:un.length=n*size) (nB:len+n<=c') (Jz:L.o+a.off+c'*L.es<=L.AT) (uL:len+n<=1073741824) :
  ∃cs e,w.heap[L.b]?=some (.cells cs e (0,0))/\L.o+a.off+len*size+un.length<=cs.size/\(∀v∈un,v.oneCell'=true) /\
  ∃J',Good J s w J' { s with h:=(s.h.kill a.block).push size (cE++news) } (w.setRow L.b (iS cs (L.o+a.off+len*size) un))/\(∀t L,J.l t=some L->J'.l t=some L) /\
   VG J'.g (.slice (some ⟨s.h.next,0,none⟩) (len+n) (az size (len+n))) (.slice (some ⟨L.b,L.o+a.off,none⟩) (len+n) c')/\fP (s.h.next<=·) J.g J'.g/\(∀t L,J'.l t=some L->J.l t=some L):=by
 subst uS;obtain⟨uS,cs,e,fr,hw,BL,vD⟩:=hR.cN _ _ _ hL yk;obtain rfl:=vD rfl;obtain⟨o2,n8,HY⟩:=hR.dx _ _ hL;rw[hw]at n8;obtain rfl:=Option.some.inj n8;have HY:=HY _ _ _ rfl;rw[uS]at Jz;have hH:L.o+a.off+len*es+un.length<=cs.size:=by
  rw[hu,HY];have:len*es+n*es<=c'*es:=by rw[<-Nat.add_mul];exact Nat.mul_le_mul_right _ nB
  omega
 have pD:∀v∈un,v.oneCell'=true:=by
  intro v ZW;obtain⟨i,hi⟩:=List.mem_iff_getElem?.1 ZW;have fg:i<news.length:=by rw[gH.1];exact(List.getElem?_eq_some_iff.1 hi).1
  simp only[List.all_eq_true]at fD;exact(gH.2 i news[i] v (by simp[fg]) hi).HQ (fD _ (List.getElem_mem fg))
 refine⟨cs,e,hw,hH,pD,?_⟩
 let L':Loc:=⟨L.b,L.o+a.off,L.AT,es⟩
 let g':Nat->Option Loc:=fun id=>if id=s.h.next then some L' else J.g id
 have hblt:a.block<s.h.next:=hR.cV _ _ hL;have wo:∀id L1,J.g id=some L1->g' id=some L1:=fun id L1 h1=>by
  have:=hR.cV _ _ h1;simp only[g',show ¬id=s.h.next by omega,if_false,h1]
 have cg:∀id L1,g' id=some L1->(id=s.h.next/\L1=L')\/(id≠s.h.next/\J.g id=some L1):=fun id L1 h1=>by
  by_cases mu:id=s.h.next
  ·left;simp only[g',mu,if_true,oi]at h1;exact⟨mu,h1.symm⟩
  ·right;simp only[g',mu,if_false]at h1;exact⟨mu,h1⟩
 let vE:=iS cs (L.o+a.off+len*es) un
 have aab:vE.size=cs.size:=pW hH;have BN:(w.setRow L.b vE).heap[L.b]?=some (.cells vE e (0,0)):=setRow_heap w L.b cs vE e _ hw;have Lt:CR g' (cE++news) vE (L.o+a.off):=by
  obtain⟨r1,r2⟩:=oh hold;intro i v hi;by_cases h1:i<cE.length
  ·rw[List.getElem?_append_left h1,r2 i om]at hi
   obtain⟨c,hc,hg⟩:=BL _ _ hi;refine⟨c,?_,hg.mono wo⟩;rw[lP hH,if_neg om,<-hc]
   congr 1;omega
  ·rw[List.getElem?_append_right om]at hi
   have fg:i-cE.length<un.length:=by rw[<-gH.1];exact(List.getElem?_eq_some_iff.1 hi).1
   refine⟨un[i-cE.length],?_,(gH.2 _ _ _ hi (by simp[fg])).mono wo⟩;rw[lP hH,if_pos ⟨om,om⟩];rw[show L.o+a.off+i-(L.o+a.off+len*es)=i-cE.length by omega];simp[fg]
 have JA:∀id b1,((s.h.kill a.block).push es (cE++news)).m.get id=some b1->b1.alive=true->(id=s.h.next/\b1=.live true es (cE++news))\/(id≠s.h.next/\id≠a.block/\s.h.m.get id=some b1):=by
  intro id b1 h Lu;simp only[af.push,af.kill,cW.bP]at h;by_cases h1:s.h.next=id
  ·left;simp only[h1,if_true,oi]at h;exact⟨h1.symm,h.symm⟩
  ·right
   simp only[h1,if_false]at h;by_cases h2:a.block=id
   ·simp only[h2,if_true,oi]at h;subst h;cases Lu
   ·simp only[h2,if_false]at h;exact⟨Ne.symm h1,Ne.symm h2,h⟩
 refine⟨⟨g',J.l⟩,?_,fun t L h=>h,?_,fun k L1 hk=>(cg k L1 hk).elim (fun q=>.inr om) (fun q=>.inl q.2),fun t L h=>h⟩
 ·refine { hr:=?_,mono:=wo,next:=by simp[af.push,af.kill],low:=Nat.min_le_left _ _,size:=by simp,os:=rfl,tape:=rfl,output:=rfl,fresh:=?_,cO:=fun t L h1=>.inr ⟨t,L,h1,rfl⟩,frame:=?_ }
  ·refine { cV:=?_,dx:=?_,cN:=?_,dy:=?_,fv:=hR.fv,fj:=?_,fw:=hR.fw,sep:=?_ }
   ·intro id L1 h1
    rcases cg id L1 h1 with ⟨rfl,_⟩|⟨_,h1⟩
    ·simp[af.push,af.kill]
    ·have:=hR.cV _ _ h1;simp[af.push,af.kill];omega
   ·intro id L1 h1
    rcases cg id L1 h1 with ⟨rfl,rfl⟩|⟨_,h1⟩
    ·exact⟨.cells vE e (0,0),BN,fun c9 e9 f9 q=>by cases q;rw[aab,HY]⟩
    ·by_cases hb:L1.b=L.b
     ·obtain⟨o2,hx,hy⟩:=hR.dx _ _ h1
      rw[hb,hw]at hx;obtain rfl:=Option.some.inj hx;have:=hy _ _ _ rfl;exact⟨.cells vE e (0,0),by rw[hb];exact BN,fun c9 e9 f9 q=>by cases q;omega⟩
     ·rw[setRow_other w _ _ _ hb];exact hR.dx _ _ h1
   ·intro id L1 b1 h1 h2
    cases Lu:b1.alive with
    |false=>cases b1<;>first|trivial|(simp[Dk.alive]at Lu)
    |true=>
    rcases JA _ _ h2 Lu with ⟨rfl,rfl⟩|⟨ff,S1,h2⟩
    ·rcases cg _ L1 h1 with ⟨_,rfl⟩|⟨ff,_⟩
     ·exact⟨rfl,vE,e,(0,0),BN,Lt,fun _=>rfl⟩
     ·exact absurd rfl ff
    ·rcases cg id L1 h1 with ⟨rfl,_⟩|⟨_,h1⟩
     ·exact absurd rfl ff
     ·have hb:L1.b≠L.b:=fun hb=>S1 (hR.dy _ _ _ _ _ _ h1 hL h2 yk Lu rfl hb)
      rw[setRow_other w _ _ _ hb];exact(hR.cN _ _ _ h1 h2).mono wo
   ·intro id pQ L1 L2 b1 b2 h1 h2 h3 h4 Aa Dw hb
    rcases JA _ _ h3 Aa with ⟨rfl,_⟩|⟨ff,S1,h3⟩<;>rcases JA _ _ h4 Dw with ⟨rfl,_⟩|⟨F8,V5,h4⟩
    ·rfl
    ·rcases cg _ L1 h1 with ⟨_,rfl⟩|⟨hx,_⟩
     ·rcases cg _ L2 h2 with ⟨hx,_⟩|⟨_,h2⟩
      ·exact absurd hx F8
      ·exact absurd (hR.dy _ _ _ _ _ _ h2 hL h4 yk Dw rfl hb.symm) V5
     ·exact absurd rfl hx
    ·rcases cg _ L2 h2 with ⟨_,rfl⟩|⟨hx,_⟩
     ·rcases cg _ L1 h1 with ⟨hx,_⟩|⟨_,h1⟩
      ·exact absurd hx ff
      ·exact absurd (hR.dy _ _ _ _ _ _ h1 hL h3 yk Aa rfl hb) S1
     ·exact absurd rfl hx
    ·rcases cg _ L1 h1 with ⟨hx,_⟩|⟨_,h1⟩
     ·exact absurd hx ff
     ·rcases cg _ L2 h2 with ⟨hx,_⟩|⟨_,h2⟩
      ·exact absurd hx F8
      ·exact hR.dy _ _ _ _ _ _ h1 h2 h3 h4 Aa Dw hb
   ·intro t L1 h1
    obtain⟨c9,e9,a1,a2⟩:=hR.fj _ _ h1;have hb:L1.b≠L.b:=fun hb=>hR.sep _ _ _ _ hL h1 hb.symm
    exact⟨c9,e9,by rw[setRow_other w _ _ _ hb];exact a1,fun c hc=>(a2 c hc).mono wo⟩
   ·intro id t L1 L2 h1 h2 hb
    rcases cg id L1 h1 with ⟨rfl,rfl⟩|⟨_,h1⟩
    ·exact hR.sep _ _ _ _ hL h2 hb
    ·exact hR.sep _ _ _ _ h1 h2 hb
  ·intro id L1 h1 h2
   rcases cg id L1 h1 with ⟨rfl,rfl⟩|⟨_,h1⟩
   ·exact .inr ⟨a.block,L,hL,rfl,Nat.min_le_right _ _⟩
   ·rw[h2]at h1;cases h1
  ·intro b hb hg hl
   have:b≠L.b:=fun e=>by
    have h1:=hg a.block L hL e.symm;have h2:Nat.min s.h.low a.block<=a.block:=Nat.min_le_right _ _;simp only[af.push,af.kill]at h1;omega
   exact setRow_other w _ _ _ this
 ·have q:=VG.gZ (g:=g') ⟨s.h.next,0,none⟩ L' (len+n) (len+n) c' rfl (by simp[g']) nB (yj uL) (by simpa[L',uS]using Jz)
  simpa[L']using q
def dO(P:Program)(J:dS)(s:St)(w:World)(x:Sem Value)(v:Value)(s':St)(R Rl:Nat->Prop):Prop:=
 ∃c w' J',x.run P w=.ok c w'/\Good J s w J' s' w'/\(∀t L,J.l t=some L->J'.l t=some L)/\VR J' v c/\s'.env=s.env/\fP R J.g J'.g/\fP Rl J.l J'.l
theorem dO.still{x:Sem Value}{v c:Value}{R Rl:Nat->Prop}(hR:HR J s w)(h:x.run P w=.ok c w)(hv:VR J v c):dO P J s w x v s R Rl:=⟨c,w,J,h,.refl hR,fun _ _ h=>h,hv,rfl,.refl _ _,.refl _ _⟩
theorem bm{r:Option (Value×af)}{v:Value}{s':St}(h:bV s r=some (v,s')):∃h',r=some (v,h')/\s' = { s with h:=h' }:=by
 unfold bV at h;split at h
 ·simp only[oi,pj]at h
  obtain⟨rfl,rfl⟩:=h;exact⟨_,rfl,rfl⟩
 ·cases h
theorem DE(hR:HR J s w){ts:List TypeId}{args aT:List Value}{ty:TypeId}{v:Value}{s':St}(h0:bV s (cF P s.h ts args)=some (v,s'))(ha:args.length=aT.length/\∀(i:Nat) (a b:Value),args[i]?=some a->aT[i]?=some b->VR J a b) :
  dO P J s w (Builtin.append_ ts.toArray ty aT.toArray) v s' (s.h.next<=·) (fun _=>False):=by
 obtain⟨sZ,h,rfl⟩:=bm h0;clear h0;unfold cF at h;split at h
 ·rename_i t xt base len c x
  obtain⟨c0,c1,rfl⟩:∃c0 c1,aT=[c0,c1]:=by
   have:=ha.1
   match aT,this with
   | [c0,c1],_=>exact⟨c0,c1,rfl⟩
  have hs:=ha.2 0 _ _ rfl rfl;have hx:=ha.2 1 _ _ rfl rfl;have HZ:=hs.bg (fun a=>by simp);split at h
  ·rename_i e hu
   split at h
   ·rename_i size by_ xd z hn rj HW hz
    split at h
    ·rename_i n news gH
     obtain⟨us,RJ,U7⟩:=Jw (P:=P) hR gH hx;have hN:LI P w (cX (some xd)) e size n c1 us:=U7 w.drawn;have HX:=U7 (w.drawn+1);obtain⟨Jv,it,wu,U6⟩:=fX hz;obtain⟨it2,DC,YI⟩:=pX rj
     rw[wu]at DC;obtain rfl:=Option.some.inj DC;cases yp:Nat.ble (len+n) (cL c)with
     |true=>
      rw[yp]at h;simp only[cond_true]at h;have hH:=Nat.le_of_ble_eq_true yp;cases base with
      |none=>
       dsimp only at h;simp only[oi,pj]at h;obtain⟨rfl,rfl⟩:=h;obtain⟨rfl,rfl,rfl⟩:=HZ.fH;rw[fE gB]at hH;have xQ:n=0:=om
       subst xQ;refine dO.still hR (c:=.slice none 0 0) ?_ (.dc _ _ (.flat _ rfl));have:=mG (P:=P) (ty:=ty) (base:=none) (len:=0) (c:=0) hu HW hn hN om;simpa using this
      |some a=>
       dsimp only at h;split at h
       ·rename_i s2 hw
        simp only[oi,pj]at h;obtain⟨rfl,rfl⟩:=h;obtain⟨jM,L,c',hL,rfl,q⟩:=HZ.pU (by have:=(iY hw).1;simpa[fV]using this);have Pb:cL c<=c':=by
         obtain⟨_,_,e9,q9⟩:=HZ.iH;simp only[Value.slice.injEq,true_and]at e9;rw[e9.2];exact q9
        obtain⟨w',e1,e2,e3,_⟩:=hR.write (P:=P) (a:=fV a (len*size)) (L:=L) (by simp[dS.at,fV,jM,hL]) (iY hw).2 RJ;refine⟨.slice (some ⟨L.b,L.o+a.off,none⟩) (len+n) c',w',J,?_,e2,fun _ _ h=>h,?_,e3,.refl _ _,.refl _ _⟩
        ·have:=mG (P:=P) (ty:=ty) (base:=some ⟨L.b,L.o+a.off,none⟩) (len:=len) (c:=c') hu HW hn hN om
         rw[show([t,xt]:List TypeId).toArray=#[t,xt]from rfl,show([Value.slice (some ⟨L.b,L.o+a.off,none⟩) len c',c1]:List Value).toArray=#[.slice (some ⟨L.b,L.o+a.off,none⟩) len c',c1]from rfl,this];simp only[jt];have PD:(storeCells ⟨L.b,L.o+a.off+len*size,none⟩ us).run P w=.ok () w':=by simpa[fV,Nat.add_assoc]using e1
         rw[PD];rfl
        ·rcases q with ⟨q,rfl⟩|⟨m,rfl,q1,q2,q3⟩
         ·exact .dc _ _ (.gR a L _ _ jM hL q)
         ·exact .dc _ _ (.gZ a L _ _ _ jM hL q2 q1 q3)
       ·cases hb:(a.spot.isSome && Nat.beq n 0 && news.isEmpty)with
        |false=>rw[hb]at h;simp at h
        |true=>
         rw[hb]at h;simp only[cond_true,oi,pj]at h;obtain⟨rfl,rfl⟩:=h;simp only[Bool.and_eq_true,List.isEmpty_iff]at hb;obtain⟨⟨hb,wz⟩,rfl⟩:=hb;have xQ:=Nat.eq_of_beq_eq_true wz;subst xQ;have aac:=HZ;rcases HZ.fe with ⟨hs,_⟩|⟨rfl,⟨xs,hsx⟩,a',c',rfl,_⟩
         ·rw[hs]at hb;simp at hb
         ·refine dO.still hR (c:=.slice (some a') 0 c') ?_ (.dc _ _ aac)
          obtain rfl:=RJ.iX;have:=mG (P:=P) (ty:=ty) (base:=some a') (len:=0) (c:=c') hu HW hn hN om;simpa[storeCells]using this
     |false=>
      rw[yp]at h;simp only[cond_false]at h;have hH:cL c<len+n:=by
       rcases Nat.lt_or_ge (cL c) (len+n)with q|q
       ·exact q
       ·rw[bq q]at yp;cases yp
      cases se:(Nat.ble (len+n) 1073741824 && Nat.ble by_ 16384 && news.all aE && Nat.beq z.cells.toList.length size && Nat.beq news.length (n*size))with
      |false=>rw[se]at h;simp at h
      |true=>
       rw[se]at h;simp only[cond_true]at h;simp only[Bool.and_eq_true]at se;obtain⟨⟨⟨⟨d1,d2⟩,d3⟩,d4⟩,d5⟩:=se;have sf:=Nat.le_of_ble_eq_true d1;have mU:=Nat.le_of_ble_eq_true d2;have YJ:=Nat.eq_of_beq_eq_true d4;have sh:=Nat.eq_of_beq_eq_true d5;have V6:us.length=n*size:=by rw[<-RJ.1,sh]
       cases base with
       |none=>
        obtain⟨rfl,rfl,rfl⟩:=HZ.fH;simp only[Nat.beq_refl,cond_true,oi,pj]at h;obtain⟨rfl,rfl⟩:=h;rw[fE gB]at hH;obtain⟨newCap,nB,nD⟩:=mH (P:=P) (ty:=ty) (base:=none) (len:=0) (c:=0) (cE:=[]) hu HW hn wu om hz hN HX (by simp[Builtin.firstCells]) hH sf;obtain⟨J',f1,f2,f3,fa,fb⟩:=rk (hR.drew (d:=w.drawn+1)) (size:=size) (n:=n) (len:=0) (newCap:=newCap) (e:=e) (cE:=[]) (uo:=[]) (z:=z.cells) (.nil _) RJ (by simpa using d3) (by simp) V6 (by simpa using YJ) nB sf;exact⟨_,_,J',nD,(Good.drew hR).trans f1,f2,.dc _ _ f3,rfl,fa,fun t L h=>.inl (fb t L h)⟩
       |some a=>
        dsimp only at h;split at h
        ·rename_i cE PE V7
         obtain⟨jM,L,c',hL,rfl,q⟩:=HZ.pU PE;have hold:=(iT V7).2;have hLa:J.at a=some L:=by simp[dS.at,jM,hL]
         obtain⟨uo,o1,o2,o3⟩:=hR.read hLa hold;have H5:∀c9,(Builtin.firstCells size len (.slice (some ⟨L.b,L.o+a.off,none⟩) len c9)).run P { w with drawn:=w.drawn+1 }=.ok uo.toArray { w with drawn:=w.drawn+1 }:=fun c9=>by
          have:=run_loadCells_list (P:=P) { w with drawn:=w.drawn+1 } ⟨L.b,L.o+a.off,none⟩ uo o3;rw[o2]at this;simp only[Builtin.firstCells];exact this
         have V8:∃K6 V9 S3,s.h.m.get a.block=some (.live V9 S3 K6)/\ke K6 a.off (len*size)=some cE:=by
          simp only[St.read,St.cells?,jM]at hold;split at hold
          ·rename_i K6 aad
           obtain⟨V9,S3,Py⟩:=live_of_cells? aad;exact⟨K6,V9,S3,Py,hold⟩
          ·cases hold
         obtain⟨K6,V9,S3,Py,LM⟩:=V8;cases hex:Nat.blt c aP with
         |true=>
          rw[hex]at h;simp only[cond_true]at h;cases S4:cE.all aE with
          |false=>rw[S4]at h;simp at h
          |true=>
          rw[S4]at h;simp only[cond_true,oi,pj]at h;obtain⟨rfl,rfl⟩:=h;have wL:c<aP:=Nat.le_of_ble_eq_true hex;have FH:c'=c:=by
           rcases q with ⟨_,rfl⟩|⟨m,rfl,_⟩
           ·rfl
           ·have:=dE L.es m;omega
          subst FH;rw[fE wL]at hH;obtain⟨newCap,nB,nD⟩:=mH (P:=P) (ty:=ty) (base:=some ⟨L.b,L.o+a.off,none⟩) (len:=len) (c:=c') (cE:=uo) hu HW hn wu om hz hN HX (H5 c') hH sf;obtain⟨J',f1,f2,f3,fa,fb⟩:=rk (hR.drew (d:=w.drawn+1)) (size:=size) (n:=n) (len:=len) (newCap:=newCap) (e:=e) (z:=z.cells) o1 RJ (by rw[List.all_append,S4,d3];rfl) o2 V6 (by simpa using YJ) nB sf;exact⟨_,_,J',nD,(Good.drew hR).trans f1,f2,.dc _ _ f3,rfl,fa,fun t L h=>.inl (fb t L h)⟩
         |false=>
          rw[hex]at h;simp only[cond_false]at h;have wL:aP<=c:=by
           rcases Nat.lt_or_ge c aP with q|q
           ·rw[dN q]at hex;cases hex
           ·exact q
          cases S4:cE.all aE with
          |false=>rw[S4]at h;simp at h
          |true=>
          rw[S4]at h;simp only[cond_true]at h;split at h
          ·rename_i es SV yk
           cases uS:Nat.beq es size with
           |false=>rw[uS]at h;simp at h
           |true=>
            rw[uS]at h;simp only[cond_true,oi,pj]at h;obtain⟨rfl,rfl⟩:=h;rw[Py]at yk;obtain⟨rfl,rfl,rfl⟩:V9=true/\S3=es/\K6=SV:=by simpa using yk
            rcases q with ⟨q,_⟩|⟨m,rfl,q1,q2,q3⟩
            ·omega
            ·rw[cA q1]at hH
             by_cases DF:len+n<=c'
             ·obtain⟨cs,e9,k1,k2,k3,J',k4,k5,k6,ka,kb⟩:=LK hR hL Py (Nat.eq_of_beq_eq_true uS) LM RJ d3 V6 DF q3 sf
              refine⟨_,_,J',?_,k4,k5,.dc _ _ k6,rfl,ka,fun t L h=>.inl (kb t L h)⟩;have:=mG (P:=P) (ty:=ty) (base:=some ⟨L.b,L.o+a.off,none⟩) (len:=len) (c:=c') hu HW hn hN DF;rw[show([t,xt]:List TypeId).toArray=#[t,xt]from rfl,show([Value.slice (some ⟨L.b,L.o+a.off,none⟩) len c',c1]:List Value).toArray=#[.slice (some ⟨L.b,L.o+a.off,none⟩) len c',c1]from rfl,this];simp only[jt];have PD:=run_storeCells_at (P:=P) L.b (L.o+a.off+len*size) e9 us 0 cs w k1 (by simpa using k2) k3;simp only[Nat.add_zero]at PD;rw[PD];rfl
             ·obtain⟨newCap,nB,nD⟩:=mH (P:=P) (ty:=ty) (base:=some ⟨L.b,L.o+a.off,none⟩) (len:=len) (c:=c') (cE:=uo) hu HW hn wu om hz hN HX (H5 c') om sf
              have hk:=Good.kill hR (hR.cV _ _ hL);obtain⟨J',f1,f2,f3,fa,fb⟩:=rk (hk.hr.drew (d:=w.drawn+1)) (size:=size) (n:=n) (len:=len) (newCap:=newCap) (e:=e) (z:=z.cells) o1 RJ (by rw[List.all_append,S4,d3];rfl) o2 V6 (by simpa using YJ) nB sf;exact⟨_,_,J',nD,(hk.trans (Good.drew hk.hr)).trans f1,f2,.dc _ _ f3,rfl,fa,fun t L h=>.inl (fb t L h)⟩
          ·cases h
        ·rename_i xs PE
         cases uM:Nat.beq c 0 with
         |false=>rw[uM]at h;simp at h
         |true=>
         rw[uM]at h;simp only[cond_true,oi,pj]at h;obtain⟨rfl,rfl⟩:=h;have uM:=Nat.eq_of_beq_eq_true uM;rcases HZ.fe with ⟨hs,_⟩|⟨rfl,_,a',c',rfl,hk⟩
         ·rw[hs]at PE;cases PE
         ·obtain⟨rfl,rfl⟩:c=0/\c'=0:=by
           rcases hk with q|q
           ·exact q
           ·have:=gB;omega
          rw[fE gB]at hH;obtain⟨newCap,nB,nD⟩:=mH (P:=P) (ty:=ty) (base:=some a') (len:=0) (c:=0) (cE:=[]) hu HW hn wu om hz hN HX (by simp[Builtin.firstCells,loadCells,loadCellsFrom]) hH sf;obtain⟨J',f1,f2,f3,fa,fb⟩:=rk (hR.drew (d:=w.drawn+1)) (size:=size) (n:=n) (len:=0) (newCap:=newCap) (e:=e) (cE:=[]) (uo:=[]) (z:=z.cells) (.nil _) RJ (by simpa using d3) (by simp) V6 (by simpa using YJ) nB sf;exact⟨_,_,J',nD,(Good.drew hR).trans f1,f2,.dc _ _ f3,rfl,fa,fun t L h=>.inl (fb t L h)⟩
        ·cases h
    ·cases h
   ·cases h
  ·cases h
 ·cases h
theorem JB(hR:HR J s w){ts:List TypeId}{args aT:List Value}{ty:TypeId}{v:Value}{s':St}(h0:bV s (te P s.h ts args)=some (v,s'))(ha:args.length=aT.length/\∀(i:Nat) (a b:Value),args[i]?=some a->aT[i]?=some b->VR J a b) :
  dO P J s w (Builtin.copy_ ts.toArray ty aT.toArray) v s' (s.h.next<=·) (fun _=>False):=by
 obtain⟨sZ,h,rfl⟩:=bm h0;clear h0;unfold te at h;split at h
 ·rename_i t xt base len c x
  obtain⟨c0,c1,rfl⟩:∃c0 c1,aT=[c0,c1]:=by
   have:=ha.1
   match aT,this with
   | [c0,c1],_=>exact⟨c0,c1,rfl⟩
  have hs:=ha.2 0 _ _ rfl rfl;have hx:=ha.2 1 _ _ rfl rfl;have HZ:=hs.bg (fun a=>by simp);split at h
  ·rename_i e hu
   split at h
   ·rename_i size hn
    split at h
    ·rename_i b n cb
     split at h
     ·rename_i l hl
      obtain⟨Wa,Lb,cb',hLb,rfl,_⟩:=(hx.bg (fun a=>by simp)).pU (iT hl).1;obtain⟨l',r1,r2,r3⟩:=hR.read (a:=b) (L:=Lb) (by simp[dS.at,Wa,hLb]) (iT hl).2;have LM:=run_loadCells_list (P:=P) w ⟨Lb.b,Lb.o+b.off,none⟩ l' r3;rw[r2]at LM;cases base with
      |none=>
       dsimp only at h;simp only[oi,pj]at h;obtain⟨rfl,rfl⟩:=h;obtain⟨rfl,rfl,rfl⟩:=HZ.fH;refine dO.still hR (c:=.int .i64 (Nat.min n 0:Nat)) ?_ (.dc _ _ (.flat _ rfl));have aae:(loadCells ⟨Lb.b,Lb.o+b.off,none⟩ (n.min 0*size)).run P w=.ok l'.toArray w:=LM;simp only[Builtin.copy_,List.getElem?_toArray,List.getElem?_cons_zero,List.getElem?_cons_succ,Sem.run_bind,aK hu,Result.andThen_ok,Builtin.lenOf,Sem.run_pure,ct hn,Builtin.firstCells,aae,goInt]
      |some a=>
       dsimp only at h;split at h
       ·rename_i s2 hw
        simp only[oi,pj]at h;obtain⟨rfl,rfl⟩:=h;obtain⟨jM,L,c',hL,rfl,_⟩:=HZ.pU (iY hw).1;obtain⟨w',e1,e2,e3,_⟩:=hR.write (P:=P) (a:=a) (L:=L) (by simp[dS.at,jM,hL]) (iY hw).2 r1;refine⟨.int .i64 (Nat.min n len:Nat),w',J,?_,e2,fun _ _ h=>h,.dc _ _ (.flat _ rfl),e3,.refl _ _,.refl _ _⟩;simp only[Builtin.copy_,List.getElem?_toArray,List.getElem?_cons_zero,List.getElem?_cons_succ,Sem.run_bind,aK hu,Result.andThen_ok,Builtin.lenOf,Sem.run_pure,ct hn,Builtin.firstCells,LM,goInt,e1]
       ·cases hb:a.spot.isSome with
        |false=>rw[hb]at h;simp at h
        |true=>
         rw[hb]at h;simp only[cond_true,oi,pj]at h;obtain⟨rfl,rfl⟩:=h;rcases HZ.fe with ⟨hs,_⟩|⟨rfl,_,a',c',rfl,_⟩
         ·rw[hs]at hb;simp at hb
         ·refine dO.still hR (c:=.int .i64 0) ?_ (.dc _ _ (.flat _ rfl))
          have h0:n.min 0=0:=Nat.min_zero _;simp[Builtin.copy_,aK hu,Builtin.lenOf,ct hn,Builtin.firstCells,goInt,h0,loadCells,loadCellsFrom,storeCells]
     ·cases hb:(b.spot.isSome && Nat.beq n 0)with
      |false=>rw[hb]at h;simp at h
      |true=>
       rw[hb]at h;simp only[cond_true,oi,pj]at h;obtain⟨rfl,rfl⟩:=h;simp only[Bool.and_eq_true]at hb;rcases(hx.bg (fun a=>by simp)).fe with ⟨hs,_⟩|⟨rfl,_,a',c',rfl,_⟩
       ·rw[hs]at hb;simp at hb
       ·obtain⟨a2,c2,rfl,_⟩:=HZ.iH
        refine dO.still hR (c:=.int .i64 0) ?_ (.dc _ _ (.flat _ rfl));have h0:Nat.min 0 len=0:=Nat.zero_min _;cases a2 with
        |none=>simp[Builtin.copy_,aK hu,Builtin.lenOf,ct hn,Builtin.firstCells,goInt,h0,loadCells,loadCellsFrom,storeCells]
        |some a=>simp[Builtin.copy_,aK hu,Builtin.lenOf,ct hn,Builtin.firstCells,goInt,h0,loadCells,loadCellsFrom,storeCells]
    ·rename_i n cb
     cases hb:Nat.beq n 0 with
     |false=>rw[hb]at h;simp at h
     |true=>
      rw[hb]at h;simp only[cond_true,oi,pj]at h;obtain⟨rfl,rfl⟩:=h;obtain⟨rfl,rfl,rfl⟩:=(hx.bg (fun a=>by simp)).fH;obtain⟨a',c',rfl,_⟩:=HZ.iH;refine dO.still hR (c:=.int .i64 0) ?_ (.dc _ _ (.flat _ rfl));simp only[Builtin.copy_,List.getElem?_toArray,List.getElem?_cons_zero,List.getElem?_cons_succ,Sem.run_bind,aK hu,Result.andThen_ok,Builtin.lenOf,Sem.run_pure,ct hn,Builtin.firstCells,goInt];have h0:Nat.min 0 len=0:=Nat.zero_min _;cases a' with
      |none=>simp[h0]
      |some a=>simp[h0,storeCells]
    ·cases h
   ·cases h
  ·cases h
 ·cases h
theorem HR.gW(h:HR J s w){b:Dk}{o:Obj}(ho:∀cs e fr,o≠.cells cs e fr)
  (hb:∀g',(∀id L,J.g id=some L->g' id=some L)->BR g' b ⟨w.heap.size,0,0,0⟩ (some o)) :
  ∃J',Good J s w J' { s with h:=s.h.gW b } (w.alloc o)/\J'.l=J.l/\J'.g s.h.next=some ⟨w.heap.size,0,0,0⟩/\fP (s.h.next<=·) J.g J'.g:=by
 have hJ:J.g s.h.next=none:=by
  cases hx:J.g s.h.next with
  |none=>rfl
  |some L=>have:=h.cV _ _ hx;omega
 let L:Loc:=⟨w.heap.size,0,0,0⟩
 let g':Nat->Option Loc:=fun k=>if k=s.h.next then some L else J.g k
 have wo:∀k L1,J.g k=some L1->g' k=some L1:=fun k L1 h1=>by
  have ff:¬k=s.h.next:=fun e=>by rw[e,hJ]at h1;cases h1
  simp only[g',ff,if_false,h1]
 have cg:∀k L1,g' k=some L1->(k=s.h.next/\L1=L)\/(k≠s.h.next/\J.g k=some L1):=fun k L1 h1=>by
  by_cases hk:k=s.h.next
  ·left;simp only[g',hk,if_true,oi]at h1;exact⟨hk,h1.symm⟩
  ·right;simp only[g',hk,if_false]at h1;exact⟨hk,h1⟩
 have pE:(w.alloc o).heap[w.heap.size]?=some o:=by show(w.heap.push _)[w.heap.size]?=_;simp
 have hold:∀k,k<w.heap.size->(w.alloc o).heap[k]?=w.heap[k]?:=fun k hk=>by show(w.heap.push _)[k]?=_;rw[Array.getElem?_push,if_neg om]
 have VS:(w.alloc o).heap.size=w.heap.size+1:=by show(w.heap.push _).size=_;simp
 refine⟨⟨g',J.l⟩,?_,rfl,by simp[g',L],fun k L1 hk=>(cg k L1 hk).elim (fun q=>.inr om) (fun q=>.inl q.2)⟩;refine { hr:=?_,mono:=wo,next:=by simp[af.gW],low:=Nat.le_refl _,size:=om,os:=rfl,tape:=rfl,output:=rfl,fresh:=?_,cO:=fun t L h1=>.inr ⟨t,L,h1,rfl⟩,frame:=fun b hb _ _=>hold b hb }
 ·refine { cV:=?_,dx:=?_,cN:=?_,dy:=?_,fv:=h.fv,fj:=?_,fw:=h.fw,sep:=?_ }
  ·intro k L1 h1
   rcases cg k L1 h1 with ⟨rfl,_⟩|⟨_,h1⟩
   ·show s.h.next<s.h.next+1;omega
   ·have:=h.cV _ _ h1;show k<s.h.next+1;omega
  ·intro k L1 h1
   rcases cg k L1 h1 with ⟨rfl,rfl⟩|⟨_,h1⟩
   ·exact⟨_,pE,fun c9 e9 f9 q=>absurd q (ho _ _ _)⟩
   ·rw[hold _ (h.lt h1)];exact h.dx _ _ h1
  ·intro k L1 b1 h1 h2
   simp only[af.gW,cW.bP]at h2;rcases cg k L1 h1 with ⟨rfl,rfl⟩|⟨ff,h1⟩
   ·simp only[if_true,oi]at h2
    subst h2;rw[show L.b=w.heap.size from rfl,pE];exact hb g' wo
   ·simp only[Ne.symm ff,if_false]at h2
    have:=(h.cN _ _ _ h1 h2).mono wo;rw[hold _ (h.lt h1)];exact this
  ·intro k k' L1 L2 b1 b2 h1 h2 h3 h4 Aa Dw hb
   simp only[af.gW,cW.bP]at h3 h4;rcases cg k L1 h1 with ⟨FJ,K5⟩|⟨ff,h1⟩<;>rcases cg k' L2 h2 with ⟨Lv,VT⟩|⟨F8,h2⟩
   ·rw[FJ,Lv]
   ·have:=h.lt h2;rw[K5]at hb;simp only[L]at hb;omega
   ·have:=h.lt h1;rw[VT]at hb;simp only[L]at hb;omega
   ·simp only[Ne.symm ff,if_false]at h3
    simp only[Ne.symm F8,if_false]at h4;exact h.dy _ _ _ _ _ _ h1 h2 h3 h4 Aa Dw hb
  ·intro t L1 h1
   obtain⟨SV,e1,a1,a2⟩:=h.fj _ _ h1;exact⟨SV,e1,by rw[hold _ (h.Ls h1)];exact a1,fun c hc=>(a2 c hc).mono wo⟩
  ·intro k t L1 L2 h1 h2 hb
   rcases cg k L1 h1 with ⟨rfl,rfl⟩|⟨_,h1⟩
   ·have:=h.Ls h2;simp only[L]at hb;omega
   ·exact h.sep _ _ _ _ h1 h2 hb
 ·intro k L1 h1 h2
  rcases cg k L1 h1 with ⟨rfl,rfl⟩|⟨_,h1⟩
  ·exact .inl (Nat.le_refl _)
  ·rw[h2]at h1;cases h1
theorem HR.jk(h:HR J s w){id:Nat}{L:Loc}(hL:J.g id=some L){b0 b:Dk}(mw:s.h.m.get id=some b0)(ha0:b0.alive=true){o:Obj}(ho:∀cs e fr,o≠.cells cs e fr)(hb:BR J.g b L (some o)) :
  Good J s w J { s with h:=s.h.jk id b } (w.putObj L.b o):=by
 have fg:=h.lt hL;have RK:(w.putObj L.b o).heap[L.b]?=some o:=World.putObj_heap_same fg;have BO:∀k,k≠L.b->(w.putObj L.b o).heap[k]?=w.heap[k]?:=fun k hk=>World.putObj_heap_other hk
 refine { hr:=?_,mono:=fun _ _ h=>h,next:=Nat.le_refl _,low:=Nat.min_le_left _ _,size:=by simp,os:=rfl,tape:=rfl,output:=rfl,fresh:=(fun id L h1 h2=>by rw[h2]at h1;cases h1),cO:=fun t L h1=>.inr ⟨t,L,h1,rfl⟩,frame:=?_ }
 ·refine { cV:=h.cV,dx:=?_,cN:=?_,dy:=?_,fv:=h.fv,fj:=?_,fw:=h.fw,sep:=h.sep }
  ·intro k L1 h1
   by_cases e:L1.b=L.b
   ·exact⟨o,by rw[e];exact RK,fun c9 e9 f9 q=>absurd q (ho _ _ _)⟩
   ·rw[BO _ e];exact h.dx _ _ h1
  ·intro k L1 b1 h1 h2
   simp only[af.jk,cW.bP]at h2;by_cases mu:id=k
   ·subst mu
    rw[hL]at h1;obtain rfl:=Option.some.inj h1;simp only[if_true,oi]at h2;subst h2;rw[RK];exact hb
   ·simp only[mu,if_false]at h2
    cases Lu:b1.alive with
    |false=>cases b1<;>first|trivial|(simp[Dk.alive]at Lu)
    |true=>
     have ff:L1.b≠L.b:=fun hb=>mu (h.dy _ _ _ _ _ _ hL h1 mw h2 ha0 Lu hb.symm)
     rw[BO _ ff];exact h.cN _ _ _ h1 h2
  ·intro k k' L1 L2 b1 b2 h1 h2 h3 h4 Aa Dw hb
   simp only[af.jk,cW.bP]at h3 h4;have l3:∃b,s.h.m.get k=some b/\b.alive=true:=by
    by_cases mu:id=k
    ·subst mu;exact⟨_,mw,ha0⟩
    ·simp only[mu,if_false]at h3;exact⟨_,h3,Aa⟩
   have l4:∃b,s.h.m.get k'=some b/\b.alive=true:=by
    by_cases mu:id=k'
    ·subst mu;exact⟨_,mw,ha0⟩
    ·simp only[mu,if_false]at h4;exact⟨_,h4,Dw⟩
   obtain⟨_,l3,v3⟩:=l3;obtain⟨_,l4,v4⟩:=l4;exact h.dy _ _ _ _ _ _ h1 h2 l3 l4 v3 v4 hb
  ·intro t L1 h1
   rw[BO _ (fun e=>h.sep _ _ _ _ hL h1 e.symm)];exact h.fj _ _ h1
 ·intro b1 FL hg hl
  refine BO b1 fun e=>?_
  have h1:=hg id L hL e.symm;have h2:Nat.min s.h.low id<=id:=Nat.min_le_right _ _;simp only[af.jk]at h1;omega
theorem MR.cons{g:Nat->Option Loc}{e:Value×Value}{es:List (Value×Value)}{c:MapEntry}{mF:List MapEntry}(h:MR g (e :: es) (c :: mF)):(c.key=e.1/\VG g e.2 c.val)/\MR g es mF:=
 ⟨h.2 0 e c rfl rfl,by have:=h.1;simpa using this,fun i e' c' h1 h2=>h.2 (i+1) e' c' (by simpa using h1) (by simpa using h2)⟩
theorem nE{g:Nat->Option Loc}{kind:TypeDesc}{k:Value}:∀(es:List (Value×Value)) (mF:List MapEntry) (i:Nat) (r:Option (Nat×Value)),MR g es mF->xO kind k es i=some r->
  (r=none/\Instr.findNow kind k mF i=some none)\/∃j v c e,r=some (i+j,v)/\Instr.findNow kind k mF i=some (some (i+j,c))/\VG g v c/\j<es.length/\mF[j]?=some e/\Instr.sameNow kind k e.key=some true
 | [],mF,i,r,hm,h=>by
  have:mF=[]:=by have:=hm.1;simp at this;exact List.eq_nil_of_length_eq_zero this.symm
  subst this;simp only[xO,oi]at h;exact .inl ⟨h.symm,rfl⟩
 |e :: es,[],i,r,hm,h=>by have:=hm.1;simp at this
 |e :: es,c :: mF,i,r,hm,h=>by
  obtain⟨⟨h1,h2⟩,h3⟩:=hm.cons;simp only[xO]at h;rw[<-h1]at h;split at h
  ·rename_i hs
   simp only[oi]at h;subst h;exact .inr ⟨0,e.2,c.val,c,rfl,by simp only[Instr.findNow,hs];rfl,h2,by simp,rfl,hs⟩
  ·rename_i hs
   rcases nE es mF (i+1) r h3 h with ⟨q1,q2⟩|⟨j,v,cv,e9,q1,q2,q3,q4,q5,q6⟩
   ·exact .inl ⟨q1,by simp only[Instr.findNow,hs];exact q2⟩
   ·refine .inr ⟨j+1,v,cv,e9,by rw[q1];congr 2;omega,?_,q3,by simp;omega,by simpa using q5,q6⟩
    simp only[Instr.findNow,hs];rw[q2];congr 3;omega
  ·cases h
theorem pe{kt:TypeId}{kd:TypeDesc}{k:Value}(hk:P.underlying kt=some kd)(hs:iR kd=true)(em:Bool)(n:Nat):(Instr.checkKey em (n+1) kt k).run P w=.ok () w:=by
 unfold Instr.checkKey;rw[Sem.run_bind,aK hk,Result.andThen_ok];cases kd<;>simp[iR]at hs<;>rfl
theorem VR.key{v c:Value}(h:VR J v c)(hk:isKey v=true):c=v:=by
 cases v with
 |int k n=>exact(h.bg (fun a=>by simp)).int
 |string b=>exact(h.bg (fun a=>by simp)).string
 |bool b=>exact(h.bg (fun a=>by simp)).bool
 |_=>simp[isKey]at hk
theorem PF(a b:ByteArray)(h:(a == b)=true):a=b:=by
 have h1:(a.data == b.data)=true:=h;have h2:a.data=b.data:=by simpa using h1
 cases a;cases b;simp_all
theorem JC(a:ByteArray):(a == a)=true:=by
 show(a.data == a.data)=true;simp
theorem Gj{kind:TypeDesc}{k e:Value}(h:Instr.sameNow kind k e=some true):e=k/\∀n,Instr.sameBits n e k=true:=by
 unfold Instr.sameNow at h;split at h
 ·split at h
  ·rename_i hk
   simp at h;subst h;subst hk;exact⟨rfl,fun n=>by cases n<;>simp[Instr.sameBits]⟩
  ·cases h
 ·simp only[oi]at h
  obtain rfl:=PF _ _ h;exact⟨rfl,fun n=>by cases n<;>simp[Instr.sameBits,JC]⟩
 ·simp at h;subst h;exact⟨rfl,fun n=>by cases n<;>simp[Instr.sameBits]⟩
 ·cases h
theorem BP(hR:HR J s w){x cx:Value}{es:List (Value×Value)}(h:xP s.h x=some es)(hx:VR J x cx) :
  (cx=.map none/\es=[])\/∃id L mF clock,x=.map (some id)/\cx=.map (some L.b)/\J.g id=some L/\s.h.m.get id=some (.map es)/\w.heap[L.b]?=some (.map mF clock)/\MR J.g es mF.toList:=by
 unfold xP at h;split at h
 ·simp only[oi]at h;subst h
  exact .inl ⟨(hx.bg (fun a=>by simp)).BJ,rfl⟩
 ·rename_i id
  split at h
  ·rename_i es' hm
   simp only[oi]at h;subst h;obtain⟨L,hL,rfl⟩:=(hx.bg (fun a=>by simp)).Pz;obtain⟨mF,clock,h1,h2⟩:=hR.cN _ _ _ hL hm;exact .inr ⟨id,L,mF,clock,rfl,rfl,hL,hm,h1,h2⟩
  ·cases h
 ·cases h
theorem ot{r:Nat}{es:Array MapEntry}{clock:Nat}(hb:w.heap[r]?=some (.map es clock)):(getObj r).run P w=.ok (.map es clock) w:=by simp[getObj,Sem.run,hb]
theorem yq{r:Nat}{es:Array MapEntry}{clock:Nat}(o:Obj)(hb:w.heap[r]?=some (.map es clock)):(setObj r o).run P w=.ok () (w.putObj r o):=by simp[setObj,Sem.run,hb,World.putObj]
theorem yr{g:Nat->Option Loc}{v c:Value}(h:VG g v c)(ok b:Bool):VG g (found ok v b) (if ok then .tuple #[c,.bool b] else c):=by
 cases ok with
 |false=>exact h
 |true=>
  refine .tuple _ _ (by simp) fun i x y hx hy=>?_
  match i with
  |0=>simp at hx hy;subst hx;subst hy;exact h
  |1=>simp at hx hy;subst hx;subst hy;exact .flat _ rfl
  |i+2=>simp at hx
theorem DG(hR:HR J s w){t:TypeId}{x cx k ck v:Value}{ok:Bool}{s':St}(h0:bV s (kS P s.h t x k ok)=some (v,s'))(hx:VR J x cx)(hk:VR J k ck) :
  dO P J s w (Instr.lookup t cx ck ok) v s' (s.h.next<=·) (fun _=>False):=by
 obtain⟨h',h,rfl⟩:=bm h0;unfold kS at h;split at h
 ·rename_i kt et hu
  split at h
  ·rename_i kd z es RL hz uS
   cases hc:(iR kd && isKey k)with
   |false=>rw[hc]at h;simp at h
   |true=>
    rw[hc]at h;simp only[cond_true]at h;simp only[Bool.and_eq_true]at hc;obtain rfl:=hk.key hc.2;have U8:=fun em=>pe (P:=P) (w:=w) (k:=ck) RL hc.1 em 9999
    rcases BP hR uS hx with ⟨rfl,rfl⟩|⟨id,L,mF,clock,rfl,rfl,hL,hm,hw,S5⟩
    ·simp only[xO,oi,pj]at h
     obtain⟨rfl,rfl⟩:=h;refine dO.still hR ?_ (.dc _ _ (yr (VG.of_flat (fX hz).1) ok false));simp only[Instr.lookup,Sem.run_bind,aK hu,Result.andThen_ok,Sem.run_pure,U8,Instr.findKey,aK RL,Instr.findNow,gC hz]
    ·split at h
     ·rename_i j u hf
      simp only[oi,pj]at h;obtain⟨rfl,rfl⟩:=h;rcases nE _ _ _ _ S5 hf with ⟨q,_⟩|⟨j',v',c',e',q1,q2,q3,_⟩
      ·cases q
      ·simp only[oi,pj]at q1
       obtain⟨rfl,rfl⟩:=q1;refine dO.still hR ?_ (.dc _ _ (yr q3 ok true));simp only[Instr.lookup,Sem.run_bind,aK hu,Result.andThen_ok,ot hw,Sem.run_pure,U8,Instr.findKey,aK RL,q2]
     ·rename_i hf
      simp only[oi,pj]at h;obtain⟨rfl,rfl⟩:=h;rcases nE _ _ _ _ S5 hf with ⟨_,q2⟩|⟨j',v',c',e',q1,_⟩
      ·refine dO.still hR ?_ (.dc _ _ (yr (VG.of_flat (fX hz).1) ok false))
       simp only[Instr.lookup,Sem.run_bind,aK hu,Result.andThen_ok,ot hw,Sem.run_pure,U8,Instr.findKey,aK RL,q2,gC hz]
      ·cases q1
     ·cases h
  ·cases h
 ·cases h
theorem MR.set{g:Nat->Option Loc}{es:List (Value×Value)}{mF:Array MapEntry}(h:MR g es mF.toList){k v c:Value}(hv:VG g v c)(i:Nat):MR g (es.set i (k,v)) (mF.modify i fun e=>{ e with key:=k,val:=c }).toList:=by
 refine⟨by simp[h.1],fun j e x he hx=>?_⟩;rw[List.getElem?_set]at he;simp only[Array.getElem?_toList,Array.getElem?_modify]at hx;by_cases YK:i=j
 ·subst YK
  simp only[if_true]at he hx;cases hc:mF[i]? with
  |none=>rw[hc]at hx;simp at hx
  |some c0=>
   rw[hc]at hx;simp only[Option.map_some,oi]at hx;subst hx;split at he
   ·simp only[oi]at he;subst he;exact⟨rfl,hv⟩
   ·cases he
 ·simp only[YK,if_false]at he hx
  exact h.2 j e x he (by simpa using hx)
theorem MR.push{g:Nat->Option Loc}{es:List (Value×Value)}{mF:Array MapEntry}(h:MR g es mF.toList){k v c:Value}(hv:VG g v c)(b:Nat):MR g (es++[(k,v)]) (mF.push { key:=k,val:=c,born:=b }).toList:=by
 refine⟨by simp[h.1],fun j e x he hx=>?_⟩;have hl:es.length=mF.toList.length:=h.1;simp only[Array.toList_push]at hx;rw[List.getElem?_append]at he hx;by_cases hj:j<es.length
 ·rw[if_pos hj]at he
  rw[if_pos om]at hx;exact h.2 j e x he hx
 ·rw[if_neg hj]at he
  rw[if_neg om]at hx;have:j-es.length=j-mF.toList.length:=om
  rw[this]at he;cases hz:j-mF.toList.length with
  |zero=>rw[hz]at he hx;simp at he hx;subst he;subst hx;exact⟨rfl,hv⟩
  |succ n=>rw[hz]at he;simp at he
theorem vH(hR:HR J s w){t:TypeId}{x cx k ck v cv r:Value}{s':St}(h0:bV s (kT P s.h t x k v)=some (r,s'))(hx:VR J x cx)(hk:VR J k ck)(hv:VR J v cv) :
  ∃w',(Instr.mapUpdate t cx ck cv).run P w=.ok () w'/\Good J s w J s' w'/\r=undef/\s'.env=s.env:=by
 obtain⟨h',h,rfl⟩:=bm h0;unfold kT at h;split at h
 ·rename_i kt et id hu
  split at h
  ·rename_i kd es RL uS
   cases hc:(iR kd && isKey k && dD v)with
   |false=>rw[hc]at h;simp at h
   |true=>
    rw[hc]at h;simp only[cond_true]at h;simp only[Bool.and_eq_true]at hc;obtain rfl:=hk.key hc.1.2;have hvg:=hv.pV hc.2;have U8:=fun em=>pe (P:=P) (w:=w) (k:=ck) RL hc.1.1 em 9999
    obtain⟨L,hL,rfl⟩:=(hx.bg (fun a=>by simp)).Pz;obtain⟨mF,clock,hw,S5⟩:=hR.cN _ _ _ hL uS;split at h
    ·rename_i i u hf
     simp only[oi,pj]at h;obtain⟨rfl,rfl⟩:=h;rcases nE _ _ _ _ S5 hf with ⟨q,_⟩|⟨j',v',c',e',q1,q2,q3,q4,q5,q6⟩
     ·cases q
     ·simp only[Nat.zero_add,oi,pj]at q1
      obtain⟨rfl,rfl⟩:=q1;obtain⟨q7,q8⟩:=Gj q6;have LN:mF[i]?=some e':=by simpa using q5
      refine⟨_,?_,hR.jk hL uS rfl (o:=.map (mF.modify i fun e=>{ e with key:=ck,val:=cv }) clock) (by simp) ⟨_,_,rfl,S5.set hvg i⟩,rfl,rfl⟩;simp only[Instr.mapUpdate,Sem.run_bind,aK hu,Result.andThen_ok,ot hw,U8,Instr.findKey,aK RL,q2,Nat.zero_add,Sem.run_pure,LN,Option.map_some,Option.getD_some,Instr.keyThatStays,q8,if_true];exact yq _ hw
    ·rename_i hf
     simp only[oi,pj]at h;obtain⟨rfl,rfl⟩:=h;rcases nE _ _ _ _ S5 hf with ⟨_,q2⟩|⟨j',v',c',e',q1,_⟩
     ·refine⟨_,?_,hR.jk hL uS rfl (o:=.map (mF.push { key:=ck,val:=cv,born:=clock }) (clock+1)) (by simp) ⟨_,_,rfl,S5.push hvg clock⟩,rfl,rfl⟩
      simp only[Instr.mapUpdate,Sem.run_bind,aK hu,Result.andThen_ok,ot hw,U8,Instr.findKey,aK RL,q2,Sem.run_pure];exact yq _ hw
     ·cases q1
    ·cases h
  ·cases h
 ·cases h
theorem tw:∀(l:List Value) (bs:List UInt8),bytesOf l=some bs->∃ns:List Int,l=ns.map (.int .u8)/\bs=ns.map (fun n=>UInt8.ofNat n.toNat)
 | [],bs,h=>by simp only[bytesOf,oi]at h;subst h;exact⟨[],rfl,rfl⟩
 |v :: l,bs,h=>by
  unfold bytesOf at h;split at h
  ·rename_i e;cases e
  ·rename_i n r e
   split at h
   ·rename_i l' hl
    simp only[oi]at h;subst h;simp only[List.cons.injEq]at e;obtain⟨rfl,rfl⟩:=e;obtain⟨ns,rfl,rfl⟩:=tw _ _ hl;exact⟨n :: ns,rfl,rfl⟩
   ·cases h
  ·cases h
theorem yu:∀(ns:List Int) (s:ByteArray),ns.foldl (fun r n=>r.push (UInt8.ofNat n.toNat)) s=⟨s.data++(ns.map (fun n=>UInt8.ofNat n.toNat)).toArray⟩
 | [],s=>by simp
 |n :: ns,s=>by
  rw[List.foldl_cons,yu ns];simp[ByteArray.push]
theorem fQ.ints{g:Nat->Option Loc}{k:IntKind}:∀(ns:List Int) (l':List Value),fQ g (ns.map (.int k)) l'->l'=ns.map (.int k)
 | [],l',h=>h.iX
 |n :: ns,l',h=>by
  obtain⟨v,l2,rfl,hv,hl⟩:=h.head;rw[fQ.ints ns l2 hl,hv.int];rfl
theorem JD(hR:HR J s w){src dst:TypeId}{a:Option Addr}{n c:Nat}{cx v:Value}(h:o8 P s.h src dst a n=some v)(hx:VR J (.slice a n c) cx):(convert src dst cx).run P w=.ok v w/\bA v=true:=by
 unfold o8 at h;split at h
 ·rename_i e hs hd
  split at h
  ·rename_i he
   split at h
   ·simp only[oi]at h;subst h
    obtain⟨rfl,rfl,rfl⟩:=(hx.bg (fun a=>by simp)).fH;rw[run_convert_bytes_string w src dst e none 0 0 hs he hd];exact⟨by simp[Conv.bytesToString],rfl⟩
   ·rename_i a
    split at h
    ·rename_i l hl
     split at h
     ·rename_i bs hb
      simp only[oi]at h;subst h;obtain⟨ns,rfl,rfl⟩:=tw _ _ hb;obtain⟨jM,L,c',hL,rfl,_⟩:=(hx.bg (fun a=>by simp)).pU (iT hl).1;obtain⟨l',h1,h2,h3⟩:=hR.read (a:=a) (L:=L) (by simp[dS.at,jM,hL]) (iT hl).2;obtain rfl:=fQ.ints _ _ h1;have LM:=run_loadCells_list (P:=P) w ⟨L.b,L.o+a.off,none⟩ _ h3;rw[h2]at LM;rw[run_convert_bytes_string w src dst e _ n c' hs he hd,run_bytesToString w _ n c' ns LM,yu];have e0:ByteArray.empty.data=#[]:=rfl;exact⟨by rw[e0];simp,rfl⟩
     ·cases h
    ·cases hb:(a.spot.isSome && Nat.beq n 0)with
     |false=>rw[hb]at h;simp at h
     |true=>
      rw[hb]at h;simp only[cond_true,oi]at h;subst h;simp only[Bool.and_eq_true]at hb;rcases(hx.bg (fun a=>by simp)).fe with ⟨pZ,_⟩|⟨rfl,_,a',c',rfl,_⟩
      ·rw[pZ]at hb;simp at hb
      ·have LM:(loadCells a' 0).run P w=.ok (([]:List Int).map (Value.int .u8)).toArray w:=by simp[loadCells,loadCellsFrom]
       rw[run_convert_bytes_string w src dst e _ 0 c' hs he hd,run_bytesToString w _ 0 c' [] LM];exact⟨rfl,rfl⟩
  ·cases h
 ·cases h
theorem Gk(hR:HR J s w){ts:List TypeId}{args aT:List Value}{ty:TypeId}{v:Value}{s':St}(h0:bV s (sE P s.h ts args)=some (v,s'))(ha:args.length=aT.length/\∀(i:Nat) (a b:Value),args[i]?=some a->aT[i]?=some b->VR J a b) :
  dO P J s w (Builtin.clear_ ts.toArray ty aT.toArray) v s' (s.h.next<=·) (fun _=>False):=by
 obtain⟨sZ,h,rfl⟩:=bm h0;clear h0;unfold sE at h;split at h
 ·rename_i t base len c
  obtain⟨c0,rfl⟩:∃c0,aT=[c0]:=by
   have:=ha.1
   match aT,this with
   | [c0],_=>exact⟨c0,rfl⟩
  have hs:=(ha.2 0 _ _ rfl rfl).bg (fun a=>by simp);split at h
  ·rename_i e hu
   split at h
   ·simp only[oi,pj]at h;obtain⟨rfl,rfl⟩:=h
    obtain⟨rfl,rfl,rfl⟩:=hs.fH;exact dO.still hR (c:=undef) (by simp[Builtin.clear_,aK hu,undef]) (.dc _ _ (VG.of_flat rfl))
   ·rename_i a
    cases hb:Nat.beq len 0 with
    |true=>
     rw[hb]at h;simp only[cond_true,oi,pj]at h;obtain⟨rfl,rfl⟩:=h;have:=Nat.eq_of_beq_eq_true hb;subst this;obtain⟨a',c',rfl,_⟩:=hs.iH;exact dO.still hR (c:=undef) (by cases a'<;>simp[Builtin.clear_,aK hu,undef]) (.dc _ _ (VG.of_flat rfl))
    |false=>
     rw[hb]at h;simp only[cond_false]at h;have ff:=Nat.ne_of_beq_eq_false hb;split at h
     ·rename_i z hz
      split at h
      ·rename_i h' hw
       simp only[oi,pj]at h;obtain⟨rfl,rfl⟩:=h;obtain⟨jM,L,c',hL,rfl,_⟩:=hs.pU (iY hw).1;obtain⟨w',e1,e2,e3,_⟩:=hR.write (P:=P) (a:=a) (L:=L) (by simp[dS.at,jM,hL]) (iY hw).2 (lS (lQ (fX hz).1) len);refine⟨undef,w',J,?_,e2,fun _ _ h=>h,.dc _ _ (VG.of_flat rfl),e3,.refl _ _,.refl _ _⟩;have hzc:(Builtin.zeroCells z.cells len).toList=bF z.cells.toList len:=jT z.cells len;obtain⟨m,rfl⟩:∃m,len=m+1:=⟨len-1,om⟩;simp only[Builtin.clear_,List.getElem?_toArray,List.getElem?_cons_zero,Sem.run_bind,aK hu,Result.andThen_ok,gC hz,hzc,e1,Sem.run_pure,undef]
      ·cases h
     ·cases h
  ·cases h
 ·cases h
theorem Gl(hR:HR J s w){t:TypeId}{a:Addr}{L:Loc}(hL:J.at a=some L){v cv:Value}{s':St}(h:mT P s t a v=some s')(hv:VR J v cv) :
  ∃w',(storeVar t ⟨L.b,L.o+a.off,none⟩ cv).run P w=.ok () w'/\Good J s w J s' w'/\s'.env=s.env:=by
 unfold mT at h;split at h
 ·rename_i n hn
  cases hb:Nat.beq v.cells.toList.length n with
  |false=>rw[hb]at h;simp at h
  |true=>
   rw[hb]at h;simp only[cond_true]at h;have hlen:=Nat.eq_of_beq_eq_true hb;have fD:v.cells.toList.all aE=true:=by
    unfold St.write at h;cases ho:v.cells.toList.all aE with
    |true=>rfl
    |false=>rw[ho]at h;simp at h
   have S0:=hv.cells fD;obtain⟨w',e1,e2,e3,_⟩:=hR.write (P:=P) hL h S0;refine⟨w',?_,e2,e3⟩;have uT:cv.cells.size=n:=by have:=S0.1;simp at this hlen;omega
   simp only[storeVar,Sem.run_bind,ct hn,Result.andThen_ok];rw[Sem.run_ite,if_neg (by simp[uT])];simpa using e1
 ·cases h
def pF(J:dS)(s:St)(a:Act)(l:List Operand):Prop:=∀x v,x∈l->bK s x=some v->VR J v (a.eval x)
theorem ER.ev{a:Act}(h:ER J s a)(l:List Operand):pF J s a l:=fun _ _ _ hx=>h.eval hx
theorem pF.tail{a:Act}{x:Operand}{l:List Operand}(h:pF J s a (x :: l)):pF J s a l:=fun y v hy hv=>h y v (List.mem_cons_of_mem _ hy) hv
theorem pF.sub{a:Act}{l l':List Operand}(h:pF J s a l)(hl:∀x∈l',x∈l):pF J s a l':=fun y v hy hv=>h y v (hl y hy) hv
theorem jU{a:Act}:∀(l:List Operand) (_:pF J s a l) (vs:List Value),gX s l=some vs->vs.length=(l.map a.eval).length/\∀(i:Nat) (x y:Value),vs[i]?=some x->(l.map a.eval)[i]?=some y->VR J x y
 | [],_,vs,h=>by simp only[gX,oi]at h;subst h;exact⟨rfl,fun i x y h=>by simp at h⟩
 |o :: l,hE,vs,h=>by
  simp only[gX]at h;split at h
  ·rename_i v hv
   split at h
   ·rename_i r hr
    simp only[oi]at h;subst h;obtain⟨h1,h2⟩:=jU l hE.tail r hr;refine⟨by simp at h1 ⊢;exact h1,fun i x y hx hy=>?_⟩;cases i with
    |zero=>simp at hx hy;subst hx;subst hy;exact hE _ _ (by simp) hv
    |succ i=>simp only[List.getElem?_cons_succ,List.map_cons]at hx hy;exact h2 i x y hx hy
   ·cases h
  ·cases h
theorem mV{a:Act}:∀(l:List (Nat×Operand)) (_:pF J s a (l.map (·.2))) (vs:List (Nat×Value)),gA s l=some vs->tu J vs (l.map fun(i,x)=>(i,a.eval x))
 | [],_,vs,h=>by simp only[gA,oi]at h;subst h;exact⟨rfl,fun i x y h=>by simp at h⟩
 |(k,o) :: l,hE,vs,h=>by
  simp only[gA]at h;split at h
  ·rename_i v hv
   split at h
   ·rename_i r hr
    simp only[oi]at h;subst h;obtain⟨h1,h2⟩:=mV l (pF.tail hE) r hr;refine⟨by simp at h1 ⊢;exact h1,fun i x y hx hy=>?_⟩;cases i with
    |zero=>simp at hx hy;subst hx;subst hy;exact⟨rfl,hE _ _ (by simp) hv⟩
    |succ i=>simp only[List.getElem?_cons_succ,List.map_cons]at hx hy;exact h2 i x y hx hy
   ·cases h
  ·cases h
theorem p8{a:Act}{x:Option Operand}(hE:pF J s a x.toList){v:Option Value}(h:jo s x=some v):sd J v (x.map a.eval):=by
 cases x with
 |none=>simp only[jo,oi]at h;subst h;trivial
 |some x=>
  simp only[jo]at h;split at h
  ·rename_i u hu;simp only[oi]at h;subst h;exact hE _ _ (by simp) hu
  ·cases h
theorem wM{l:List Value}{c:List Value}(h:l.length=c.length/\∀(i:Nat) (x y:Value),l[i]?=some x->c[i]?=some y->VR J x y)(hn:l.all dD=true):fQ J.g l c:=
 ⟨h.1,fun i x y hx hy=>(h.2 i x y hx hy).pV (by simp only[List.all_eq_true]at hn;exact hn x (List.mem_of_getElem? hx))⟩
def DH(P:Program)(J:dS)(s:St)(w:World)(x:Sem Next)(v:Value)(s':St)(R Rl:Nat->Prop):Prop:=
 ∃n c w' J',x.run P w=.ok n w'/\(n=.value c\/(n=.skip/\c=undef))/\Good J s w J' s' w'/\(∀t L,J.l t=some L->J'.l t=some L)/\VR J' v c/\s'.env=s.env/\fP R J.g J'.g/\fP Rl J.l J'.l
theorem dO.op{x:Sem Value}{v:Value}{s':St}{R Rl:Nat->Prop}(h:dO P J s w x v s' R Rl):DH P J s w (x >>= fun u=>Pure.pure (Next.value u)) v s' R Rl:=by
 obtain⟨c,w',J',h1,h2,h3,h4,h5⟩:=h;exact⟨.value c,c,w',J',by simp[h1],.inl rfl,h2,h3,h4,h5⟩
theorem H6{a:Act}{mk:lJ}{loc:Bool}{o:Oper}{v:Value}{s':St}(hR:HR J s w)(hM:AV J s w mk)(hE:pF J s a o.op.operands.toList)(hK:∀{loc:Bool} {es:Nat} {cells:List Value} {r:Value×St},mk loc es cells=some r->cells.all aE=true)(h:gF P mk loc o.op s=some (v,s')):DH P J s w (execOp a.eval o) v s' (fun k=>(Dn o.op loc=true/\HS mk k)\/(HP o.op=true/\s.h.next<=k)) (fun t=>Dp o.op loc=true/\Lx mk t):=by
 unfold gF at h;unfold execOp;have ev:∀{x:Operand} {v:Value},bK s x=some v->x∈o.op.operands.toList->VR J v (a.eval x):=fun h1 h2=>hE _ _ h2 h1
 split at h
 ·
  rename_i x ho;simp only[ho];split at h
  ·rename_i u hu
   simp only[oi,pj]at h;obtain⟨rfl,rfl⟩:=h;exact⟨.value (a.eval x),a.eval x,w,J,by simp,.inl rfl,.refl hR,fun _ _ h=>h,ev hu (by simp[ho,Op.operands]),rfl,.refl _ _,.refl _ _⟩
  ·cases h
 ·
  rename_i x ho;simp only[ho];split at h
  ·rename_i u hu
   simp only[oi,pj]at h;obtain⟨rfl,rfl⟩:=h;exact⟨.value (a.eval x),a.eval x,w,J,by simp,.inl rfl,.refl hR,fun _ _ h=>h,ev hu (by simp[ho,Op.operands]),rfl,.refl _ _,.refl _ _⟩
  ·cases h
 ·
  rename_i c x y ho;simp only[ho];split at h
  ·rename_i hc
   have Wb:=((ev hc (by simp[ho,Op.operands])).bg (fun a=>by simp)).bool;split at h
   ·rename_i u hu
    simp only[oi,pj]at h;obtain⟨rfl,rfl⟩:=h;exact⟨.value (a.eval x),a.eval x,w,J,by simp[asBool,Wb],.inl rfl,.refl hR,fun _ _ h=>h,ev hu (by simp[ho,Op.operands]),rfl,.refl _ _,.refl _ _⟩
   ·cases h
  ·rename_i hc
   have Wb:=((ev hc (by simp[ho,Op.operands])).bg (fun a=>by simp)).bool;split at h
   ·rename_i u hu
    simp only[oi,pj]at h;obtain⟨rfl,rfl⟩:=h;exact⟨.value (a.eval y),a.eval y,w,J,by simp[asBool,Wb],.inl rfl,.refl hR,fun _ _ h=>h,ev hu (by simp[ho,Op.operands]),rfl,.refl _ _,.refl _ _⟩
   ·cases h
  ·cases h
 ·
  rename_i e ho;simp only[ho];split at h
  ·rename_i z n hz hn
   obtain⟨Jv,_⟩:=fX hz;obtain⟨J',g1,g2,g3,g4,_,ga,gb⟩:=hM _ _ _ _ _ _ e h (CR.BK (lQ Jv));refine dO.op ⟨_,_,J',?_,g1,g2,g3,g4,ga.mono (fun _ q=>.inl ⟨by simp[Dn,q.1],q.2⟩),gb.mono (fun _ q=>⟨by simp[Dp,q.1],q.2⟩)⟩;simp only[Instr.alloc,Sem.run_bind,gC hz,Result.andThen_ok,newVar,newRow,run_newObj,Sem.run_pure];simp[World.alloc_eq]
  ·cases h
 ·
  rename_i e x ho;simp only[ho];split at h
  ·rename_i u n hu hn
   have fD:u.cells.toList.all aE=true:=hK h;have BL:=CR.BK ((ev hu (by simp[ho,Op.operands])).cells fD);obtain⟨J',g1,g2,g3,g4,_,ga,gb⟩:=hM _ _ _ _ _ _ e h BL;refine dO.op ⟨_,_,J',?_,g1,g2,g3,g4,ga.mono (fun _ q=>.inl ⟨by simp[Dn,q.1],q.2⟩),gb.mono (fun _ q=>⟨by simp[Dp,q.1],q.2⟩)⟩;simp only[Instr.box,Sem.run_bind,Result.andThen_ok,newVar,newRow,run_newObj,Sem.run_pure];simp[World.alloc_eq]
  ·cases h
 ·
  rename_i t parts ho;simp only[ho];split at h
  ·rename_i l hl
   split at h
   ·rename_i u hu
    simp only[oi,pj]at h;obtain⟨rfl,rfl⟩:=h;obtain⟨c,e1,e2⟩:=Gg (P:=P) (w:=w) (cparts:=parts.map fun(i,x)=>(i,a.eval x)) hu (by have:=mV parts.toList (hE.sub (by simp[ho,Op.operands])) _ hl;simpa using this);exact dO.op (dO.still hR e1 (.dc _ _ e2))
   ·cases h
  ·cases h
 ·
  rename_i t len parts ho;simp only[ho];split at h
  ·rename_i l hl
   obtain⟨c,w',J',e1,e2,e3,e4,e5,ea,eb⟩:=wv (P:=P) hM (cparts:=parts.map fun(i,x)=>(i,a.eval x)) h (by have:=mV parts.toList (hE.sub (by simp[ho,Op.operands])) _ hl;simpa using this);exact dO.op ⟨c,w',J',e1,e2,e3,.dc _ _ e4,e5,ea.mono (fun _ q=>.inl ⟨rfl,q⟩),eb.mono (fun _ q=>q.elim)⟩
  ·cases h
 ·
  rename_i t x ho;simp only[ho];split at h
  ·rename_i ad hu
   split at h
   ·rename_i u hv
    simp only[oi,pj]at h;obtain⟨rfl,rfl⟩:=h;obtain⟨L,hL,hc⟩:=(ev hu (by simp[ho,Op.operands])).pT;obtain⟨c,e1,e2⟩:=AU (P:=P) hR hL hv;exact dO.op (dO.still hR (c:=c) (by simp[Instr.loadAt,hc,Instr.sureAddr,e1]) (.dc _ _ e2))
   ·cases h
  ·cases h
 ·
  rename_i t x y ho;simp only[ho];split at h
  ·rename_i ad u hx hu
   split at h
   ·rename_i s2 pY
    simp only[oi,pj]at h;obtain⟨rfl,rfl⟩:=h;obtain⟨L,hL,hc⟩:=(ev hx (by simp[ho,Op.operands])).pT;obtain⟨w',e1,e2,e3⟩:=Gl (P:=P) hR hL pY (ev hu (by simp[ho,Op.operands]));exact⟨.skip,undef,w',J,by simp[Instr.storeAt,hc,Instr.sureAddr,e1],.inr ⟨rfl,rfl⟩,e2,fun _ _ h=>h,.dc _ _ (VG.of_flat rfl),e3,.refl _ _,.refl _ _⟩
   ·cases h
  ·cases h
 ·
  rename_i x ho;simp only[ho];split at h
  ·rename_i ad hu
   simp only[oi,pj]at h;obtain⟨rfl,rfl⟩:=h;have hv:=ev hu (by simp[ho,Op.operands]);obtain⟨L,hL,hc⟩:=hv.pT;exact⟨.value (a.eval x),a.eval x,w,J,by simp[hc],.inl rfl,.refl hR,fun _ _ h=>h,hv,rfl,.refl _ _,.refl _ _⟩
  ·rename_i f first cap hu
   simp only[oi,pj]at h;obtain⟨rfl,rfl⟩:=h;have hv:=ev hu (by simp[ho,Op.operands]);obtain⟨x',y',hc,_,_⟩:=(hv.bg (fun a=>by simp)).Lp;exact⟨.value (a.eval x),a.eval x,w,J,by simp[hc],.inl rfl,.refl hR,fun _ _ h=>h,hv,rfl,.refl _ _,.refl _ _⟩
  ·cases h
 ·
  rename_i op t x y yt ho;simp only[ho];split at h
  ·rename_i u1 u2 h1 h2
   split at h
   ·rename_i u hu
    simp only[oi,pj]at h;obtain⟨rfl,rfl⟩:=h;obtain⟨e1,e2⟩:=LG (P:=P) (w:=w) (X:=x) (Y:=y) hu (ev h1 (by simp[ho,Op.operands])) (ev h2 (by simp[ho,Op.operands]));exact dO.op (dO.still hR e1 (.dc _ _ (.flat _ e2)))
   ·cases h
  ·cases h
 ·
  rename_i op t x ho;simp only[ho];split at h
  ·rename_i u1 h1
   split at h
   ·rename_i u hu
    simp only[oi,pj]at h;obtain⟨rfl,rfl⟩:=h;obtain⟨e1,e2⟩:=PA (P:=P) (w:=w) hu (ev h1 (by simp[ho,Op.operands]));exact dO.op (dO.still hR e1 (.dc _ _ (.flat _ e2)))
   ·cases h
  ·cases h
 ·
  rename_i src dst x ho;simp only[ho];split at h
  ·rename_i a n c h1
   split at h
   ·rename_i u hu
    simp only[oi,pj]at h;obtain⟨rfl,rfl⟩:=h;obtain⟨e1,e2⟩:=JD (P:=P) hR hu (ev h1 (by simp[ho,Op.operands]));exact dO.op (dO.still hR e1 (.dc _ _ (.flat _ e2)))
   ·cases h
  ·rename_i u1 _ h1
   split at h
   ·rename_i u hu
    simp only[oi,pj]at h;obtain⟨rfl,rfl⟩:=h;obtain⟨e1,e2⟩:=Jq (P:=P) (w:=w) hu (ev h1 (by simp[ho,Op.operands]));exact dO.op (dO.still hR e1 (.dc _ _ (.flat _ e2)))
   ·cases h
  ·cases h
 ·
  rename_i fn first cap ho
  simp only[ho];split at h
  ·rename_i f l r h1 h2
   cases hb:(l.all dD && r.all dD)with
   |false=>rw[hb]at h;simp at h
   |true=>
    rw[hb]at h;simp only[cond_true,oi,pj]at h;obtain⟨rfl,rfl⟩:=h;simp only[Bool.and_eq_true]at hb;have g1:=wM (jU first.toList (hE.sub (by simp[ho,Op.operands];grind)) _ h1) hb.1;have g2:=wM (jU cap.toList (hE.sub (by simp[ho,Op.operands];grind)) _ h2) hb.2;refine dO.op (dO.still hR (c:=.func (.func f) (first.map a.eval) (cap.map a.eval)) (by simp[Instr.makeFunc]) (.dc _ _ ?_));exact .func _ _ _ _ _ (by simpa using g1.1) (by simpa using g2.1) (fun i u v hu hv=>g1.2 i u v (by simpa using hu) (by simpa using hv)) (fun i u v hu hv=>g2.2 i u v (by simpa using hu) (by simpa using hv))
  ·cases h
 ·
  rename_i t l c ho;simp only[ho];split at h
  ·rename_i u1 u2 h1 h2
   obtain⟨r,w',J',e1,e2,e3,e4,e5,ea,eb⟩:=yi (P:=P) hM h (ev h1 (by simp[ho,Op.operands])) (ev h2 (by simp[ho,Op.operands]));exact dO.op ⟨r,w',J',e1,e2,e3,.dc _ _ e4,e5,ea.mono (fun _ q=>.inl ⟨rfl,q⟩),eb.mono (fun _ q=>q.elim)⟩
  ·cases h
 ·
  rename_i t x lo hi mx ho;simp only[ho];split at h
  ·rename_i u b1 b2 b3 h1 h2 h3 h4
   split at h
   ·rename_i r hr
    simp only[oi,pj]at h;obtain⟨rfl,rfl⟩:=h;obtain⟨c,e1,e2⟩:=Ge (P:=P) (w:=w) hr (ev h1 (by simp[ho,Op.operands])) (p8 (hE.sub (by simp[ho,Op.operands];grind)) h2) (p8 (hE.sub (by simp[ho,Op.operands];grind)) h3) (p8 (hE.sub (by simp[ho,Op.operands];grind)) h4);exact dO.op (dO.still hR e1 (.dc _ _ e2))
   ·cases h
  ·cases h
 ·
  rename_i t x f ho;simp only[ho];split at h
  ·rename_i u h1
   split at h
   ·rename_i r hr
    simp only[oi,pj]at h;obtain⟨rfl,rfl⟩:=h;obtain⟨c,e1,e2⟩:=xW (P:=P) (w:=w) hr (ev h1 (by simp[ho,Op.operands]));exact dO.op (dO.still hR e1 e2)
   ·cases h
  ·cases h
 ·
  rename_i t x f ho;simp only[ho];split at h
  ·rename_i u h1
   split at h
   ·rename_i r hr
    simp only[oi,pj]at h;obtain⟨rfl,rfl⟩:=h;obtain⟨c,e1,e2⟩:=F9 (P:=P) (w:=w) hr (ev h1 (by simp[ho,Op.operands]));exact dO.op (dO.still hR e1 (.dc _ _ e2))
   ·cases h
  ·cases h
 ·
  rename_i t x i ho;simp only[ho];split at h
  ·rename_i u1 u2 h1 h2
   split at h
   ·rename_i r hr
    simp only[oi,pj]at h;obtain⟨rfl,rfl⟩:=h;obtain⟨c,e1,e2⟩:=xZ (P:=P) (w:=w) hr (ev h1 (by simp[ho,Op.operands])) (ev h2 (by simp[ho,Op.operands]));exact dO.op (dO.still hR e1 e2)
   ·cases h
  ·cases h
 ·
  rename_i t x i ho;simp only[ho];split at h
  ·rename_i u1 u2 h1 h2
   split at h
   ·rename_i r hr
    simp only[oi,pj]at h;obtain⟨rfl,rfl⟩:=h;obtain⟨c,e1,e2⟩:=Ga (P:=P) (w:=w) hr (ev h1 (by simp[ho,Op.operands])) (ev h2 (by simp[ho,Op.operands]));exact dO.op (dO.still hR e1 (.dc _ _ e2))
   ·cases h
  ·cases h
 ·
  rename_i x i ho;simp only[ho];split at h
  ·rename_i vs h1
   split at h
   ·rename_i r hr
    simp only[oi,pj]at h;obtain⟨rfl,rfl⟩:=h;obtain⟨ys,hc,hy⟩:=((ev h1 (by simp[ho,Op.operands])).bg (fun a=>by simp)).Ln;have fg:i<ys.toList.length:=by rw[<-hy.1];exact(List.getElem?_eq_some_iff.1 hr).1
    have hx:ys[i]?=some (ys.toList[i]):=by simp at fg ⊢
    exact dO.op (dO.still hR (c:=ys.toList[i]) (by simp[Instr.extract,hc,hx]) (.dc _ _ (hy.2 i r _ hr (by simp at fg ⊢))))
   ·cases h
  ·cases h
 ·
  rename_i b args argTypes ho;simp only[ho,resolve];split at h
  ·rename_i l hl
   have iZ:=jU args.toList (hE.sub (by simp[ho,Op.operands,Call.operands])) _ hl;have Gm:args.map a.eval=(args.toList.map a.eval).toArray:=by apply Array.ext';simp
   split at h
   ·rename_i x
    split at h
    ·rename_i t ht
     split at h
     ·rename_i u hu
      simp only[oi,pj]at h;obtain⟨rfl,rfl⟩:=h;obtain⟨c0,uM⟩:∃c0,args.toList.map a.eval=[c0]:=by
       have:=iZ.1
       match hm:args.toList.map a.eval,this with
       | [c0],_=>exact⟨c0,rfl⟩
      have hx:=iZ.2 0 x c0 rfl (by rw[uM];rfl);obtain⟨e1,e2⟩:=Lz (P:=P) (w:=w) (ty:=o.type) hu hx;have hat:argTypes=#[t]:=by apply Array.ext';simpa using ht
      refine⟨.value u,u,w,J,?_,.inl rfl,.refl hR,fun _ _ h=>h,.dc _ _ (.flat _ e2),rfl,.refl _ _,.refl _ _⟩;simp[invoke,builtin,Gm,uM,hat,e1]
     ·cases h
    ·cases h
   ·rename_i x
    split at h
    ·rename_i t ht
     split at h
     ·rename_i u hu
      simp only[oi,pj]at h;obtain⟨rfl,rfl⟩:=h;obtain⟨c0,uM⟩:∃c0,args.toList.map a.eval=[c0]:=by
       have:=iZ.1
       match hm:args.toList.map a.eval,this with
       | [c0],_=>exact⟨c0,rfl⟩
      have hx:=iZ.2 0 x c0 rfl (by rw[uM];rfl);obtain⟨e1,e2⟩:=LA (P:=P) (w:=w) (ty:=o.type) hu hx;have hat:argTypes=#[t]:=by apply Array.ext';simpa using ht
      refine⟨.value u,u,w,J,?_,.inl rfl,.refl hR,fun _ _ h=>h,.dc _ _ (.flat _ e2),rfl,.refl _ _,.refl _ _⟩;simp[invoke,builtin,Gm,uM,hat,e1]
     ·cases h
    ·cases h
   ·rename_i x r
    split at h
    ·rename_i u hu
     simp only[oi,pj]at h;obtain⟨rfl,rfl⟩:=h;obtain⟨c0,cr,uM⟩:∃c0 cr,args.toList.map a.eval=c0 :: cr:=by
      have:=iZ.1
      match hm:args.toList.map a.eval,this with
      |c0 :: cr,_=>exact⟨c0,cr,rfl⟩
     rw[uM]at iZ;obtain⟨c,e1,e2⟩:=uV (P:=P) (w:=w) (F:=Builtin.max2) (fun x y v h=>(Jr h).1) (fun x y v h=>Gb h) r cr x c0 u hu (iZ.2 0 x c0 rfl rfl) ⟨by have:=iZ.1;simpa using this,fun i p q hp hq=>iZ.2 (i+1) p q (by simpa using hp) (by simpa using hq)⟩;refine⟨.value c,c,w,J,?_,.inl rfl,.refl hR,fun _ _ h=>h,e2,rfl,.refl _ _,.refl _ _⟩;simp[invoke,builtin,Gm,uM,Builtin.max_,e1]
    ·cases h
   ·rename_i x r
    split at h
    ·rename_i u hu
     simp only[oi,pj]at h;obtain⟨rfl,rfl⟩:=h;obtain⟨c0,cr,uM⟩:∃c0 cr,args.toList.map a.eval=c0 :: cr:=by
      have:=iZ.1
      match hm:args.toList.map a.eval,this with
      |c0 :: cr,_=>exact⟨c0,cr,rfl⟩
     rw[uM]at iZ;obtain⟨c,e1,e2⟩:=uV (P:=P) (w:=w) (F:=Builtin.min2) (fun x y v h=>(Js h).1) (fun x y v h=>Gc h) r cr x c0 u hu (iZ.2 0 x c0 rfl rfl) ⟨by have:=iZ.1;simpa using this,fun i p q hp hq=>iZ.2 (i+1) p q (by simpa using hp) (by simpa using hq)⟩;refine⟨.value c,c,w,J,?_,.inl rfl,.refl hR,fun _ _ h=>h,e2,rfl,.refl _ _,.refl _ _⟩;simp[invoke,builtin,Gm,uM,Builtin.min_,e1]
    ·cases h
   ·obtain⟨c,w',J',e1,e2,e3,e4,e5,ea,eb⟩:=DE (P:=P) hR (ty:=o.type) h iZ
    refine⟨.value c,c,w',J',?_,.inl rfl,e2,e3,e4,e5,ea.mono (fun _ q=>.inr ⟨rfl,q⟩),eb.mono (fun _ q=>q.elim)⟩;simp[invoke,builtin,Gm]at e1 ⊢;rw[e1];rfl
   ·obtain⟨c,w',J',e1,e2,e3,e4,e5,ea,eb⟩:=JB (P:=P) hR (ty:=o.type) h iZ
    refine⟨.value c,c,w',J',?_,.inl rfl,e2,e3,e4,e5,ea.mono (fun _ q=>.inr ⟨rfl,q⟩),eb.mono (fun _ q=>q.elim)⟩;simp[invoke,builtin,Gm]at e1 ⊢;rw[e1];rfl
   ·obtain⟨c,w',J',e1,e2,e3,e4,e5,ea,eb⟩:=Gk (P:=P) hR (ty:=o.type) h iZ
    refine⟨.value c,c,w',J',?_,.inl rfl,e2,e3,e4,e5,ea.mono (fun _ q=>.inr ⟨rfl,q⟩),eb.mono (fun _ q=>q.elim)⟩;simp[invoke,builtin,Gm]at e1 ⊢;rw[e1];rfl
   ·cases h
  ·cases h
 ·
  rename_i t ho;simp only[ho];obtain⟨h',h1,rfl⟩:=bm h;simp only[oi,pj]at h1;obtain⟨rfl,rfl⟩:=h1;obtain⟨J',e1,e2,e3,e4⟩:=hR.gW (b:=.map []) (o:=.map #[] 0) (by simp) (fun g' _=>⟨#[],0,rfl,rfl,fun i e c h=>by simp at h⟩);exact dO.op ⟨.map (some w.heap.size),w.alloc (.map #[] 0),J',by simp[Instr.makeMap],e1,fun t L h=>by rw[e2];exact h,.dc _ _ (.xT _ _ e3),rfl,e4.mono (fun _ q=>.inr ⟨rfl,q⟩),by rw[e2];exact .refl _ _⟩
 ·
  rename_i t x i ok ho;simp only[ho];split at h
  ·rename_i u1 u2 h1 h2
   obtain⟨c,w',J',e1,e2,e3,e4,e5,ea,eb⟩:=DG (P:=P) hR h (ev h1 (by simp[ho,Op.operands])) (ev h2 (by simp[ho,Op.operands]));exact dO.op ⟨c,w',J',e1,e2,e3,e4,e5,ea.mono (fun _ q=>.inr ⟨rfl,q⟩),eb.mono (fun _ q=>q.elim)⟩
  ·cases h
 ·
  rename_i t m k x ho;simp only[ho];split at h
  ·rename_i u1 u2 u3 h1 h2 h3
   obtain⟨w',e1,e2,rfl,e3⟩:=vH (P:=P) hR h (ev h1 (by simp[ho,Op.operands])) (ev h2 (by simp[ho,Op.operands])) (ev h3 (by simp[ho,Op.operands]));exact⟨.skip,undef,w',J,by simp[e1],.inr ⟨rfl,rfl⟩,e2,fun _ _ h=>h,.dc _ _ (VG.of_flat rfl),e3,.refl _ _,.refl _ _⟩
  ·cases h
 ·
  rename_i t m k x ho;simp only[ho];split at h
  ·rename_i u1 u2 u3 h1 h2 h3
   obtain⟨w',e1,e2,rfl,e3⟩:=vH (P:=P) hR h (ev h1 (by simp[ho,Op.operands])) (ev h2 (by simp[ho,Op.operands])) (ev h3 (by simp[ho,Op.operands]));exact⟨.skip,undef,w',J,by simp[e1],.inr ⟨rfl,rfl⟩,e2,fun _ _ h=>h,.dc _ _ (VG.of_flat rfl),e3,.refl _ _,.refl _ _⟩
  ·cases h
 ·cases h
