import Derived.Test.YtogliemiljhliaaSymGr
import Derived.Test.YtogliemiljhliaaSortH
set_option linter.unusedSimpArgs false
set_option linter.unusedVariables false
namespace Go.Proofs.Ytogliemiljhliaa
open Go.Sim
set_option maxRecDepth 100000
def lst{α:Type}(f:Nat->α)(n:Nat):List α:=(List.range n).map f
theorem lst_len{α:Type}(f:Nat->α)(n:Nat):(lst f n).length=n:=by unfold lst;simp
theorem lst_at{α:Type}(f:Nat->α){n i:Nat}(h:i<n):(lst f n)[i]?=some (f i):=by unfold lst;simp[h]
theorem lst_gt{α:Type}[Inhabited α](f:Nat->α){n i:Nat}(h:i<n):gt (lst f n) (i:Int)=f i:=by
 unfold gt;rw[List.getD_eq_getElem?_getD,show((i:Int)).toNat=i from rfl,lst_at f h];rfl
theorem lst_gtI{α:Type}[Inhabited α](f:Nat->α){n:Nat}{i:Int}(h0:0<=i)(h:i<n):gt (lst f n) i=f i.toNat:=by
 obtain⟨k,rfl⟩:∃k:Nat,i=k:=⟨i.toNat,by omega⟩;exact lst_gt f (by omega)
theorem lst_set{α:Type}(f:Nat->α)(n i:Nat)(v:α):(lst f n).set i v=lst (fun j=>if j=i then v else f j) n:=by
 apply List.ext_getElem?;intro j;rw[List.getElem?_set,lst_len];by_cases c:j<n
 ·rw[lst_at _ c,lst_at _ c]
  by_cases e:i=j
  ·subst e;simp[c]
  ·rw[if_neg e,if_neg (fun q=>e q.symm)]
 ·have e1:(lst f n)[j]?=none:=List.getElem?_eq_none (by rw[lst_len];omega)
  have e2:(lst (fun j=>if j=i then v else f j) n)[j]?=none:=List.getElem?_eq_none (by rw[lst_len];omega);rw[e1,e2];split
  ·rw[if_neg (by omega)]
  ·rfl
theorem lst_congr{α:Type}{f g:Nat->α}{n:Nat}(h:∀i,i<n->f i=g i):lst f n=lst g n:=by
 unfold lst;exact List.map_congr_left (fun i hi=>h i (List.mem_range.1 hi))
theorem lst_succ{α:Type}(f:Nat->α)(n:Nat):lst f (n+1)=lst f n++[f n]:=by
 unfold lst;rw[List.range_succ,List.map_append];rfl
theorem gt_lst{α:Type}[Inhabited α](l:List α):l=lst (fun i=>gt l (i:Int)) l.length:=by
 apply List.ext_getElem?;intro j;by_cases c:j<l.length
 ·rw[lst_at _ c,List.getElem?_eq_getElem c]
  unfold gt;rw[List.getD_eq_getElem?_getD,show((j:Int)).toNat=j from rfl,List.getElem?_eq_getElem c];rfl
 ·rw[List.getElem?_eq_none (by omega),List.getElem?_eq_none (by rw[lst_len];omega)]
def swN(a b i:Nat):Nat:=if i=a then b else if i=b then a else i
structure MatW{α:Type}[Inhabited α](enc:α->List Value)(es cp:Nat)(h0 h:AHeap)(oa:Nat)(bs:Nat->Nat)(m w:Nat)(f:Nat->Nat->α):Prop where
 ext:Ext h0 h
 hd:Own h oa 1 ((lst (fun y=>(⟨some ⟨bs y,0,none⟩,w,cp⟩:Hd)) m).flatMap Hd.cells)
 row:∀y,y<m->Own h (bs y) es ((lst (f y) w).flatMap enc)
 oldo:h0.next<=oa
 lto:oa<h.next
 oldr:∀y,y<m->h0.next<=bs y
 ltr:∀y,y<m->bs y<h.next
 inj:∀y z,y<m->z<m->bs y=bs z->y=z
 out:∀y,y<m->bs y≠oa
 each:∀x,(enc x).length=es
 pos:0<es
section
variable{α:Type}[Inhabited α]{enc:α->List Value}{es cp:Nat}{h0 h:AHeap}{oa:Nat}{bs:Nat->Nat}{m w:Nat}{f:Nat->Nat->α}
theorem MatW.more{h':AHeap}(t:MatW enc es cp h0 h oa bs m w f)(e:Ext h h'):MatW enc es cp h0 h' oa bs m w f:=
 ⟨t.ext.trans e,t.hd.ext e t.lto,fun y hy=>(t.row y hy).ext e (t.ltr y hy),t.oldo,Nat.lt_of_lt_of_le t.lto e.next,t.oldr,fun y hy=>Nat.lt_of_lt_of_le (t.ltr y hy) e.next,t.inj,t.out,t.each,t.pos⟩
theorem MatW.keep{h':AHeap}(t:MatW enc es cp h0 h oa bs m w f)(e:Ext h0 h')(hn:h.next<=h'.next)(ho:h'.m.get oa=h.m.get oa)(hk:∀y,y<m->h'.m.get (bs y)=h.m.get (bs y)):MatW enc es cp h0 h' oa bs m w f:=
 ⟨e,t.hd.of_get ho,fun y hy=>(t.row y hy).of_get (hk y hy),t.oldo,Nat.lt_of_lt_of_le t.lto hn,t.oldr,fun y hy=>Nat.lt_of_lt_of_le (t.ltr y hy) hn,t.inj,t.out,t.each,t.pos⟩
theorem MatW.congr{g:Nat->Nat->α}(t:MatW enc es cp h0 h oa bs m w f)(e:∀y x,y<m->x<w->f y x=g y x):MatW enc es cp h0 h oa bs m w g:=
 ⟨t.ext,t.hd,fun y hy=>by rw[<-lst_congr (fun x hx=>e y x hy hx)];exact t.row y hy,t.oldo,t.lto,t.oldr,t.ltr,t.inj,t.out,t.each,t.pos⟩
theorem MatW.hdR(t:MatW enc es cp h0 h oa bs m w f):Rows Hd.cells 1 h (some ⟨oa,0,none⟩) m (lst (fun y=>(⟨some ⟨bs y,0,none⟩,w,cp⟩:Hd)) m):=by
 have r:=Own.rows t.hd hd_len (by omega) t.lto;rw[lst_len]at r;exact r
theorem MatW.rowR(t:MatW enc es cp h0 h oa bs m w f){y:Nat}(hy:y<m):Rows enc es h (some ⟨bs y,0,none⟩) w (lst (f y) w):=by
 have r:=Own.rows (t.row y hy) t.each t.pos (t.ltr y hy);rw[lst_len]at r;exact r
theorem MatW.head(t:MatW enc es cp h0 h oa bs m w f){y:Nat}(hy:y<m):h.readG ⟨oa,0+y*1,none⟩ 1=some [.slice (some ⟨bs y,0,none⟩) w cp]:=by
 obtain⟨b,o,e,_,r⟩:=t.hdR.at (i:=(y:Int)) (by omega) (by omega);cases e;have:=r 0 1 (by omega) (by omega);rw[lst_gt _ hy]at this;exact this
theorem MatW.el(t:MatW enc es cp h0 h oa bs m w f){y x:Nat}(hy:y<m)(hx:x<w):h.readG ⟨bs y,0+x*es,none⟩ es=some (enc (f y x)):=by
 obtain⟨b,o,e,_,r⟩:=(t.rowR hy).at (i:=(x:Int)) (by omega) (by omega);cases e;have:=r 0 es (by omega) t.pos;rw[lst_gt _ hx,List.drop_zero,List.take_of_length_le (by rw[t.each];omega)]at this;exact this
def upd(f:Nat->Nat->α)(y x:Nat)(v:α):Nat->Nat->α:=fun a b=>if a=y/\b=x then v else f a b
theorem MatW.set(t:MatW enc es cp h0 h oa bs m w f){y x:Nat}(hy:y<m)(hx:x<w)(v:α) :
  ∃h',h.write (bs y) (0+x*es) (enc v)=some h'/\MatW enc es cp h0 h' oa bs m w (upd f y x v)/\Wrote h h' (bs y):=by
 obtain⟨h',w1,w2,w3⟩:=Own.setRow (t.row y hy) t.each (i:=x) (by rw[lst_len];exact hx) v;refine⟨h',by rw[Nat.zero_add];exact w1,⟨w3.ext t.ext (t.oldr y hy),t.hd.of_get (w3.get _ (fun q=>t.out y hy q.symm)),fun z hz=>?_,t.oldo,by rw[w3.next];exact t.lto,t.oldr,fun z hz=>by rw[w3.next];exact t.ltr z hz,t.inj,t.out,t.each,t.pos⟩,w3⟩;by_cases e:z=y
 ·subst e
  rw[lst_set]at w2;have:lst (upd f z x v z) w=lst (fun j=>if j=x then v else f z j) w:=lst_congr (fun i hi=>by unfold upd;simp);rw[this];exact w2
 ·have:lst (upd f y x v z) w=lst (f z) w:=lst_congr (fun i hi=>by unfold upd;rw[if_neg (fun q=>e q.1)])
  rw[this];exact(t.row z hz).of_get (w3.get _ (fun q=>e (t.inj z y hz hy q)))
theorem MatW.swap(t:MatW enc es cp h0 h oa bs m w f){a b:Nat}(ha:a<m)(hb:b<m) :
  ∃h1 h2,h.write oa (0+a*1) [.slice (some ⟨bs b,0,none⟩) w cp]=some h1/\h1.write oa (0+b*1) [.slice (some ⟨bs a,0,none⟩) w cp]=some h2/\MatW enc es cp h0 h2 oa (fun y=>bs (swN a b y)) m w (fun y=>f (swN a b y))/\h2.next=h.next/\∀c,c≠oa->h2.m.get c=h.m.get c:=by
 have key:=Own.setRow t.hd hd_len (i:=a) (by rw[lst_len];exact ha) (⟨some ⟨bs b,0,none⟩,w,cp⟩:Hd);obtain⟨h1,w1,w2,w3⟩:=key;rw[lst_set]at w2;obtain⟨h2,v1,v2,v3⟩:=Own.setRow w2 hd_len (i:=b) (by rw[lst_len];exact hb) (⟨some ⟨bs a,0,none⟩,w,cp⟩:Hd);rw[lst_set]at v2;have hsw:∀y,y<m->swN a b y<m:=fun y hy=>by unfold swN;split<;>(try split)<;>omega
 have hinj:∀y z,swN a b y=swN a b z->y=z:=fun y z=>by unfold swN;intro q;split at q<;>(try split at q)<;>(try split at q)<;>(try split at q)<;>omega
 have hg:∀y,y<m->h2.m.get (bs y)=h.m.get (bs y):=fun y hy=>by rw[v3.get _ (t.out y hy),w3.get _ (t.out y hy)]
 refine⟨h1,h2,by rw[Nat.zero_add];exact w1,by rw[Nat.zero_add];exact v1,⟨v3.ext (w3.ext t.ext t.oldo) t.oldo,?_,fun y hy=>(t.row _ (hsw y hy)).of_get (hg _ (hsw y hy)),t.oldo,by rw[v3.next,w3.next];exact t.lto,fun y hy=>t.oldr _ (hsw y hy),fun y hy=>by rw[v3.next,w3.next];exact t.ltr _ (hsw y hy),fun y z hy hz q=>hinj y z (t.inj _ _ (hsw y hy) (hsw z hz) q),fun y hy=>t.out _ (hsw y hy),t.each,t.pos⟩,by rw[v3.next,w3.next],fun c hc=>by rw[v3.get c hc,w3.get c hc]⟩;have:lst (fun j=>if j=b then(⟨some ⟨bs a,0,none⟩,w,cp⟩:Hd)else if j=a then⟨some ⟨bs b,0,none⟩,w,cp⟩else⟨some ⟨bs j,0,none⟩,w,cp⟩) m=lst (fun y=>(⟨some ⟨bs (swN a b y),0,none⟩,w,cp⟩:Hd)) m:=lst_congr (fun j hj=>by
  unfold swN;by_cases c:j=a
  ·by_cases d:j=b
   ·rw[if_pos d,if_pos c,<-c,d]
   ·rw[if_neg d,if_pos c,if_pos c]
  ·by_cases d:j=b
   ·rw[if_pos d,if_neg c,if_pos d]
   ·rw[if_neg d,if_neg c,if_neg c,if_neg d])
 rw[<-this];exact v2
theorem GrW.mat{bl:List Nat}{g:List (List α)}{b co:Nat}(t:GrW enc es cp h0 h bl g)(a:Apd h 1 (some ⟨b,0,none⟩) g.length co ((hds cp bl g).flatMap Hd.cells))(hb:h0.next<=b)(ho:b∉bl)(hw:∀y:Int,0<=y->y<g.length->(gt g y).length=w) :
  MatW enc es cp h0 h b (fun y=>bl.getD y 0) g.length w (fun y x=>gt (gt g (y:Int)) (x:Int)):=by
 have hl:=t.len;rcases a with ⟨q,_⟩|⟨b',q,_,hlt,hlen,hown⟩
 ·cases q
 cases q;have e:hds cp bl g=lst (fun y=>(⟨some ⟨bl.getD y 0,0,none⟩,w,cp⟩:Hd)) g.length:=by
  apply gt_ext
  ·rw[hds_len hl,lst_len]
  ·intro i i0 i1
   rw[hds_len hl]at i1;rw[hds_at hl i0 i1,lst_gtI _ i0 i1,hw i i0 i1]
 refine⟨t.ext,by rw[<-e];exact hown,fun y hy=>?_,hb,hlt,fun y hy=>t.oldr _ (bs_mem (by omega)),fun y hy=>t.ltr _ (bs_mem (by omega)),fun y z hy hz q=>nodup_getD t.dis (by omega) (by omega) q,fun y hy q=>ho (by rw[<-q];exact bs_mem (by omega)),t.each,t.pos⟩;have r:=t.row (y:Int) (by omega) (by omega);have e2:gt g (y:Int)=lst (fun x=>gt (gt g (y:Int)) (x:Int)) w:=by
  have:=gt_lst (gt g (y:Int));rw[hw _ (by omega) (by omega)]at this;exact this
 rw[<-e2];exact r
end
end Go.Proofs.Ytogliemiljhliaa
namespace Go.Proofs.Ytogliemiljhliaa
open Go.Sim
set_option maxRecDepth 100000
variable{F:Prims}{a0 head b0 c0 d0 e0 f0 g0 k0 m0 n0 p0 q0 r0 s0 nz t0 rd wr push next u0 v0 w0 x0 y0 z0 a1 b1 c1 d1 app f1 putAt fresh lowered k1 l1 m1 lt ne n1 p1 q1 yn r1 s1 t1 u1 bytes y1:_}(hA:AP F ⟨a0,head,b0,c0,d0,e0,f0,g0,k0,m0,n0,p0,q0,r0,s0,nz,t0,rd,wr,push,next,u0,v0,w0,x0,y0,z0,a1,b1,c1,d1,app,f1,putAt,fresh,lowered,k1,l1,m1,lt,ne,n1,p1,q1,yn,r1,s1,t1,u1,bytes,y1⟩)
include hA
theorem appIn_ok{t e es:Nat}(hT:SliceT Try.prog t e es){α:Type}[Inhabited α]{enc:α->List Value}(he:∀x,(enc x).length=es)(hp0:0<es)(hok:∀x,(enc x).all cellOK=true){h:AHeap}{b n c:Nat}{l:List α}{v:α}(ho:Own h b es (l.flatMap enc))(hl:l.length=c)(hb:b<h.next)(hn:n<c)(hc:c<=1000000){C:Option Addr->Nat->Nat->AHeap->Prop}
  (hC:∀h',Own h' b es ((l.set n v).flatMap enc)->Wrote (h.push es (enc v)) h' b->C (some ⟨b,0,none⟩) (n+1) c h') :
  app [t,t] [.slice (some ⟨b,0,none⟩) n c,.slice (some ⟨next h,0,none⟩) 1 1] (push h es (enc v)) C:=by
 rw[e_app hA,e_push hA,e_next hA];obtain⟨by_,hby,hby2⟩:=hT.bytes;obtain⟨z,hz,hz2⟩:=hT.zero;have oP:Own (h.push es (enc v)) b es (l.flatMap enc):=ho.ext (.push h es (enc v)) hb;have hr:(h.push es (enc v)).readG ⟨h.next,0,none⟩ (1*es)=some (enc v):=by
  rw[(Own.push h es (enc v)).readG (by rw[he];omega),List.drop_zero,List.take_of_length_le (by rw[he];omega)]
 have hnews:newsA Try.prog (h.push es (enc v)) e es false (.slice (some ⟨h.next,0,none⟩) 1 1)=some (1,enc v):=by
  unfold newsA;simp only[cond_false,hr]
 obtain⟨h',w1,w2,w3⟩:=Own.setRow oP he (i:=n) (by omega) v;have hcap:capLow c=c:=Nat.mod_eq_of_lt (by unfold slack;omega);refine⟨_,n+1,_,h',?_,hC h' w2 w3⟩;unfold appendH;simp only[hT.und,hT.size,hby,hz,isIntDesc,hnews];rw[hcap,ble_true (show n+1<=c by omega)];simp only[cond_true,AHeap.writeG,aadd,hok,Nat.zero_add,w1]
theorem appInD_ok{t e es:Nat}(hT:SliceT Try.prog t e es){α:Type}[Inhabited α]{enc:α->List Value}(he:∀x,(enc x).length=es)(hp0:0<es)(hok:∀x,(enc x).all cellOK=true){X:AHeap}{i b n c:Nat}{l:List α}{v:α}(ho:Own X b es (l.flatMap enc))(hl:l.length=c)(hb:b<X.next)(hi:i<X.next)(hne:i≠b)(hn:n<c)(hc:c<=1000000){C:Option Addr->Nat->Nat->AHeap->Prop}
  (hC:∀h',Own (lowered (putAt X i es (enc v)) h') b es ((l.set n v).flatMap enc)->(lowered (putAt X i es (enc v)) h').next=X.next->(∀j,j≠b->j≠i->(lowered (putAt X i es (enc v)) h').m.get j=X.m.get j)->(∀h0,Ext h0 X->h0.low<=h0.next->h0.next<=b->h0.next<=i->Ext h0 (lowered (putAt X i es (enc v)) h'))->C (some ⟨b,0,none⟩) (n+1) c h') :
  app [t,t] [.slice (some ⟨b,0,none⟩) n c,.slice (some ⟨i,0,none⟩) 1 1] (fresh (putAt X i es (enc v))) C:=by
 rw[e_putAt hA]at hC ⊢;simp only[e_lowered hA]at hC;rw[e_fresh hA,e_app hA];obtain⟨by_,hby,hby2⟩:=hT.bytes;obtain⟨z,hz,hz2⟩:=hT.zero;have g1:∀j,j≠i->(X.putAt i es (enc v)).m.get j=X.m.get j:=fun j hj=>by unfold AHeap.putAt;simp only[];rw[Tri.get_set_ne _ _ (fun q=>hj q.symm)]
 have o0:Own (X.putAt i es (enc v)).freshed b es (l.flatMap enc):=by unfold Own at ho ⊢;rw[<-ho];exact g1 b (fun q=>hne q.symm)
 have o1:Own (X.putAt i es (enc v)).freshed i es (enc v):=Own.putAt X i es (enc v);have hr:(X.putAt i es (enc v)).freshed.readG ⟨i,0,none⟩ (1*es)=some (enc v):=by
  rw[o1.readG (by rw[he];omega),List.drop_zero,List.take_of_length_le (by rw[he];omega)]
 have hnews:newsA Try.prog (X.putAt i es (enc v)).freshed e es false (.slice (some ⟨i,0,none⟩) 1 1)=some (1,enc v):=by
  unfold newsA;simp only[cond_false,hr]
 obtain⟨h',w1,w2,w3⟩:=Own.setRow o0 he (i:=n) (by omega) v;have hcap:capLow c=c:=Nat.mod_eq_of_lt (by unfold slack;omega);refine⟨_,n+1,_,h',?_,hC h' w2 w3.next (fun j h1 h2=>(w3.get j h1).trans (g1 j h2)) (fun h0 x l0 x1 x2=>?_)⟩
 ·unfold appendH
  simp only[hT.und,hT.size,hby,hz,isIntDesc,hnews];rw[hcap,ble_true (show n+1<=c by omega)];simp only[cond_true,AHeap.writeG,aadd,hok,Nat.zero_add,w1]
 ·have xP:Ext h0 (X.putAt i es (enc v)):=⟨x.next,x.low,x.lowG,fun j hj=>(g1 j (by omega)).trans (x.get j hj)⟩
  exact Ext.lower' (w3.ext (xP.trans (Ext.freshed _)) x1) xP l0
theorem appKD_ok{t e es:Nat}(hT:SliceT Try.prog t e es){α:Type}{enc:α->List Value}(he:∀x,(enc x).length=es)(hp0:0<es)(hok:∀x,(enc x).all cellOK=true){X:AHeap}{i:Nat}(hi:i<X.next)
  {a:Option Addr} {n c:Nat} {l:List α} {v:α} (hp:Apd X es a n c (l.flatMap enc)) (hai:∀ad,a=some ad->ad.block≠i) (hn:n<=100000) {C:Option Addr->Nat->Nat->AHeap->Prop}
  (hC:∀b' h',Apd (lowered (putAt X i es (enc v)) h') es (some ⟨b',0,none⟩) (n+1) (someCap es (n+1)) ((l++[v]).flatMap enc)->X.next<=b'->X.next<=(lowered (putAt X i es (enc v)) h').next->(∀j,j<X.next->j≠i->(∀ad,a=some ad->ad.block≠j)->(lowered (putAt X i es (enc v)) h').m.get j=X.m.get j)->(∀h0,Ext h0 X->h0.low<=h0.next->h0.next<=i->From h0.next a->Ext h0 (lowered (putAt X i es (enc v)) h'))->C (some ⟨b',0,none⟩) (n+1) (someCap es (n+1)) h') :
  app [t,t] [.slice a n c,.slice (some ⟨i,0,none⟩) 1 1] (fresh (putAt X i es (enc v))) C:=by
 rw[e_putAt hA]at hC ⊢;simp only[e_lowered hA]at hC;rw[e_fresh hA,e_app hA];have g1:∀j,j≠i->(X.putAt i es (enc v)).m.get j=X.m.get j:=fun j hj=>by unfold AHeap.putAt;simp only[];rw[Tri.get_set_ne _ _ (fun q=>hj q.symm)]
 have o1:Own (X.putAt i es (enc v)).freshed i es (enc v):=Own.putAt X i es (enc v);have hp1:Apd (X.putAt i es (enc v)).freshed es a n c (l.flatMap enc):=Apd.of_get hp (Nat.le_refl _) (fun ad had _=>g1 _ (hai ad had));have hs:Cells (X.putAt i es (enc v)).freshed (some ⟨i,0,none⟩) 1 es (enc v):=⟨rfl,hi,by rw[o1.readG (by rw[he];omega),List.drop_zero,List.take_of_length_le (by rw[he];omega)]⟩;obtain⟨a',c',h',h1,h2,h3,h4,h5,h6⟩:=append_keep hT hT.und (c2:=1) hp1 hs (all_flat hok l) (hok v) (by omega) (by omega);rcases h2 with ⟨_,w,_⟩|⟨b',rfl,rfl,w1,w2,w3⟩
 ·omega
 refine⟨_,n+1,_,h',h1,hC b' h' (.inr ⟨b',rfl,rfl,w1,by rw[flatE_len he];simp only[List.length_append,List.length_cons,List.length_nil];have:=hp.cells.length;rw[flatE_len he]at this;rw[Nat.eq_of_mul_eq_mul_right hp0 this],?_⟩) (h5 _ rfl) h4 (fun j j0 j1 j2=>(h6 j j0 j2).trans (g1 j j1)) (fun h0 x l0 x1 x2=>?_)⟩
 ·have w4:Own (h'.lowered (X.putAt i es (enc v)).low) b' es (l.flatMap enc++enc v):=w3
  simpa using w4
 ·have xP:Ext h0 (X.putAt i es (enc v)):=⟨x.next,x.low,x.lowG,fun j hj=>(g1 j (by omega)).trans (x.get j hj)⟩
  exact Ext.lower' (h3 h0 (xP.trans (Ext.freshed _)) x2).1 xP l0
