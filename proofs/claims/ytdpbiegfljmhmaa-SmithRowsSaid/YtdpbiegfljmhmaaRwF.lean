import Derived.Test.YtdpbiegfljmhmaaLsR
import Derived.Test.YtdpbiegfljmhmaaSlPt
import Derived.Test.YtdpbiegfljmhmaaLsZ
import Derived.Test.YtdpbiegfljmhmaaFracT
set_option linter.unusedSimpArgs false
set_option linter.unusedVariables false
namespace Go.Proofs.Ytdpbiegfljmhmaa
open Go.Sim
set_option maxRecDepth 100000
theorem Ao(a:Int)(x:List Int):gt (a :: x) ((0:Nat):Int)=a:=rfl
theorem pG(a:Int)(x:List Int)(k:Nat):gt (a :: x) ((k+1:Nat):Int)=gt x (k:Int):=rfl
theorem yR:∀{n:Nat} {x y:List Int},x.length=n->y.length=n->LL.lt x y->∃k:Nat,k<n/\(∀j:Nat,j<k->gt x (j:Int)=gt y (j:Int))/\gt x (k:Int)<gt y (k:Int)
 |0,[],[],_,_,h=>by have:dU [] []<0:=h;simp[dU]at this
 |0,_ :: _,_,h,_,_=>by simp at h
 |0,[],_ :: _,_,h,_=>by simp at h
 |n+1,[],_,h,_,_=>by simp at h
 |n+1,_ :: _,[],_,h,_=>by simp at h
 |n+1,a :: x,b :: y,hx,hy,h=>by
  have h':dU (a :: x) (b :: y)<0:=h;unfold dU at h';by_cases c:a<b
  ·exact⟨0,by omega,fun j hj=>by omega,c⟩
  ·by_cases d:b<a
   ·rw[if_neg c,if_pos d]at h';omega
   ·rw[if_neg c,if_neg d]at h'
    obtain⟨k,k0,k1,k2⟩:=yR (n:=n) (by simpa using hx) (by simpa using hy) h';refine⟨k+1,by omega,fun j hj=>?_,?_⟩
    ·cases j with
     |zero=>rw[Ao,Ao];omega
     |succ j=>rw[pG,pG];exact k1 j (by omega)
    ·rw[pG,pG];exact k2
theorem KT{a b D:Int}(hD:0<D)(h:a<b):rq a D<rq b D:=by
 unfold rq;have h1:(0:Rat)<(D:Rat):=by exact_mod_cast hD
 have h2:(a:Rat)<(b:Rat):=by exact_mod_cast h
 rw[Rat.div_def,Rat.div_def];exact Rat.mul_lt_mul_of_pos_right h2 (Rat.inv_pos.2 h1)
theorem bA.dvMk{g:List (List Int)}{m n s:Nat}{A:Nat->Ext.aJ}(hM:kT g m n)(a:bA g m n n s A):((Ext.Dv g m n n:Nat):Int)=Ext.Mk A n:=by
 have n4:=hM.n4;have e:∀d:Nat,d∣Ext.Dv g m n n↔d∣(Ext.kW (fun i=>A i (Ext.aj (n+m) (A i))) n).natAbs:=fun d=>
  ((Ext.kz n4 d).trans (a.minors (d:Int))).trans (a.ech.full n4 d)
 have e2:Ext.Dv g m n n=(Ext.kW (fun i=>A i (Ext.aj (n+m) (A i))) n).natAbs:=Nat.dvd_antisymm ((e _).1 (Nat.dvd_refl _)) ((e _).2 (Nat.dvd_refl _));have e3:∀k,k<=n->Ext.kW (fun i=>A i (Ext.aj (n+m) (A i))) k=Ext.Mk A k:=by
  intro k
  induction k with
  |zero=>intro _;rfl
  |succ k ih=>
   intro hk;show Ext.kW _ k*A k (Ext.aj (n+m) (A k))=Ext.Mk A k*A k k;rw[ih (by omega),a.lead_id (by omega)]
 rw[e2,e3 n (Nat.le_refl n)];have:=m8 (A:=A) n (fun i hi=>a.diag hi);omega
def AB(size:Int)(x:List Int):List Fc:=x.map (fun y=>fr y size)
theorem vl{size:Int}{x:List Int}{n j:Nat}(hx:x.length=n)(h:j<n):gt (AB size x) (j:Int)=fr (gt x (j:Int)) size:=sP _ x (by omega)
theorem Ip{size:Int}(s0:0<size)(s1:size<=1000000000000000000){n:Nat}{x y:List Int}(hx:x.length=n)(hy:y.length=n)(rx:∀j:Nat,j<n->0<=gt x (j:Int)/\gt x (j:Int)<size)(ry:∀j:Nat,j<n->0<=gt y (j:Int)/\gt y (j:Int)<size)(h:LL.lt x y):rr n (AB size x) (AB size y):=by
 obtain⟨k,k0,k1,k2⟩:=yR hx hy h;refine⟨k,k0,fun j hj=>?_,?_⟩
 ·rw[vl hx (by omega),vl hy (by omega),k1 j hj]
 ·have:=rx k k0
  have:=ry k k0;rw[vl hx k0,vl hy k0,Ga (by omega) (by omega) (by omega),Ga (by omega) (by omega) (by omega)];exact KT s0 k2
structure Sml(X:List Fc)(n:Nat)(D:Int)(z:Nat->Int):Prop where
 pos:0<D
 lim:D<=1000000000
 dL:∀j:Nat,j<n->0<=z j/\z j<D/\gS (gt X (j:Int)).n (gt X (j:Int)).d (rq (z j) D)
structure qM(g:List (List Int))(B:List Fc)(m n:Nat)(L:List (List Fc)):Prop where
 rel:jI g B m n
 inv:kv g m n n
 few:Ext.Dv g m n n<=64
 all:I5 g B m n L
 len:L.length=Ext.Dv g m n n
 siz:∃D:Int,∀X,X∈L->∃y,Sml X n D y
def sf(g:List (List Int))(B:List Fc)(m n:Nat)(e:Int):Prop:=(¬jI g B m n/\e=6)\/(jI g B m n/\∃r,kv g m n r/\((r<n/\e=24)\/(r=n/\64<Ext.Dv g m n n/\e=4)))
theorem qM.of{g:List (List Int)}{B:List Fc}{m n s:Nat}{A:Nat->Ext.aJ}{W:Int}(hM:kT g m n)(a:bA g m n n s A)(hR:jI g B m n)(ir:kv g m n n)(few:Ext.Dv g m n n<=64)(w:oP B m W)(ht:∀i:Int,0<=i->i<m->bQ (gt B i)/\(gt B i).d<=60)(hs9:W*Ext.Mk A n<=1000000000){l:List (List Int)}(p:l.Perm (Ext.kO A (ff A B W m n) (W*Ext.Mk A n) n n))(o:l.Pairwise LL.lt):qM g B m n (l.map (AB (W*Ext.Mk A n))):=by
 have mp:=m8 (A:=A) n (fun i hi=>a.diag hi);have sp:0<W*Ext.Mk A n:=Int.mul_pos w.pos mp;have hs:W*Ext.Mk A n<=1000000000000000000:=by omega
 have tri:=a.tri (B:=B) w.pos;obtain⟨r1,_,_,r4⟩:=Ext.qL tri n (Nat.le_refl n);rw[Nat.sub_self]at r1 r4;have mem:∀x,x∈l↔FO g (prt B W) m n (Ext.Mk A n) (W*Ext.Mk A n) x:=fun x=>(p.mem_iff.trans (r1 x)).trans (a.sols w hR x)
 refine⟨hR,ir,few,⟨fun X=>?_,?_⟩,?_,⟨W*Ext.Mk A n,fun X hX=>?_⟩⟩
 ·rw[List.mem_map]
  constructor
  ·rintro⟨x,hx,rfl⟩
   exact((mem x).1 hx).frac w ht mp hs
  ·intro sx
   obtain⟨x,h1,h2⟩:=a.back w ht sx;exact⟨x,(mem x).2 h1,h2.symm⟩
 ·rw[List.pairwise_map]
  refine o.imp_of_mem ?_;intro x y hx hy h;have sx:=(mem x).1 hx;have sy:=(mem y).1 hy;exact Ip sp hs sx.len sy.len sx.rng sy.rng h
 ·rw[List.length_map,p.length_eq]
  have h1:=a.dvMk hM;have h2:Ext.Mk A 0=1:=rfl;rw[h2,Int.mul_one]at r4;omega
 ·obtain⟨x,hx,rfl⟩:=List.mem_map.1 hX
  have sx:=(mem x).1 hx;refine⟨fun j=>gt x (j:Int),sp,hs9,fun j hj=>?_⟩;obtain⟨q0,q1⟩:=sx.rng j hj;rw[vl sx.len hj];exact⟨q0,q1,Fl (by omega) (by omega) (by omega)⟩
theorem qM.uniq{g:List (List Int)}{B:List Fc}{m n:Nat}{L M:List (List Fc)}(a:qM g B m n L)(b:qM g B m n M):L=M:=a.all.uniq b.all
theorem sf.not{g:List (List Int)}{B:List Fc}{m n:Nat}{L:List (List Fc)}{e:Int}(a:qM g B m n L)(b:sf g B m n e):False:=by
 rcases b with ⟨q,_⟩|⟨_,r,ir,q⟩
 ·exact q a.rel
 ·have e1:=ir.uniq a.inv
  have:=a.few;rcases q with q|q<;>omega
theorem sf.uniq{g:List (List Int)}{B:List Fc}{m n:Nat}{e f:Int}(a:sf g B m n e)(b:sf g B m n f):e=f:=by
 rcases a with ⟨q,rfl⟩|⟨q,r,ir,a⟩<;>rcases b with ⟨q',rfl⟩|⟨q',s,is,b⟩
 ·rfl
 ·exact absurd q' q
 ·exact absurd q q'
 ·have e1:=ir.uniq is
  rcases a with a|a<;>rcases b with b|b<;>omega
theorem K4:dB Try.prog 23 45 2:=⟨by kernel_rfl,by kernel_rfl,⟨16,by kernel_rfl,by omega⟩,⟨.agg #[.int .i64 0,.int .i64 0],by kernel_rfl,rfl⟩⟩
theorem TLF:dB Try.prog 51 23 1:=⟨by kernel_rfl,by kernel_rfl,⟨24,by kernel_rfl,by omega⟩,⟨.slice none 0 0,by kernel_rfl,rfl⟩⟩
structure zr(h0 h:af)(a:Option Addr)(N c:Nat)(hd:List Hd)(g:List (List Fc)):Prop where
 ext:Ext h0 h
 gr:jX fC 2 h a N hd g
 fr:gf h0.next a
 apd:jw h 1 a N c (hd.flatMap Hd.cells)
 bel:∀ad,a=some ad->∀y:Int,0<=y->y<N->∀bd,(gt hd y).a=some bd->bd.block<ad.block
theorem zr.more{h0 h h':af}{a:Option Addr}{N c:Nat}{hd:List Hd}{g:List (List Fc)}(t:zr h0 h a N c hd g)(e:Ext h h'):zr h0 h' a N c hd g:=⟨t.ext.trans e,t.gr.ext e,t.fr,t.apd.ext e,t.bel⟩
theorem zr.nil(h:af):zr h h none 0 0 [] []:=
 ⟨.refl h,⟨Rows.nil h dF (by omega),rfl,fun y y0 y1=>by omega⟩,.none _,.nil _ _,fun ad had=>by cases had⟩
theorem zr.add{h0 h h':af}{a:Option Addr}{N c b':Nat}{hd:List Hd}{g:List (List Fc)}(t:zr h0 h a N c hd g){k:Hd}{r:List Fc}(row:Rows fC 2 h k.a k.n r)(sk:∀ad,a=some ad->∀bd,k.a=some bd->bd.block≠ad.block)
  (a':jw h' 1 (some ⟨b',0,none⟩) (N+1) (ar 1 (N+1)) ((hd++[k]).flatMap Hd.cells)) (xe:Ext h0 h') (n':h.next<h'.next) (nb':h.next<b') (k':∀i,i<h.next->(∀ad,a=some ad->ad.block≠i)->h'.m.get i=h.m.get i) :
  zr h0 h' (some ⟨b',0,none⟩) (N+1) (ar 1 (N+1)) (hd++[k]) (g++[r]):=by
 have hl:hd.length=N:=t.gr.hd.len;have gl:=t.gr.len;have hn0:=t.ext.next;have eh:∀y:Int,0<=y->y<((N+1:Nat):Int)->gt (hd++[k]) y=if y<N then gt hd y else k:=fun y y0 y1=>by
  rw[sD hd k y0 (by omega),hl]
 have eg:∀y:Int,0<=y->y<((N+1:Nat):Int)->gt (g++[r]) y=if y<N then gt g y else r:=fun y y0 y1=>by
  rw[sD g r y0 (by omega),gl]
 refine⟨xe,⟨⟨a'.cells,dF,by omega⟩,by simp[gl],fun y y0 y1=>?_⟩,fun ad had=>by cases had;show h0.next<=b';omega,a',fun ad had y y0 y1 bd hbd=>?_⟩
 ·rw[eh y y0 y1,eg y y0 y1]
  by_cases c:y<N
  ·rw[if_pos c,if_pos c]
   have q:=t.gr.row y y0 c;exact q.keep (Nat.le_of_lt n') (fun bd hbd=>k' _ (q.lt bd hbd) (fun ad had=>(Nat.ne_of_lt (t.bel ad had y y0 c bd hbd)).symm))
  ·rw[if_neg c,if_neg c]
   exact row.keep (Nat.le_of_lt n') (fun bd hbd=>k' _ (row.lt bd hbd) (fun ad had=>(sk ad had bd hbd).symm))
 ·cases had
  rw[eh y y0 y1]at hbd;show bd.block<b';by_cases c:y<N
  ·rw[if_pos c]at hbd;have:=(t.gr.row y y0 c).lt bd hbd;omega
  ·rw[if_neg c]at hbd;have:=row.lt bd hbd;omega
theorem Fp{size:Int}{x:List Int}{i:Nat}{I:Int}(eI:I=i)(h:i<x.length):AB size (x.take (i+1))=AB size (x.take i)++[fr (gt x I) size]:=by
 rw[tQ x eI h];unfold AB;rw[List.map_append];rfl
theorem wh:∀n,cH (fun _=>(0:Rat)) n=0
 |0=>rfl
 |n+1=>by show cH (fun _=>(0:Rat)) n+0=0;rw[wh n];grind
theorem kJ(f:Nat->Int):∀n,cH (fun k=>(f k:Rat)) n=((Ext.aK f n:Int):Rat)
 |0=>by show(0:Rat)=((0:Int):Rat);rw[Rat.intCast_zero]
 |n+1=>by show cH (fun k=>(f k:Rat)) n+(f n:Rat)=((Ext.aK f n+f n:Int):Rat);rw[kJ f n,Rat.intCast_add]
theorem jI.iff{g:List (List Int)}{B:List Fc}{m n:Nat}(ht:∀i:Int,0<=i->i<m->bQ (gt B i)/\(gt B i).d<=60):jI g B m n↔∀u,Aj g m n u->∃z:Int,cH (fun i=>(u i:Rat)*vq (gt B (i:Int))) m=(z:Rat):=by
 have key:∀W,oP B m W->∀u:Nat->Int,cH (fun i=>(u i:Rat)*vq (gt B (i:Int))) m=rq (Ext.aK (fun i=>u i*prt B W i) m) W:=fun W w u=>by
  have wp:=w.pos;rw[<-sZ u (prt B W) (show W≠0 by omega) m];exact cA m (fun i hi=>by rw[show vq (gt B (i:Int))=rq (prt B W i) W from(w.part ht hi).1.rq])
 constructor
 ·intro h u hu
  obtain⟨W,w⟩:=oP.ex ht;have wp:=w.pos;obtain⟨c,hc⟩:=Int.dvd_of_emod_eq_zero (h W w u hu);refine⟨c,?_⟩;rw[key W w u,hc,lJ (l:=c) (show W≠0 by omega),Int.mul_comm]
 ·intro h W w u hu
  have wp:=w.pos;obtain⟨z,hz⟩:=h u hu;rw[key W w u,lJ (l:=z) (show W≠0 by omega)]at hz;have:=(F4 (show W≠0 by omega)).1 hz;rw[this];exact Int.emod_eq_zero_of_dvd ⟨z,Int.mul_comm _ _⟩
def dy(g:List (List Int))(B:List Fc)(g':List (List Int))(B':List Fc)(m n:Nat):Prop:=
 ∃P:Nat->Nat->Int,(∀i,i<m->∀j,j<n->Ext.el g' i j=Ext.aK (fun k=>P i k*Ext.el g k j) m)/\∀i:Nat,i<m->∃z:Int,cH (fun k=>(P i k:Rat)*vq (gt B (k:Int))) m=vq (gt B' (i:Int))+(z:Rat)
theorem dy.minors{g g':List (List Int)}{B B':List Fc}{m n k:Nat}{d:Int}(t:dy g B g' B' m n)(h:Ext.jO (fun i j=>Ext.el g i j) m n k d):Ext.jO (fun i j=>Ext.el g' i j) m n k d:=by
 obtain⟨P,p1,_⟩:=t;exact h.rows (fun i hi=>⟨P i,fun j hj=>p1 i hi j hj⟩)
theorem dy.dv{g g':List (List Int)}{B B':List Fc}{m n k:Nat}(hk:k<=4)(t:dy g B g' B' m n)(t':dy g' B' g B m n):Ext.Dv g' m n k=Ext.Dv g m n k:=
 Nat.dvd_antisymm ((Ext.kz hk _).2 (t'.minors ((Ext.kz hk _).1 (Nat.dvd_refl _)))) ((Ext.kz hk _).2 (t.minors ((Ext.kz hk _).1 (Nat.dvd_refl _))))
theorem dy.rel{g g':List (List Int)}{B B':List Fc}{m n:Nat}(t:dy g B g' B' m n)(ht:∀i:Int,0<=i->i<m->bQ (gt B i)/\(gt B i).d<=60)(ht':∀i:Int,0<=i->i<m->bQ (gt B' i)/\(gt B' i).d<=60)(h:jI g B m n):jI g' B' m n:=by
 rw[jI.iff ht]at h;rw[jI.iff ht'];obtain⟨P,p1,p2⟩:=t;intro u hu;have hv:Aj g m n (fun k=>Ext.aK (fun i=>u i*P i k) m):=fun j hj=>by
  have e:=hu j hj;rw[Ext.aG m (g:=fun i=>Ext.aK (fun k=>u i*P i k*Ext.el g k j) m) (fun i hi=>by
   rw[p1 i hi j hj,<-Ext.hH];exact Ext.aG m (fun k _=>by rw[Int.mul_assoc])),jx]at e
  rw[<-e];exact Ext.aG m (fun k _=>by rw[<-fQ])
 obtain⟨z,hz⟩:=h _ hv;have:∃y:Nat->Int,∀i:Nat,i<m->cH (fun k=>(P i k:Rat)*vq (gt B (k:Int))) m=vq (gt B' (i:Int))+(y i:Rat):=
  ⟨fun i=>if q:i<m then(p2 i q).choose else 0,fun i hi=>by
   show _=_+(((if q:i<m then(p2 i q).choose else 0:Int)):Rat);rw[dif_pos hi];exact(p2 i hi).choose_spec⟩
 obtain⟨y,hy⟩:=this;have e1:cH (fun k=>((Ext.aK (fun i=>u i*P i k) m:Int):Rat)*vq (gt B (k:Int))) m=cH (fun i=>(u i:Rat)*vq (gt B' (i:Int))) m+((Ext.aK (fun i=>u i*y i) m:Int):Rat):=by
  rw[<-kJ,<-pR,cA m (g:=fun k=>cH (fun i=>(u i:Rat)*((P i k:Rat)*vq (gt B (k:Int)))) m) (fun k _=>by
   rw[<-kJ,Rat.mul_comm,<-kS];exact cA m (fun i _=>by rw[Rat.intCast_mul];grind)),<-n7]
  refine cA m (fun i hi=>?_);rw[kS,hy i hi,Rat.intCast_mul];grind
 refine⟨z-Ext.aK (fun i=>u i*y i) m,?_⟩;rw[hz]at e1;rw[Rat.intCast_sub];grind
theorem dy.sol{g g':List (List Int)}{B B':List Fc}{m n:Nat}{X:List Fc}(t:dy g B g' B' m n)(h:AJ g B m n X):AJ g' B' m n X:=by
 obtain⟨P,p1,p2⟩:=t;refine⟨h.len,h.turn,fun i hi=>?_⟩;have:∃y:Nat->Int,∀k:Nat,k<m->cH (fun j=>(Ext.el g k j:Rat)*vq (gt X (j:Int))) n=vq (gt B (k:Int))+(y k:Rat):=
  ⟨fun k=>if q:k<m then(h.eqs k q).choose else 0,fun k hk=>by
   show _=_+(((if q:k<m then(h.eqs k q).choose else 0:Int)):Rat);rw[dif_pos hk];exact(h.eqs k hk).choose_spec⟩
 obtain⟨y,hy⟩:=this;obtain⟨z,hz⟩:=p2 i hi;refine⟨z+Ext.aK (fun k=>P i k*y k) m,?_⟩;have e1:cH (fun j=>(Ext.el g' i j:Rat)*vq (gt X (j:Int))) n=cH (fun k=>(P i k:Rat)*vq (gt B (k:Int))) m+((Ext.aK (fun k=>P i k*y k) m:Int):Rat):=by
  rw[<-kJ,<-pR,cA n (g:=fun j=>cH (fun k=>(P i k:Rat)*((Ext.el g k j:Rat)*vq (gt X (j:Int)))) m) (fun j hj=>by
   rw[p1 i hi j hj,<-kJ,Rat.mul_comm,<-kS];exact cA m (fun k _=>by rw[Rat.intCast_mul];grind)),n7]
  refine cA m (fun k hk=>?_);rw[kS,hy k hk,Rat.intCast_mul];grind
 rw[e1,hz,Rat.intCast_add];grind
theorem kv.of_dv{g g':List (List Int)}{m n r:Nat}(n4:n<=4)(m4:m<=4)(e:∀k,k<=4->Ext.Dv g' m n k=Ext.Dv g m n k)(h:kv g m n r):kv g' m n r:=by
 have h1:=h.lm;have h2:=h.ln;refine⟨h.lm,h.ln,fun k hk=>by rw[e _ (by omega)];exact h.nz k hk,?_⟩;rcases h.fin with q|q|q
 ·exact .inl q
 ·exact .inr (.inl q)
 ·by_cases c:r=4
  ·exact .inl (by omega)
  ·exact .inr (.inr (by rw[e _ (by omega)];exact q))
theorem qM.to{g g':List (List Int)}{B B':List Fc}{m n:Nat}{L:List (List Fc)}(n4:n<=4)(m4:m<=4)(t:dy g B g' B' m n)(t':dy g' B' g B m n)(ht:∀i:Int,0<=i->i<m->bQ (gt B i)/\(gt B i).d<=60)(ht':∀i:Int,0<=i->i<m->bQ (gt B' i)/\(gt B' i).d<=60)(h:qM g B m n L):qM g' B' m n L:=
 ⟨t.rel ht ht' h.rel,h.inv.of_dv n4 m4 (fun k hk=>t.dv hk t'),by rw[t.dv n4 t'];exact h.few,⟨fun X=>(h.all.mem X).trans ⟨t.sol,t'.sol⟩,h.all.ord⟩,by rw[t.dv n4 t'];exact h.len,h.siz⟩
theorem sf.to{g g':List (List Int)}{B B':List Fc}{m n:Nat}{e:Int}(n4:n<=4)(m4:m<=4)(t:dy g B g' B' m n)(t':dy g' B' g B m n)(ht:∀i:Int,0<=i->i<m->bQ (gt B i)/\(gt B i).d<=60)(ht':∀i:Int,0<=i->i<m->bQ (gt B' i)/\(gt B' i).d<=60)(h:sf g B m n e):sf g' B' m n e:=by
 rcases h with ⟨q,rfl⟩|⟨q,r,ir,h⟩
 ·exact .inl ⟨fun k=>q (t'.rel ht' ht k),rfl⟩
 ·refine .inr ⟨t.rel ht ht' q,r,ir.of_dv n4 m4 (fun k hk=>t.dv hk t'),?_⟩
  rcases h with h|⟨h1,h2,h3⟩
  ·exact .inl h
  ·exact .inr ⟨h1,by rw[t.dv n4 t'];exact h2,h3⟩
theorem kT.chk{g:List (List Int)}{B:List Fc}{m n:Nat}(h:kT g m n)(hl:B.length=m)(ht:∀i:Int,0<=i->i<m->bQ (gt B i)/\(gt B i).d<=60):hO g B 0:=by
 have m1:=h.m1;have m4:=h.m4;have n1:=h.n1;have n4:=h.n4;have ln:=h.len;refine .inr (.inl ⟨fun q=>?_,⟨by omega,by rw[h.row 0 (by omega) (by omega)];omega,by omega,fun i i0 i1=>by rw[h.row i i0 (by omega),h.row 0 (by omega) (by omega)],fun i i0 i1 j j0 j1=>?_,fun i i0 i1=>ht i i0 (by omega)⟩,rfl⟩)
 ·rcases q with q|⟨i,i0,i1,q⟩
  ·omega
  ·rw[h.row i i0 (by omega)]at q;omega
 ·have:=h.nine i j
  omega
def jU{α:Type}[Inhabited α](l:List α)(m:Nat):List α:=gn (fun i=>gt l (((m:Int))-1-i)) m
theorem iu{α:Type}[Inhabited α](l:List α){m i:Nat}(h:i<m):gt (jU l m) (i:Int)=gt l ((m:Int)-1-i):=cO _ h
theorem vR{α:Type}[Inhabited α](l:List α){m i:Nat}(h:i<m):gt (jU l m) ((m:Int)-1-i)=gt l (i:Int):=by
 have:=iu l (m:=m) (i:=m-1-i) (by omega);rw[show((m-1-i:Nat):Int)=(m:Int)-1-i by omega]at this;rw[this]
 congr 1
 omega
theorem va{f:Nat->Rat}{k n:Nat}(hk:k<n)(h:∀j,j<n->j≠k->f j=0):cH f n=f k:=by
 rw[sE n hk,cA n (g:=fun _=>(0:Rat)) (fun j hj=>by
  show(if j=k then(0:Rat)else f j)=0;by_cases c:j=k
  ·rw[if_pos c]
  ·rw[if_neg c];exact h j hj c),wh]
 grind
theorem dy.perm{g g':List (List Int)}{B B':List Fc}{m n:Nat}(p:Nat->Nat)(hp:∀i,i<m->p i<m)(hg:∀i:Nat,i<m->gt g' (i:Int)=gt g ((p i:Nat):Int))(hB:∀i:Nat,i<m->gt B' (i:Int)=gt B ((p i:Nat):Int)):dy g B g' B' m n:=by
 obtain⟨P,hP⟩:∃P:Nat->Nat->Int,∀i k,P i k=if k=p i then 1 else 0:=⟨_,fun _ _=>rfl⟩
 refine⟨P,fun i hi j hj=>?_,fun i hi=>⟨0,?_⟩⟩
 ·rw[Ext.fI m (hp i hi) (fun k _ ne=>by rw[hP,if_neg ne,Int.zero_mul]),hP,if_pos rfl,Int.one_mul]
  unfold Ext.el;rw[hg i hi]
 ·rw[va (hp i hi) (fun k _ ne=>by rw[hP,if_neg ne,Rat.intCast_zero,Rat.zero_mul]),hP,if_pos rfl,hB i hi,Rat.intCast_one,Rat.intCast_zero]
  grind
theorem dy.rev(g:List (List Int))(B:List Fc)(m n:Nat):dy g B (jU g m) (jU B m) m n:=
 dy.perm (fun i=>m-1-i) (fun i hi=>by omega) (fun i hi=>by rw[iu g hi];congr 1;omega) (fun i hi=>by rw[iu B hi];congr 1;omega)
theorem dy.unrev(g:List (List Int))(B:List Fc)(m n:Nat):dy (jU g m) (jU B m) g B m n:=
 dy.perm (fun i=>m-1-i) (fun i hi=>by omega) (fun i hi=>by rw[<-vR g hi];congr 1;omega) (fun i hi=>by rw[<-vR B hi];congr 1;omega)
theorem kT.rev{g:List (List Int)}{m n:Nat}(h:kT g m n):kT (jU g m) m n:=by
 refine⟨h.m1,h.m4,h.n1,h.n4,aL _ _,fun i i0 i1=>?_,fun i j=>?_⟩
 ·obtain⟨k,rfl⟩:∃k:Nat,i=k:=⟨i.toNat,by omega⟩
  rw[iu g (by omega)];exact h.row _ (by omega) (by omega)
 ·by_cases c:i.toNat<m
  ·have:=iu g c
   have e:gt (jU g m) i=gt (jU g m) ((i.toNat:Nat):Int):=by unfold gt;rfl
   rw[e,this];exact h.nine _ j
  ·have e:gt (jU g m) i=[]:=by
    unfold gt;rw[List.getD_eq_getElem?_getD,List.getElem?_eq_none (by unfold jU;rw[aL];omega)];rfl
   rw[e];have:gt ([]:List Int) j=0:=by unfold gt;rw[List.getD_eq_getElem?_getD];rfl
   rw[this];decide
def qF(g:List (List Int))(m n:Nat):List (List Int):=gn (fun i=>jU (gt g (i:Int)) n) m
theorem C8(g:List (List Int)){m n i j:Nat}(hi:i<m)(hj:j<n):Ext.el (qF g m n) i j=Ext.el g i ((n-1-j:Nat):Int):=by
 unfold Ext.el qF;rw[cO _ hi,iu _ hj]
 congr 1
 omega
theorem IA{g:List (List Int)}{m n k:Nat}(hk:k<=4):Ext.Dv (qF g m n) m n k=Ext.Dv g m n k:=by
 refine Nat.dvd_antisymm ((Ext.kz hk _).2 ?_) ((Ext.kz hk _).2 ?_)
 ·refine((Ext.kz hk _).1 (Nat.dvd_refl _)).cols (fun j hj=>?_)
  obtain⟨y,hY⟩:∃y:Nat->Int,∀t,y t=if t=n-1-j then 1 else 0:=⟨_,fun _=>rfl⟩
  refine⟨y,fun i hi=>?_⟩;rw[Ext.fI n (show n-1-j<n by omega) (fun k _ ne=>by rw[hY,if_neg ne,Int.zero_mul]),hY,if_pos rfl,Int.one_mul];show Ext.el g i j=Ext.el (qF g m n) i ((n-1-j:Nat):Int);rw[C8 g hi (by omega)]
  congr 1
  omega
 ·refine((Ext.kz hk _).1 (Nat.dvd_refl _)).cols (fun j hj=>?_)
  obtain⟨y,hY⟩:∃y:Nat->Int,∀t,y t=if t=n-1-j then 1 else 0:=⟨_,fun _=>rfl⟩
  refine⟨y,fun i hi=>?_⟩;rw[Ext.fI n (show n-1-j<n by omega) (fun k _ ne=>by rw[hY,if_neg ne,Int.zero_mul]),hY,if_pos rfl,Int.one_mul];exact C8 g hi hj
theorem kT.col{g:List (List Int)}{m n:Nat}(h:kT g m n):kT (qF g m n) m n:=by
 refine⟨h.m1,h.m4,h.n1,h.n4,aL _ _,fun i i0 i1=>?_,fun i j=>?_⟩
 ·obtain⟨k,rfl⟩:∃k:Nat,i=k:=⟨i.toNat,by omega⟩
  unfold qF;rw[cO _ (by omega)];exact aL _ _
 ·have e:gt (qF g m n) i=gt (qF g m n) ((i.toNat:Nat):Int):=by unfold gt;rfl
  rw[e];by_cases c:i.toNat<m
  ·unfold qF
   rw[cO _ c];have e2:∀l:List Int,gt l j=gt l ((j.toNat:Nat):Int):=fun l=>by unfold gt;rfl
   rw[e2];by_cases d:j.toNat<n
   ·rw[iu _ d];exact h.nine _ _
   ·have:gt (jU (gt g ((i.toNat:Nat):Int)) n) ((j.toNat:Nat):Int)=0:=by
     unfold gt;rw[List.getD_eq_getElem?_getD,List.getElem?_eq_none (by unfold jU;rw[aL];omega)];rfl
    rw[this];decide
  ·have e:gt (qF g m n) ((i.toNat:Nat):Int)=[]:=by
    unfold gt;rw[List.getD_eq_getElem?_getD,List.getElem?_eq_none (by unfold qF;rw[aL];omega)];rfl
   rw[e];have:gt ([]:List Int) j=0:=by unfold gt;rw[List.getD_eq_getElem?_getD];rfl
   rw[this];decide
theorem G4{f:Nat->Rat}{a b n:Nat}(ha:a<n)(hb:b<n)(ne:a≠b)(h:∀j,j<n->j≠a->j≠b->f j=0):cH f n=f a+f b:=by
 rw[sE n ha,va hb (fun j hj nb=>by
  show(if j=a then(0:Rat)else f j)=0;by_cases c:j=a
  ·rw[if_pos c]
  ·rw[if_neg c];exact h j hj c nb),if_neg (fun q=>ne q.symm)]
theorem GR{f:Nat->Int}{a b n:Nat}(ha:a<n)(hb:b<n)(ne:a≠b)(h:∀j,j<n->j≠a->j≠b->f j=0):Ext.aK f n=f a+f b:=by
 have e:=Ext.mW (fun j=>if j=a then f a else 0) (fun j=>if j=a then 0 else f j) n;have e1:Ext.aK (fun j=>if j=a then f a else 0) n=f a:=by
  rw[Ext.fI (f:=fun j=>if j=a then f a else 0) n ha (fun j _ c=>if_neg c)];exact if_pos rfl
 have e2:Ext.aK (fun j=>if j=a then 0 else f j) n=f b:=by
  rw[Ext.fI (f:=fun j=>if j=a then 0 else f j) n hb (fun j hj c=>by
   show(if j=a then 0 else f j)=0;by_cases d:j=a
   ·exact if_pos d
   ·rw[if_neg d];exact h j hj d c)]
  exact if_neg (fun q=>ne q.symm)
 rw[Ext.aG n (g:=f) (fun j hj=>by
  by_cases c:j=a
  ·rw[if_pos c,if_pos c,c,Int.add_zero]
  ·rw[if_neg c,if_neg c,Int.zero_add]),e1,e2]at e
 exact e
theorem dy.sum{g g':List (List Int)}{B B':List Fc}{m n x y:Nat}(c:Int)(hx:x<m)(hy:y<m)(ne:x≠y)(hg:∀i:Nat,i<m->∀j,j<n->Ext.el g' i j=if i=x then Ext.el g x j+c*Ext.el g y j else Ext.el g i j)(hB:∀i:Nat,i<m->i≠x->gt B' (i:Int)=gt B (i:Int))(hb:∃z:Int,vq (gt B (x:Int))+(c:Rat)*vq (gt B (y:Int))=vq (gt B' (x:Int))+(z:Rat)):dy g B g' B' m n:=by
 obtain⟨P,hP⟩:∃P:Nat->Nat->Int,∀i k,P i k=if k=i then 1 else if i=x/\k=y then c else 0:=⟨_,fun _ _=>rfl⟩
 refine⟨P,fun i hi j hj=>?_,fun i hi=>?_⟩
 ·rw[hg i hi j hj]
  by_cases e:i=x
  ·subst e
   rw[if_pos rfl,GR (a:=i) (b:=y) hi hy ne (fun k _ k1 k2=>by rw[hP,if_neg k1,if_neg (fun q=>k2 q.2),Int.zero_mul]),hP,hP,if_pos rfl,if_neg (fun q=>ne q.symm),if_pos ⟨rfl,rfl⟩,Int.one_mul]
  ·rw[if_neg e,Ext.fI m hi (fun k _ k1=>by rw[hP,if_neg k1,if_neg (fun q=>e q.1),Int.zero_mul]),hP,if_pos rfl,Int.one_mul]
 ·by_cases e:i=x
  ·subst e
   obtain⟨z,hz⟩:=hb;refine⟨z,?_⟩;rw[G4 (a:=i) (b:=y) hi hy ne (fun k _ k1 k2=>by rw[hP,if_neg k1,if_neg (fun q=>k2 q.2),Rat.intCast_zero,Rat.zero_mul]),hP,hP,if_pos rfl,if_neg (fun q=>ne q.symm),if_pos ⟨rfl,rfl⟩,<-hz,Rat.intCast_one];grind
  ·refine⟨0,?_⟩
   rw[va hi (fun k _ k1=>by rw[hP,if_neg k1,if_neg (fun q=>e q.1),Rat.intCast_zero,Rat.zero_mul]),hP,if_pos rfl,hB i hi e,Rat.intCast_one,Rat.intCast_zero];grind
theorem dy.both{g g':List (List Int)}{B B':List Fc}{m n x y:Nat}(hx:x<m)(hy:y<m)(ne:x≠y)(hg:∀i:Nat,i<m->∀j,j<n->Ext.el g' i j=if i=x then Ext.el g x j+Ext.el g y j else Ext.el g i j)(hB:∀i:Nat,i<m->i≠x->gt B' (i:Int)=gt B (i:Int))(hb:∃z:Int,vq (gt B (x:Int))+vq (gt B (y:Int))=vq (gt B' (x:Int))+(z:Rat)):dy g B g' B' m n/\dy g' B' g B m n:=by
 obtain⟨z,hz⟩:=hb;constructor
 ·refine dy.sum 1 hx hy ne (fun i hi j hj=>by rw[hg i hi j hj,Int.one_mul]) hB ⟨z,?_⟩
  rw[<-hz,Rat.intCast_one];grind
 ·refine dy.sum (-1) hx hy ne (fun i hi j hj=>?_) (fun i hi e=>(hB i hi e).symm) ⟨-z,?_⟩
  ·by_cases e:i=x
   ·subst e
    have h1:=hg i hi j hj;have h2:=hg y hy j hj;rw[if_pos rfl]at h1 ⊢;rw[if_neg (fun q=>ne q.symm)]at h2;rw[h1,h2];omega
   ·rw[if_neg e,hg i hi j hj,if_neg e]
  ·rw[hB y hy (fun q=>ne q.symm),Rat.intCast_neg,Rat.intCast_neg,Rat.intCast_one]
   grind
theorem Bp{g g':List (List Int)}{m n r:Nat}(h4:r<=4)(m4:m<=4)(e:∀k,k<=4->Ext.Dv g' m n k=Ext.Dv g m n k)(ir:kv g m n r):vF g' m n r=vF g m n r:=by
 unfold vF;have:=ir.lm;refine di (fun i hi=>?_);rw[e (i+1) (by omega),e i (by omega)]
def te(g:List (List Int))(B:List Fc)(m n:Nat)(e:Int)(L:List (List Fc)):Prop:=(e=0/\qM g B m n L)\/(sf g B m n e/\L=[])
theorem te.uniq{g:List (List Int)}{B:List Fc}{m n:Nat}{e e':Int}{L L':List (List Fc)}(a:te g B m n e L)(b:te g B m n e' L'):e=e'/\L=L':=by
 rcases a with ⟨rfl,a⟩|⟨a,rfl⟩<;>rcases b with ⟨rfl,b⟩|⟨b,rfl⟩
 ·exact⟨rfl,a.uniq b⟩
 ·exact(sf.not a b).elim
 ·exact(sf.not b a).elim
 ·exact⟨a.uniq b,rfl⟩
theorem te.to{g g':List (List Int)}{B B':List Fc}{m n:Nat}{e:Int}{L:List (List Fc)}(n4:n<=4)(m4:m<=4)(t:dy g B g' B' m n)(t':dy g' B' g B m n)(ht:∀i:Int,0<=i->i<m->bQ (gt B i)/\(gt B i).d<=60)(ht':∀i:Int,0<=i->i<m->bQ (gt B' i)/\(gt B' i).d<=60)(h:te g B m n e L):te g' B' m n e L:=by
 rcases h with ⟨rfl,a⟩|⟨a,rfl⟩
 ·exact .inl ⟨rfl,a.to n4 m4 t t' ht ht'⟩
 ·exact .inr ⟨a.to n4 m4 t t' ht ht',rfl⟩
theorem te.few{g:List (List Int)}{B:List Fc}{m n:Nat}{e:Int}{L:List (List Fc)}(n4:n<=4)(a:te g B m n e L):L.length<=64/\∀X,X∈L->X.length<=4:=by
 rcases a with ⟨_,a⟩|⟨_,rfl⟩
 ·refine⟨by have:=a.few;have:=a.len;omega,fun X hX=>?_⟩
  have:=((a.all.mem X).1 hX).len;omega
 ·exact⟨Nat.zero_le _,fun X hX=>by simp at hX⟩
variable{F:aM}{call head arith cmp a0 b0 c0 d0 f0 g0 l0 ofNat m0 place n0 nz o0 rd wr p0 next r0 t0 u0 v0 w0 x0 z0 a1 b1 part d1 g1 o1 u1 lowered bump v1 w1 lt ne z1 b2 d2 yn rng g2 i2 j2 m2 n2:_}(hA:AP F ⟨call,head,arith,cmp,a0,b0,c0,d0,f0,g0,l0,ofNat,m0,place,n0,nz,o0,rd,wr,p0,next,r0,t0,u0,v0,w0,x0,z0,a1,b1,part,d1,g1,o1,u1,lowered,bump,v1,w1,lt,ne,z1,b2,d2,yn,rng,g2,i2,j2,m2,n2⟩)
include hA
theorem KP{h0:af}(hl0:h0.low<=h0.next){x:List Int}{n xc:Nat}{xa:Option Addr}(hx:Rows nC 1 h0 xa n x)(n4:n<=4){W many size NI:Int}(eN:NI=n)(m1:arith .mul .i64 W many=size)(s0:0<size)(s1:size<=829440000)(hr:∀j:Nat,j<n->0<=gt x (j:Int)/\gt x (j:Int)<size){oa fa:Option Addr}{on oc fn fc:Nat}{FN FI:Int}{c1:List Value}{Q:Exit->SS->Prop}
  (hQ:∀h' a c,jw h' 2 a n c ((AB size x).flatMap fC)->gf h0.next a->Ext h0 h'->Q (.exit 2) ⟨[(4,.int .i64 many),(8,.int .i64 W),(11,.slice oa on oc),(14,.slice a n c),(48,.slice fa fn fc),(49,.int .i64 FN),(50,.int .i64 FI)],1,[(0,c1)],h'⟩) :
  ∀(d i:Nat) (I:Int) (h:af) (a:Option Addr) (c:Nat),n-i<=d->i<=n->I=i->jw h 2 a i c ((AB size (x.take i)).flatMap fC)->gf h0.next a->Ext h0 h->
   head 21 16 1 ⟨[(4,.int .i64 many),(8,.int .i64 W),(11,.slice oa on oc),(14,.slice a i c),(48,.slice fa fn fc),(49,.int .i64 FN),(50,.int .i64 FI),(54,.slice xa n xc),(55,.int .i64 NI),(56,.int .i64 I)],1,[(0,c1)],h⟩ Q:=by
 intro d;have ln:=hx.len
 induction d with
 |zero=>
  intro i I h a c hd hi eI t fo x';refine hA.roundR Try.func21 r21_ok (zc ?_);refine br (I<NI) (by rw[au hA]) (fun q=>by omega) (fun _=>?_)<;>refine zc ?_;obtain rfl:i=n:=by omega
  rw[List.take_of_length_le (by omega)]at t;exact hQ h a c t fo x'
 |succ d ih=>
 intro i I h a c hd hi eI t fo x';by_cases ci:i<n
 rotate_left
 ·refine hA.roundR Try.func21 r21_ok (zc ?_)
  refine br (I<NI) (by rw[au hA]) (fun q=>by omega) (fun _=>?_)<;>refine zc ?_;obtain rfl:i=n:=by omega
  rw[List.take_of_length_le (by omega)]at t;exact hQ h a c t fo x'
 have hlow:=x'.lowOK hl0;obtain⟨xb,xo,rfl,_,q1⟩:=(hx.ext x').at (i:=I) (by omega) (by omega);have q1:=q1 0 1 (by omega) (by omega);obtain⟨v,ev⟩:∃z,z=gt x I:=⟨_,rfl⟩;have hv:=hr i ci;rw[<-eI,<-ev]at hv;rw[<-ev]at q1;have r1:rd h xb (place xo I 1) 1 [.int .i64 v]:=az hA q1;have et:=Fp (size:=size) (x:=x) eI (by omega);rw[<-ev]at et;refine hA.roundR Try.func21 r21_ok (zc ?_);refine br (I<NI) (by rw[au hA]) (fun _=>?_) (fun q=>by omega)<;>refine zc ?_
 (refine zq ?_;repeat ((first|rw[m1]);refine zq ?_))
 refine CS hA hlow (n:=v) (d:=size) (by unfold i64;omega) (by unfold i64;omega) (fun n' d' e hres h1 x1=>⟨_,_,_,rfl,?_⟩);have hl1:=x1.lowOK hlow;have y1:=x'.trans x1;have hf:fits (rq v size):=sT (by omega) (by omega) (by omega);have hres':n'=(fr v size).n/\d'=(fr v size).d/\e=0:=by
  rcases hres with ⟨q,_⟩|⟨_,q⟩
  ·omega
  ·rcases q with ⟨_,q1,q2,q3⟩|⟨q,_⟩
   ·exact⟨q1,q2,q3⟩
   ·exact absurd hf q
 obtain⟨rfl,rfl,rfl⟩:=hres';obtain⟨u,eu⟩:∃z,z=fr v size:=⟨_,rfl⟩;rw[<-eu]at et ⊢;have t1:=t.ext x1;refine zq ?_;rw[show cmp .neq 0 0=false by rw[bL hA];rfl];refine zq ?_;refine Dc hA K4 jQ (by omega) Cj (v:=u) t1 (by omega) (fun a' c' h2 t2 x2=>?_);rw[<-et]at t2;obtain⟨x3,f3⟩:=x2 h0 y1 fo;obtain⟨i1,ei1⟩:∃z,z=i+1:=⟨_,rfl⟩;rw[<-ei1]at t2 ⊢;refine zq ?_;rw[aB hA (by omega) (by omega)];exact ih i1 (I+1) h2 a' c' (by omega) (by omega) (by omega) t2 f3 x3
theorem JJ{h0:af}(hl0:h0.low<=h0.next){l:List (List Int)}{n N lc:Nat}{la:Option Addr}{lh:List Hd}(gl:jX nC 1 h0 la N lh l)(n4:n<=4)(N64:N<=64){W many size NL:Int}(eN:NL=N)(m1:arith .mul .i64 W many=size)(s0:0<size)(s1:size<=829440000)(hr:∀x,x∈l->x.length=n/\∀j:Nat,j<n->0<=gt x (j:Int)/\gt x (j:Int)<size){c1:List Value}{Q:Exit->SS->Prop}
  (hQ:∀h' a c hd,zr h0 h' a N c hd (l.map (AB size))->Q (.exit 0) ⟨[(11,.slice a N c)],1,[(0,c1)],h'⟩) :
  ∀(d i:Nat) (I:Int) (h:af) (a:Option Addr) (c:Nat) (hd:List Hd),N-i<=d->i<=N->I=i->zr h0 h a i c hd ((l.take i).map (AB size))->
   head 21 12 1 ⟨[(4,.int .i64 many),(8,.int .i64 W),(11,.slice a i c),(48,.slice la N lc),(49,.int .i64 NL),(50,.int .i64 I)],1,[(0,c1)],h⟩ Q:=by
 intro d;have ln:=gl.len
 induction d with
 |zero=>
  intro i I h a c hd hd' hi eI t;refine hA.roundR Try.func21 r21_ok (zc ?_);refine br (I<NL) (by rw[au hA]) (fun q=>by omega) (fun _=>?_)<;>refine zc ?_;obtain rfl:i=N:=by omega
  rw[List.take_of_length_le (by omega)]at t;exact hQ h a c hd t
 |succ d ih=>
 intro i I h a c hd hd' hi eI t;by_cases ci:i<N
 rotate_left
 ·refine hA.roundR Try.func21 r21_ok (zc ?_)
  refine br (I<NL) (by rw[au hA]) (fun q=>by omega) (fun _=>?_)<;>refine zc ?_;obtain rfl:i=N:=by omega
  rw[List.take_of_length_le (by omega)]at t;exact hQ h a c hd t
 have hlow:=t.ext.lowOK hl0;have gl':=gl.ext t.ext;obtain⟨lb,lo,rfl,hlb,q1⟩:=gl'.hdAt (i:=I) (by omega) (by omega);obtain⟨ra,era⟩:∃z,z=(gt lh I).a:=⟨_,rfl⟩;obtain⟨rc,erc⟩:∃z,z=(gt lh I).c:=⟨_,rfl⟩;have row:=gl'.row I (by omega) (by omega);obtain⟨x,ex⟩:∃z,z=gt l I:=⟨_,rfl⟩;have xm:x∈l:=by
  rw[ex];unfold gt;rw[List.getD_eq_getElem?_getD,List.getElem?_eq_getElem (by omega)];exact List.getElem_mem _
 obtain⟨xl,xr⟩:=hr x xm;have rl:=row.len;rw[<-ex,xl]at rl;rw[<-ex,<-era,<-rl]at row;rw[<-era,<-erc,<-rl]at q1;have r1:rd h lb (place lo I 1) 1 [.slice ra n rc]:=az hA q1;obtain⟨NI,eNI⟩:∃z:Int,z=n:=⟨_,rfl⟩;have e0:ofNat n=NI:=by rw[eNI];exact aF hA n
 have et:(l.take (i+1)).map (AB size)=(l.take i).map (AB size)++[AB size x]:=by
  rw[tQ l eI (by omega),List.map_append,<-ex];rfl
 refine hA.roundR Try.func21 r21_ok (zc ?_);refine br (I<NL) (by rw[au hA]) (fun _=>?_) (fun q=>by omega)<;>refine zc ?_
 (refine zq ?_;repeat ((first|rw[e0]);refine zq ?_))
 refine KP hA hlow row n4 eNI m1 s0 s1 xr (fun h2 a2 c2 t2 f2 x2=>?_) n 0 0 h none 0 (by omega) (by omega) rfl (.nil _ _) (.none _) (.refl h);have lo2:=t.more x2;have hn:=t.apd.lt;have hN:=x2.next;refine zq ?_;refine sN hA TLF dF (by omega) uL (v:=(⟨a2,n,c2⟩:Hd)) lo2.apd (by omega) (fun b' h3 a' x' n' nb' k'=>?_);have t3:=lo2.add (k:=⟨a2,n,c2⟩) (r:=AB size x) (by
   refine⟨t2.cells,jQ,by omega⟩) (fun ad had bd hbd=>by have:=f2 bd hbd;have:=hn ad had;omega) a' (x' h0 lo2.ext lo2.fr) n' nb' k'
 rw[<-et]at t3;generalize ar 1 (i+1)=cc at *;obtain⟨i1,ei1⟩:∃z,z=i+1:=⟨_,rfl⟩;rw[<-ei1]at t3 ⊢;refine zq ?_;rw[aB hA (by omega) (by omega)];exact ih i1 (I+1) h3 _ cc _ (by omega) (by omega) (by omega) t3
theorem JC (hI : ph F) {h : af} (hlow : h.low ≤ h.next) {m ac k bc : Nat} {aa ba : Option Addr} {bY : List Hd} {g : List (List Int)} {B : List Fc} (hg : vv nC 1 h aa m bY g) (hB : Rows fC 2 h ba k B) (hi : ∀ i : Int, 0 ≤ i → i < k → i64 (gt B i).n ∧ i64 (gt B i).d) {Q : Value → af → Prop} 
   (hQ0 : ∀ e h', hO g B e → e ≠ 0 → Ext h h' → Q (.tuple #[.slice none 0 0, .int .i64 e]) h')
   (hQ1 : ∀ e h' n, hO g B 0 → kT g m n → sf g B m n e → Ext h h' → Q (.tuple #[.slice none 0 0, .int .i64 e]) h')
   (hQ2 : ∀ hs h' n N c a hd L, hO g B 0 → kT g m n → qM g B m n L → Ext h hs → zr hs h' a N c hd L → Q (.tuple #[.slice a N c, .int .i64 0]) h')
   : call 21 [.agg #[.slice aa m ac, .slice ba k bc]] h Q := by
  refine hA.bodyR Try.func21 r21_ok (hA.alike _ _ _ rfl) hlow (zc ?_)
  refine zq ?_
  refine Fd hA hI hlow hg hB hi (fun e h1 he ne x1 => ⟨_, _, _, rfl, ?_⟩) (fun h1 n he hM nr x1 => ⟨_, _, _, rfl, ?_⟩) (fun h1 n r c f he hM hR ir ec ef x1 => ⟨_, _, _, rfl, ?_⟩)
  · refine zq ?_
    rw [show cmp .neq e 0 = true by rw [bL hA]; simp [ne]]
    refine zq ?_
    exact hQ0 e h1 he ne x1
  · refine zq ?_
    rw [show cmp .neq 6 0 = true by rw [bL hA]; rfl]
    refine zq ?_
    exact hQ1 6 h1 n he hM (.inl ⟨nr, rfl⟩) x1
  · refine zq ?_
    rw [show cmp .neq 0 0 = false by rw [bL hA]; rfl]
    refine zq ?_
    refine br (f > 0) (by rw [dc hA]) (fun cf => ?_) (fun cf => ?_) <;> refine zc ?_
    · refine zq ?_
      exact hQ1 24 h1 n he hM (.inr ⟨hR, r, ir, .inl ⟨by omega, rfl⟩⟩) x1
    obtain rfl : n = r := by have := ir.ln; omega
    refine zq ?_
    refine br (c > 64) (by rw [dc hA]) (fun cc => ?_) (fun cc => ?_) <;> refine zc ?_
    · refine zq ?_
      exact hQ1 4 h1 n he hM (.inr ⟨hR, n, ir, .inr ⟨rfl, by omega, rfl⟩⟩) x1
    obtain ⟨gd, nm⟩ := he.good
    have hl1 := x1.lowOK hlow
    have hgr := hg.full (fun y y0 y1 => by rw [hM.row y y0 y1]; exact hM.n1)
    have hkm : k = m := by have := gd.len; have := hB.len; have := hg.len; omega
    subst hkm
    have ht : ∀ i : Int, 0 ≤ i → i < k → bQ (gt B i) ∧ (gt B i).d ≤ 60 := fun i i0 i1 => gd.turn i i0 (by have := hB.len; omega)
    have k4 := hM.m4
    refine zq ?_
    refine ww hA hl1 (hB.ext x1) k4 ht (fun W h2 pa pc w t x2 => ⟨_, _, _, _, rfl, ?_⟩)
    have hl2 := x2.lowOK hl1
    refine zq ?_
    refine y7 hA hI hl2 hM ((hgr.ext x1).ext x2) (fun h3 r s ra rc qa qc bs rb A st rw hd gd _ => ⟨_, _, _, _, _, _, rfl, ?_⟩)
    obtain rfl := (st.rank hM).uniq ir
    have tri := st.tri (B := B) w.pos
    have x3 := rw.ext
    have hl3 := x3.lowOK hl2
    have em : c = Ext.Mk A r := by rw [← st.dvMk hM]; exact ec
    refine zq ?_
    refine Fk hA hl3 (size := W * c) (⟨hM, st, w, ht, ⟨hd.apd.cells, dF, by omega⟩, ⟨_, rw⟩, ⟨(t.ext x3).cells, df, by omega⟩, em, by omega, rfl⟩ : Az h3 g B k r s A W c (W * c) ra pa bs) (fun h4 b N c4 hd4 l g4 pl sl x4 => ⟨_, _, _, rfl, ?_⟩)
    obtain ⟨NL, eNL⟩ : ∃ z : Int, z = N := ⟨_, rfl⟩
    have e0 : ofNat N = NL := by rw [eNL]; exact aF hA _
    have mp := m8 (A := A) r (fun i hi => st.diag hi)
    have wf := w.few k4
    have sp : 0 < W * c := Int.mul_pos w.pos (by omega)
    have s1 : W * c ≤ 12960000 * 64 := Int.mul_le_mul wf (by omega) (by omega) (by omega)
    obtain ⟨size, esz⟩ : ∃ z, z = W * c := ⟨_, rfl⟩
    have m1 : arith .mul .i64 W c = size := by rw [esz]; exact iq hA (by rw [← esz]; omega) (by rw [← esz]; omega)
    rw [← em, ← esz] at tri
    rw [← esz] at pl sp s1
    have run := Ext.qL tri r (Nat.le_refl r)
    have hr : ∀ x, x ∈ l → x.length = r ∧ ∀ j : Nat, j < r → 0 ≤ gt x (j : Int) ∧ gt x (j : Int) < size := fun x hx => by
      have := (run.1 x).1 (pl.mem_iff.1 hx)
      exact ⟨this.len, fun j hj => this.rng j (by omega) hj⟩
    have ag : qM g B k r (l.map (AB size)) := by
      have e1 : size = W * Ext.Mk A r := by rw [esz, em]
      rw [e1] at pl s1 ⊢
      exact qM.of hM st hR ir (by omega) w ht (by omega) pl sl
    have lN : N ≤ 64 := by
      have h1 := ag.len
      rw [List.length_map] at h1
      have := g4.len
      omega
    (refine zq ?_; repeat ((first | rw [e0]); refine zq ?_))
    refine JJ hA (x4.lowOK hl3) g4 hM.n4 lN eNL m1 sp (by omega) hr (fun h5 a5 c5 hd5 t5 => ?_) N 0 0 h4 none 0 [] (by omega) (by omega) rfl (zr.nil h4)
    refine zq ?_
    exact hQ2 h4 h5 r N c5 a5 hd5 _ he hM ag (((x1.trans x2).trans x3).trans x4) t5
theorem AK{h:af}(hlow:h.low<=h.next){a b:Option Addr}{n ca cb:Nat}{l:List Fc}(ha:Rows fC 2 h a n l)(hb:Rows fC 2 h b n l)(n100:n<=100000){Q:Exit->SS->Prop}(hQ:∀h' kn T,Ext h h'->Q (.exit 0) ⟨[],kn,T,h'⟩) :
  ∀(d i:Nat) (I:Int) (h1:af),n-i=d->i<=n->I=i->Ext h h1->head 74 4 0 ⟨[(0,.slice a n ca),(1,.slice b n cb),(5,.int .i64 I)],0,[],h1⟩ Q:=by
 intro d
 induction d with
 |zero=>
  intro i I h1 hd hi eI e;refine hA.roundR Try.func74 r74_ok (zc ?_);refine br (I<(n:Int)) (by rw[au hA,aF hA]) (fun q=>by omega) (fun _=>?_)<;>refine zc ?_;exact hQ h1 _ _ e
 |succ d ih=>
 intro i I h1 hd hi eI e;have x9:Ext h1 (bump h1 9):=aq hA _ _;obtain⟨ab,ao,e1,_,r1⟩:=(ha.ext (e.trans x9)).at (i:=I) (by omega) (by omega);obtain⟨bb,bo,e2,_,r2⟩:=(hb.ext (e.trans x9)).at (i:=I) (by omega) (by omega);subst e1 e2;obtain⟨xn,xd,hx⟩:∃x y,gt l I=⟨x,y⟩:=⟨_,_,rfl⟩;have r1:=r1 0 2 (by omega) (by omega);have r2:=r2 0 2 (by omega) (by omega);rw[hx]at r1 r2;have r1:rd (bump h1 9) ab (place ao I 2) 2 [.int .i64 xn,.int .i64 xd]:=az hA r1;have r2:rd (bump h1 9) bb (place bo I 2) 2 [.int .i64 xn,.int .i64 xd]:=az hA r2;refine hA.roundR Try.func74 r74_ok (zc ?_);refine br (I<(n:Int)) (by rw[au hA,aF hA]) (fun _=>?_) (fun q=>by omega)<;>refine zc ?_;refine zq ?_;obtain⟨r,hr1,hr2⟩:=eqF xn xd xn xd;obtain rfl:r=true:=hr2.2 ⟨rfl,rfl⟩;rw[qy hA];refine⟨Km,true,hr1,?_⟩;refine zc ?_;refine br False (by rw[cI hA];rfl) (fun q=>q.elim) (fun _=>?_)<;>refine zc ?_;rw[aB hA (by omega) (by omega)];exact ih (i+1) (I+1) _ (by omega) (by omega) (by omega) (e.trans x9)
theorem E7{h:af}(hlow:h.low<=h.next){a b:Option Addr}{n ca cb:Nat}{l:List Fc}(ha:Rows fC 2 h a n l)(hb:Rows fC 2 h b n l)(n100:n<=100000){Q:Value->af->Prop}(hQ:∀h',Ext h h'->Q (.bool true) h'):call 74 [.slice a n ca,.slice b n cb] h Q:=by
 refine hA.bodyR Try.func74 r74_ok (hA.alike _ _ _ rfl) hlow (zc ?_);refine br ((n:Int)≠n) (by rw[bL hA,aF hA]) (fun q=>absurd rfl q) (fun _=>?_)<;>refine zc ?_;refine AK hA hlow ha hb n100 (fun h' kn T e=>?_) n 0 0 h (by omega) (by omega) rfl (.refl h);refine zc ?_;exact hQ h' e
theorem Dz{h:af}(hlow:h.low<=h.next){a b:Option Addr}{n ca cb:Nat}{ha hb:List Hd}{g:List (List Fc)}(pa:jX fC 2 h a n ha g)(pb:jX fC 2 h b n hb g)(n100:n<=100000)(w100:∀y:Int,0<=y->y<n->(gt g y).length<=100000){Q:Exit->SS->Prop}(hQ:∀h' kn T,Ext h h'->Q (.exit 0) ⟨[],kn,T,h'⟩) :
  ∀(d i:Nat) (I:Int) (h1:af),n-i=d->i<=n->I=i->Ext h h1->head 51 4 0 ⟨[(0,.slice a n ca),(1,.slice b n cb),(5,.int .i64 I)],0,[],h1⟩ Q:=by
 intro d
 induction d with
 |zero=>
  intro i I h1 hd hi eI e;refine hA.roundR Try.func51 r51_ok (zc ?_);refine br (I<(n:Int)) (by rw[au hA,aF hA]) (fun q=>by omega) (fun _=>?_)<;>refine zc ?_;exact hQ h1 _ _ e
 |succ d ih=>
 intro i I h1 hd hi eI e;obtain⟨h9,hh9⟩:∃z,z=bump h1 10:=⟨_,rfl⟩;have x9:Ext h1 h9:=by rw[hh9];exact aq hA _ _
 have e9:=e.trans x9;have l9:=e9.lowOK hlow;obtain⟨ab,ao,e1,_,r1⟩:=(pa.ext e9).hd.at (i:=I) (by omega) (by omega);obtain⟨bb,bo,e2,_,r2⟩:=(pb.ext e9).hd.at (i:=I) (by omega) (by omega);subst e1 e2;obtain⟨ra,rn,rc,hx⟩:∃x y z,gt ha I=⟨x,y,z⟩:=⟨_,_,_,rfl⟩;obtain⟨sa,sn,sc,hy⟩:∃x y z,gt hb I=⟨x,y,z⟩:=⟨_,_,_,rfl⟩;have qa:=(pa.ext e9).row I (by omega) (by omega);have qb:=(pb.ext e9).row I (by omega) (by omega);rw[hx]at qa;rw[hy]at qb;have qa:Rows fC 2 h9 ra rn (gt g I):=qa;have qb:Rows fC 2 h9 sa sn (gt g I):=qb;obtain rfl:rn=sn:=by rw[<-qa.len,<-qb.len]
 have wl:=w100 I (by omega) (by omega);have ql:=qa.len;have r1:=r1 0 1 (by omega) (by omega);have r2:=r2 0 1 (by omega) (by omega);rw[hx]at r1;rw[hy]at r2;have r1:rd h9 ab (place ao I 1) 1 [.slice ra rn rc]:=az hA r1;have r2:rd h9 bb (place bo I 1) 1 [.slice sa rn sc]:=az hA r2;refine hA.roundR Try.func51 r51_ok (zc ?_);refine br (I<(n:Int)) (by rw[au hA,aF hA]) (fun _=>?_) (fun q=>by omega)<;>refine zc ?_;rw[<-hh9];refine zq ?_;refine E7 hA (aw hA h9) (qa.ext (fN hA h9)) (qb.ext (fN hA h9)) (by omega) (fun hz ez=>⟨_,rfl,?_⟩);obtain⟨hX,hhX⟩:∃z,z=lowered h9 hz:=⟨_,rfl⟩;have eX:Ext h9 hX:=by rw[hhX];exact bP hA l9 (.refl h9) ez
 refine zc ?_;rw[<-hhX];refine br False (by rw[cI hA];rfl) (fun q=>q.elim) (fun _=>?_)<;>refine zc ?_;rw[aB hA (by omega) (by omega)];exact ih (i+1) (I+1) _ (by omega) (by omega) (by omega) (e9.trans eX)
theorem Ii{h:af}(hlow:h.low<=h.next){a b:Option Addr}{n ca cb:Nat}{ha hb:List Hd}{g:List (List Fc)}(pa:jX fC 2 h a n ha g)(pb:jX fC 2 h b n hb g)(n100:n<=100000)(w100:∀y:Int,0<=y->y<n->(gt g y).length<=100000){Q:Value->af->Prop}(hQ:∀h',Ext h h'->Q (.bool true) h'):call 51 [.slice a n ca,.slice b n cb] h Q:=by
 refine hA.bodyR Try.func51 r51_ok (hA.alike _ _ _ rfl) hlow (zc ?_);refine br ((n:Int)≠n) (by rw[bL hA,aF hA]) (fun q=>absurd rfl q) (fun _=>?_)<;>refine zc ?_;refine Dz hA hlow pa pb n100 w100 (fun h' kn T e=>?_) n 0 0 h (by omega) (by omega) rfl (.refl h);refine zc ?_;exact hQ h' e
theorem GP{h:af}(hlow:h.low<=h.next){a b:Option Addr}{n ca cb:Nat}{ha hb:List Hd}{g:List (List Fc)}(pa:jX fC 2 h a n ha g)(pb:jX fC 2 h b n hb g)(n100:n<=100000)(w100:∀y:Int,0<=y->y<n->(gt g y).length<=100000){Q:Value->af->Prop}(hQ:∀h',Ext h h'->Q (.bool true) h'):call 22 [.slice a n ca,.slice b n cb] h Q:=by
 refine hA.bodyR Try.func22 r22_ok (hA.alike _ _ _ rfl) hlow (zc ?_);refine zq ?_;refine Ii hA hlow pa pb n100 w100 (fun h' x=>⟨_,rfl,?_⟩);refine zq ?_;exact hQ h' x
theorem um{h:af}(hlow:h.low<=h.next){m n r ac k bc:Nat}{aa ba:Option Addr}{bY:List Hd}{g g':List (List Int)}{B':List Fc}(hc:hO g' B' 0)(hM:kT g' m n)(ir:kv g m n r)(e:∀k,k<=4->Ext.Dv g' m n k=Ext.Dv g m n k)(hg:jX nC 1 h aa m bY g')(hB:Rows fC 2 h ba k B')(hi:∀i:Int,0<=i->i<k->i64 (gt B' i).n/\i64 (gt B' i).d){Q:Value->af->Prop}
  (hQ:∀h' qa qc,Rows nC 1 h' qa r (vF g m n r)->Ext h h'->Q (.tuple #[.slice qa r qc,.int .i64 0]) h'):call 8 [.agg #[.slice aa m ac,.slice ba k bc]] h Q:=by
 refine oO hA hlow hg.weak hB hi (fun e' h' c' ne _=>absurd (hc.uniq c').symm ne) (fun h' n' r' qa qc c' hM' x' ir' t=>?_);obtain⟨_,rfl⟩:=hM.uniq hM';have ir2:=ir.of_dv hM.n4 hM.m4 e;obtain rfl:=ir2.uniq ir';rw[Bp (by have:=ir.lm;have:=hM.m4;omega) hM.m4 e ir]at t;exact hQ h' qa qc ⟨t.cells,df,by omega⟩ x'
theorem C4(hI:ph F){h:af}(hlow:h.low<=h.next){m n ac k bc:Nat}{aa ba:Option Addr}{bY:List Hd}{g:List (List Int)}{B:List Fc}(hc:hO g B 0)(hM:kT g m n)(hg:jX nC 1 h aa m bY g)(hB:Rows fC 2 h ba k B)(hi:∀i:Int,0<=i->i<k->i64 (gt B i).n/\i64 (gt B i).d){Q:Value->af->Prop}
  (hQ:∀e L hs h' N c a hd,te g B m n e L->Ext h hs->zr hs h' a N c hd L->Q (.tuple #[.slice a N c,.int .i64 e]) h'):call 21 [.agg #[.slice aa m ac,.slice ba k bc]] h Q:=by
 refine JC hA hI hlow hg.weak hB hi (fun e' h' c' ne _=>absurd (hc.uniq c').symm ne) (fun e' h' n' c' hM' ae x=>?_) (fun hs h' n' N c a hd L' c' hM' ag' x t=>?_)
 ·obtain⟨_,rfl⟩:=hM.uniq hM'
  exact hQ e' [] h' h' 0 0 none [] (.inr ⟨ae,rfl⟩) x (zr.nil h')
 ·obtain⟨_,rfl⟩:=hM.uniq hM'
  exact hQ 0 L' hs h' N c a hd (.inl ⟨rfl,ag'⟩) x t
theorem zA(hI:ph F){h:af}(hlow:h.low<=h.next){m n ac k bc:Nat}{aa ba:Option Addr}{bY:List Hd}{g:List (List Int)}{B:List Fc}{e:Int}{L:List (List Fc)}(hc:hO g B 0)(hM:kT g m n)(av:te g B m n e L)(hg:jX nC 1 h aa m bY g)(hB:Rows fC 2 h ba k B)(hi:∀i:Int,0<=i->i<k->i64 (gt B i).n/\i64 (gt B i).d){Q:Value->af->Prop}
  (hQ:∀hs h' N c a hd,Ext h hs->zr hs h' a N c hd L->Q (.tuple #[.slice a N c,.int .i64 e]) h'):call 21 [.agg #[.slice aa m ac,.slice ba k bc]] h Q:=by
 refine C4 hA hI hlow hc hM hg hB hi (fun e' L' hs h' N c a hd av' x t=>?_);obtain⟨rfl,rfl⟩:=av.uniq av';exact hQ hs h' N c a hd x t
theorem wa{h:af}(hlow:h.low<=h.next){g:List (List Int)}{B:List Fc}{m n:Nat}{e:Int}{L:List (List Fc)}(n4:n<=4)(av:te g B m n e L){hs hs' h1 h2:af}{a a':Option Addr}{N N' c c':Nat}{hd hd':List Hd}(t:zr hs h1 a N c hd L)(t':zr hs' h2 a' N' c' hd' L)(e1:Ext h1 h)(e2:Ext h2 h){Q:Value->af->Prop}(hQ:∀h',Ext h h'->Q (.bool true) h'):call 22 [.slice a N c,.slice a' N' c'] h Q:=by
 have l1:=t.gr.len;have l2:=t'.gr.len;obtain rfl:N=N':=by omega
 obtain⟨f1,f2⟩:=av.few n4;refine GP hA hlow (t.gr.ext e1) (t'.gr.ext e2) (by omega) (fun y y0 y1=>?_) hQ;have hm:gt L y∈L:=by
  unfold gt;rw[List.getD_eq_getElem?_getD,List.getElem?_eq_getElem (by omega)];exact List.getElem_mem _
 have:=f2 _ hm;omega
