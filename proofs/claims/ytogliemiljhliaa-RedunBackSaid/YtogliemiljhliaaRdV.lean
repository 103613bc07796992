import Derived.Test.YtogliemiljhliaaRdT
set_option linter.unusedSimpArgs false
set_option linter.unusedVariables false
namespace Go.Proofs.Ytogliemiljhliaa
open Go.Sim Ext
set_option maxRecDepth 100000
theorem vn_list{α:Type}[Inhabited α](L:List α)(f:α->Int):∀k,k<=L.length->vn k (fun r=>f (gt L (r:Int)))=((L.take k).map (fun x=>(f x).natAbs)).sum
 |0,_=>rfl
 |k+1,h=>by
  show vn k (fun r=>f (gt L (r:Int)))+(f (gt L (k:Int))).natAbs=_;rw[vn_list L f k (by omega)];have:=gt_take L (i:=(k:Int)) (by omega) (by omega);rw[show((k:Int)+1).toNat=k+1 by omega,show((k:Int)).toNat=k from rfl]at this;rw[this,List.map_append,List.sum_append];simp
theorem vn_le{m:Nat}{u v:Ext.Vec}(h:∀r,r<m->(u r).natAbs<=(v r).natAbs):vn m u<=vn m v:=by
 induction m with
 |zero=>exact Nat.le_refl _
 |succ m ih=>
  have:=ih (fun r hr=>h r (by omega));have:=h m (by omega);show vn m u+(u m).natAbs<=vn m v+(v m).natAbs;omega
theorem vn_all{m K:Nat}{v:Ext.Vec}(h:∀r,r<m->(v r).natAbs<=K):vn m v<=m*K:=by
 induction m with
 |zero=>exact Nat.zero_le _
 |succ m ih=>
  have:=ih (fun r hr=>h r (by omega));have:=h m (by omega);show vn m v+(v m).natAbs<=(m+1)*K;rw[Nat.add_mul,Nat.one_mul];omega
theorem sum_le{α:Type}{L:List α}{f g:α->Nat}(h:∀x,x∈L->f x<=g x):(L.map f).sum<=(L.map g).sum:=by
 induction L with
 |nil=>exact Nat.le_refl _
 |cons a L ih=>
  rw[List.map_cons,List.map_cons,List.sum_cons,List.sum_cons];have:=ih (fun x hx=>h x (List.mem_cons_of_mem _ hx));have:=h a List.mem_cons_self;omega
theorem station_few(n:Nat)(h2:2<=n)(h5:n<=5)(j:Int):((pairsL n).map (fun p=>if p.i=j\/p.j=j then 1 else 0)).sum<=4:=by
 by_cases c:0<=j/\j<5
 ·have hj:j=0\/j=1\/j=2\/j=3\/j=4:=by omega
  have hn:n=2\/n=3\/n=4\/n=5:=by omega
  rcases hn with rfl|rfl|rfl|rfl<;>rcases hj with rfl|rfl|rfl|rfl|rfl<;>decide
 ·have:((pairsL n).map (fun p=>if p.i=j\/p.j=j then 1 else 0)).sum<=((pairsL n).map (fun p=>0)).sum:=sum_le (fun p hp=>by
   have:=mem_pairs.1 hp;rw[if_neg (by omega)];exact Nat.le_refl _)
  have z:∀L:List P2,(L.map (fun p=>0)).sum=0:=fun L=>by induction L with|nil=>rfl|cons a L ih=>rw[List.map_cons,List.sum_cons,ih]
  rw[z]at this;omega
theorem pairs2:pairsL (2:Nat)=[⟨0,1⟩]:=by decide
theorem pairs3:pairsL (3:Nat)=[⟨0,1⟩,⟨0,2⟩,⟨1,2⟩]:=by decide
theorem pairs4:pairsL (4:Nat)=[⟨0,1⟩,⟨0,2⟩,⟨0,3⟩,⟨1,2⟩,⟨1,3⟩,⟨2,3⟩]:=by decide
theorem pairs5:pairsL (5:Nat)=[⟨0,1⟩,⟨0,2⟩,⟨0,3⟩,⟨0,4⟩,⟨1,2⟩,⟨1,3⟩,⟨1,4⟩,⟨2,3⟩,⟨2,4⟩,⟨3,4⟩]:=by decide
theorem one2{a b:Int}{d:Int}(h:a<b):(if a=d then 1 else 0)+(if b=d then 1 else 0)<=1:=by split<;>split<;>omega
theorem one3{a b c d:Int}(h:a<b)(h':b<c):(if a=d then 1 else 0)+((if b=d then 1 else 0)+(if c=d then 1 else 0))<=1:=by split<;>split<;>split<;>omega
theorem one4{a b c e d:Int}(h:a<b)(h':b<c)(h2:c<e):(if a=d then 1 else 0)+((if b=d then 1 else 0)+((if c=d then 1 else 0)+(if e=d then 1 else 0)))<=1:=by split<;>split<;>split<;>split<;>omega
theorem one1(a d:Int):(if a=d then 1 else 0)<=1:=by split<;>omega
theorem class_few{l:List Int}(ln:Line l)(d:Int):((pairsL l.length).map (fun p=>if diffOf l p=d then 1 else 0)).sum<=4:=by
 have h2:=ln.n2;have h5:=ln.n5;have mono:=fun(i j:Int) (i0:0<=i) (ij:i<j) (hj:j<l.length)=>ln.mono i0 ij hj
 have hn:l.length=2\/l.length=3\/l.length=4\/l.length=5:=by omega
 unfold diffOf;rcases hn with e|e|e|e
 ·rw[e,pairs2]
  simp only[List.map_cons,List.map_nil,List.sum_cons,List.sum_nil];have:=one1 (gt l 1-gt l 0) d;omega
 ·rw[e,pairs3]
  simp only[List.map_cons,List.map_nil,List.sum_cons,List.sum_nil];have a1:=mono 0 1 (by omega) (by omega) (by omega);have a2:=mono 1 2 (by omega) (by omega) (by omega);have b1:=one2 (a:=gt l 1-gt l 0) (b:=gt l 2-gt l 0) (d:=d) (by omega);have b2:=one1 (gt l 2-gt l 1) d;omega
 ·rw[e,pairs4]
  simp only[List.map_cons,List.map_nil,List.sum_cons,List.sum_nil];have a1:=mono 0 1 (by omega) (by omega) (by omega);have a2:=mono 1 2 (by omega) (by omega) (by omega);have a3:=mono 2 3 (by omega) (by omega) (by omega);have b1:=one3 (a:=gt l 1-gt l 0) (b:=gt l 2-gt l 0) (c:=gt l 3-gt l 0) (d:=d) (by omega) (by omega);have b2:=one2 (a:=gt l 2-gt l 1) (b:=gt l 3-gt l 1) (d:=d) (by omega);have b3:=one1 (gt l 3-gt l 2) d;omega
 ·rw[e,pairs5]
  simp only[List.map_cons,List.map_nil,List.sum_cons,List.sum_nil];have a1:=mono 0 1 (by omega) (by omega) (by omega);have a2:=mono 1 2 (by omega) (by omega) (by omega);have a3:=mono 2 3 (by omega) (by omega) (by omega);have a4:=mono 3 4 (by omega) (by omega) (by omega);have b1:=one4 (a:=gt l 1-gt l 0) (b:=gt l 2-gt l 0) (c:=gt l 3-gt l 0) (e:=gt l 4-gt l 0) (d:=d) (by omega) (by omega) (by omega);have b2:=one3 (a:=gt l 2-gt l 1) (b:=gt l 3-gt l 1) (c:=gt l 4-gt l 1) (d:=d) (by omega) (by omega);have b3:=one2 (a:=gt l 3-gt l 2) (b:=gt l 4-gt l 2) (d:=d) (by omega);have b4:=one1 (gt l 4-gt l 3) d;omega
theorem rowF_gt{l:List Int}(ln:Line l){p:P2}(hp:p∈pairsL l.length){j:Int}(j0:0<=j)(j1:j<wid l):gt (rowF l p) j=if j=l.length+ixI (clsL l) (diffOf l p)then 1 else if j=p.j then -1 else if j=p.i then 1 else 0:=by
 obtain⟨h0,h1,h2⟩:=mem_pairs.1 hp;have dm:=diff_mem ln hp;obtain⟨i0,i1,i2⟩:=ixI_mem dm;have zl:(zrow (wid l)).length=wid l:=by unfold zrow;rw[List.length_replicate]
 have hwid:wid l=l.length+(clsL l).length:=rfl;unfold rowF;rw[gt_set _ (by omega) j0 (by rw[List.length_set,List.length_set,zl];omega),gt_set _ (by omega) j0 (by rw[List.length_set,zl];omega),gt_set _ (by omega) j0 (by rw[zl];omega)];have z:gt (zrow (wid l)) j=0:=by
  unfold gt zrow;rw[List.getD_eq_getElem?_getD,List.getElem?_replicate,if_pos (by omega)];rfl
 rw[z]
def colV(l right:List Int)(j:Nat):Ext.Vec:=fun r=>R0 l right r j
theorem R0_row{l right:List Int}(hr:right.length=(pairsL l.length).length)(ln:Line l){i j:Nat}(hi:i<(pairsL l.length).length)(hj:j<wid l):R0 l right i j=gt (rowF l (gt (pairsL l.length) (i:Int))) (j:Int):=by
 unfold R0;have ll:right.length=(rowsL l).length:=by rw[rowsL_len];exact hr
 rw[longs_gt ll (by omega) (by rw[rowsL_len];omega),rowsL_gt (by omega) (by omega)];have:=rowF_len l (gt (pairsL l.length) (i:Int));generalize rowF l (gt (pairsL l.length) (i:Int))=r at *;unfold gt;rw[List.getD_eq_getElem?_getD,List.getElem?_append_left (by rw[this];exact hj),List.getD_eq_getElem?_getD]
theorem R0_right{l right:List Int}(hr:right.length=(pairsL l.length).length){i:Nat}(hi:i<(pairsL l.length).length):R0 l right i (wid l)=gt right (i:Int):=by
 unfold R0;have ll:right.length=(rowsL l).length:=by rw[rowsL_len];exact hr
 rw[longs_gt ll (by omega) (by rw[rowsL_len];omega),rowsL_gt (by omega) (by omega)];have:=rowF_len l (gt (pairsL l.length) (i:Int));generalize rowF l (gt (pairsL l.length) (i:Int))=r at *;unfold gt;rw[List.getD_eq_getElem?_getD,List.getElem?_append_right (by rw[this];exact Nat.le_refl _),this,show((wid l:Nat):Int).toNat-wid l=0 from Nat.sub_self _];rfl
theorem col_few{l right:List Int}(hr:right.length=(pairsL l.length).length)(ln:Line l){j:Nat}(hj:j<wid l):vn (pairsL l.length).length (colV l right j)<=4:=by
 have e1:vn (pairsL l.length).length (colV l right j)<=vn (pairsL l.length).length (fun r=>gt (rowF l (gt (pairsL l.length) (r:Int))) (j:Int)):=vn_le (fun r hr'=>by unfold colV;rw[R0_row hr ln hr' hj];exact Nat.le_refl _);rw[vn_list (pairsL l.length) (fun p=>gt (rowF l p) (j:Int)) _ (Nat.le_refl _),List.take_length]at e1;refine Nat.le_trans e1 ?_;by_cases c:j<l.length
 ·refine Nat.le_trans (sum_le (g:=fun p=>if p.i=(j:Int)\/p.j=(j:Int)then 1 else 0) (fun p hp=>?_)) (station_few l.length ln.n2 ln.n5 j)
  obtain⟨i0,i1,i2⟩:=ixI_mem (diff_mem ln hp);rw[rowF_gt ln hp (by omega) (by omega),if_neg (by omega)];by_cases a:(j:Int)=p.j
  ·rw[if_pos a,if_pos (.inr a.symm)];decide
  ·rw[if_neg a]
   by_cases b:(j:Int)=p.i
   ·rw[if_pos b,if_pos (.inl b.symm)];decide
   ·rw[if_neg b,if_neg (by omega)];decide
 ·refine Nat.le_trans (sum_le (g:=fun p=>if diffOf l p=gt (clsL l) ((j:Int)-l.length)then 1 else 0) (fun p hp=>?_)) (class_few ln _)
  obtain⟨i0,i1,i2⟩:=ixI_mem (diff_mem ln hp);obtain⟨h0,h1,h2⟩:=mem_pairs.1 hp;rw[rowF_gt ln hp (by omega) (by omega)];by_cases a:(j:Int)=l.length+ixI (clsL l) (diffOf l p)
  ·rw[if_pos a,if_pos (by rw[show(j:Int)-l.length=ixI (clsL l) (diffOf l p) by omega];exact i2.symm)];decide
  ·rw[if_neg a,if_neg (by omega),if_neg (by omega)];exact Nat.zero_le _
theorem right_few{l right:List Int}(hr:right.length=(pairsL l.length).length)(ln:Line l)(hb:∀i:Int,0<=i->i<right.length->(gt right i).natAbs<=99):vn (pairsL l.length).length (colV l right (wid l))<=990:=by
 have hm:=pairs_few ln.n5;refine Nat.le_trans (vn_all (K:=99) (fun r hr'=>?_)) (by omega);unfold colV;rw[R0_right hr hr'];exact hb _ (by omega) (by omega)
theorem line_fine{l right:List Int}(hr:right.length=(pairsL l.length).length)(ln:Line l)(hb:∀i:Int,0<=i->i<right.length->(gt right i).natAbs<=99)(c:Nat)(hc:c<=wid l):Fine (pairsL l.length).length (wid l) (run (pairsL l.length).length (S0 l right) c)/\(c<wid l->Exact (pairsL l.length).length (wid l) (run (pairsL l.length).length (S0 l right) c) c):=by
 have hm:=pairs_few ln.n5;have hA:∀j,j<wid l->vn (pairsL l.length).length (colV l right j)<=4:=fun j hj=>col_few hr ln hj
 have g0:Good (pairsL l.length).length (wid l) (colV l right) 4 (S0 l right) E 1:=Good.start (by omega);obtain⟨W,s,g⟩:=g0.run hA c hc;have hrf:=right_few hr ln hb;have few:=run_few (m:=(pairsL l.length).length) (S:=S0 l right) (Nat.zero_le _) c;generalize hS:run (pairsL l.length).length (S0 l right) c=S at *;generalize hmm:(pairsL l.length).length=m at *;have p4:4 ^ m<=4 ^ 10:=Nat.pow_le_pow_right (by omega) hm;have p3:0<m->4 ^ (m-1)<=4 ^ 9:=fun h=>Nat.pow_le_pow_right (by omega) (by omega)
 have e10:(4:Nat) ^ 10=1048576:=by decide
 have e9:(4:Nat) ^ 9=262144:=by decide
 refine⟨⟨g.lead,by have:=g.leadS;omega,few,fun i j hi hj=>?_⟩,fun hc' k i hk hkm hp=>?_⟩
 ·have q3:=p3 (by omega)
  by_cases c:j=wid l
  ·have h1:=g.small hi hj (L:=990) (by rw[c];exact hrf)
   have:990*4 ^ (m-1)<=990*262144:=Nat.mul_le_mul_left _ (by omega);omega
  ·have h1:=g.small hi hj (hA j (by omega))
   have:4*4 ^ (m-1)<=4*262144:=Nat.mul_le_mul_left _ (by omega);omega
 ·obtain⟨h1,h2,h3,_⟩:=pick_some hp
  obtain⟨s',g'⟩:=g.swap hkm (b:=i) (by omega);have hv:swp S.R k i k c=S.R i c:=by unfold swp sw;rw[if_pos rfl]
  intro y x hy hx hne;exact(g'.clear hA hkm hc' (by simp only;rw[hv];exact h3)).2 y x hy hx hne
theorem line_okay{l right:List Int}(hr:right.length=(pairsL l.length).length)(ln:Line l)(hb:∀i:Int,0<=i->i<right.length->(gt right i).natAbs<=99):Okay l right:=fun c hc=>by
 have f:=(line_fine hr ln hb c hc).1;exact⟨f.lead,f.leadB,f.few,f.small⟩
theorem zrow_small(n:Nat):∀i:Int,0<=i->i<(zrow n).length->(gt (zrow n) i).natAbs<=99:=fun i i0 i1=>by
 unfold zrow at *;rw[List.length_replicate]at i1;unfold gt;rw[List.getD_eq_getElem?_getD,List.getElem?_replicate,if_pos (by omega)];decide
theorem zrow_len(n:Nat):(zrow n).length=n:=by unfold zrow;rw[List.length_replicate]
