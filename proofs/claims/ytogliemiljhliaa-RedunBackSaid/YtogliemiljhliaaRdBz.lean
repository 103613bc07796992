import Derived.Test.YtogliemiljhliaaRdBw
import Derived.Test.YtogliemiljhliaaRdBv
import Derived.Test.YtogliemiljhliaaRdSc
import Derived.Test.YtogliemiljhliaaRdXc
set_option linter.unusedSimpArgs false
set_option linter.unusedVariables false
namespace Go.Proofs.Ytogliemiljhliaa
open Go.Sim Ext
set_option maxRecDepth 100000
theorem lst_app{α:Type}(f:Nat->α)(n:Nat):∀m,lst f (n+m)=lst f n++lst (fun j=>f (n+j)) m
 |0=>by show lst f n=lst f n++[];rw[List.append_nil]
 |m+1=>by rw[<-Nat.add_assoc,lst_succ,lst_app f n m,lst_succ,List.append_assoc]
theorem sol_at{l ph:List Int}(ech:Ech (pairsL l.length).length (SE l ph) (wid l))(fi:Fine (pairsL l.length).length (wid l) (SE l ph)){i:Int}(i0:0<=i)(i1:i<wid l):isF (gt (solL l ph) i).n (gt (solL l ph) i).d (rq (xV (SE l ph) (wid l) i.toNat) (SE l ph).lead):=by
 have e:gt (solL l ph) i=fr (xV (SE l ph) (wid l) i.toNat) (SE l ph).lead:=by
  unfold solL;rw[lst_gtI _ i0 i1,fill_x ech _ (Nat.le_refl _)];rfl
 rw[e];exact fr_is (by have:=xV_small ech fi i.toNat;omega) (by have:=fi.leadB;omega) ech.lead
theorem gt_takeI{α:Type}[Inhabited α](l:List α){n:Nat}{i:Int}(i0:0<=i)(i1:i<n):gt (l.take n) i=gt l i:=by
 unfold gt;rw[List.getD_eq_getElem?_getD,List.getD_eq_getElem?_getD,List.getElem?_take,if_pos (by omega)]
theorem gt_dropI{α:Type}[Inhabited α](l:List α){n:Nat}{i:Int}(i0:0<=i):gt (l.drop n) i=gt l (n+i):=by
 unfold gt;rw[List.getD_eq_getElem?_getD,List.getD_eq_getElem?_getD,List.getElem?_drop,show((n:Int)+i).toNat=n+i.toNat by omega]
variable{F:Prims}{call a0 b0 d0 e0 bnot f0 g0 l0 m0 n0 o0 p0 q0 r0 nz s0 rd wr t0 next u0 v0 w0 x0 y0 z0 a1 b1 e1 f1 g1 l1 m1 n1 p1 t1 u1 w1 lt ne y1 a2 b2 yn d2 f2 g2 i2 j2 k2:_}(hA:AP F ⟨call,a0,b0,d0,e0,bnot,f0,g0,l0,m0,n0,o0,p0,q0,r0,nz,s0,rd,wr,t0,next,u0,v0,w0,x0,y0,z0,a1,b1,e1,f1,g1,l1,m1,n1,p1,t1,u1,w1,lt,ne,y1,a2,b2,yn,d2,f2,g2,i2,j2,k2⟩)
include hA
set_option maxHeartbeats 1000000 in
theorem lback_ok(hF:∀h,F 23 [] h=some (.bool true,h)){h:AHeap}(hlow:h.low<=h.next){a:Option Addr}{N c:Nat}{l:List Int}(hl:Is h a N l){ag:Option Addr}{G cg:Nat}{g:List Fc}(hg:Rows fC 2 h ag G g)(ig:inI g){aq:Option Addr}{S cs:Nat}{s:List Fc}(hs:Rows fC 2 h aq S s)(is':inI s){Q:Value->AHeap->Prop}
  (hQ:∀h',Ext h h'->Q (.bool true) h'):call 9 [.slice a N c,.slice ag G cg,.slice aq S cs] h Q:=by
 have lN:=hl.len;have lG:=hg.len;have lS:=hs.len;refine hA.bodyR Try.func9 r9_ok (hA.alike _ _ _ rfl) hlow (zc ?_);refine hA.prim (hF h) ⟨_,rfl,?_⟩;refine zc ?_;refine rchk_ok hA hlow hl (fun e h1 k1 x1=>⟨_,rfl,?_⟩);refine zc ?_;refine br (e≠0) (by rw[e_neq hA]) (fun c1=>?_) (fun c1=>?_)<;>refine zc ?_
 ·exact hQ h1 x1
 have ln:=k1.zero (Decidable.of_not_not c1);refine br ((G:Int)≠N) (by rw[e_neq hA,e_ofNat hA,e_ofNat hA]) (fun c2=>?_) (fun c2=>?_)<;>refine zc ?_
 ·exact hQ h1 x1
 refine br (20<(S:Int)) (by rw[e_gtr hA,e_ofNat hA]) (fun c3=>?_) (fun c3=>?_)<;>refine zc ?_
 ·exact hQ h1 x1
 rw[show bnot true=false by rw[e_bnot hA];rfl];refine zc ?_;have n5:=ln.n5;have bad:∀{e:Int},CheckL l e->e=0:=fun c=>c.uniq ln.chk
 refine gpred_ok hA (x1.lowOK hlow) (hl.ext x1) (hg.ext x1) ig (by omega) (hs.ext x1) is' (by omega) (fun e2 h2 ap K cp P p2 rp x2=>⟨_,_,_,_,rfl,?_⟩);have y2:=x1.trans x2;refine zc ?_;refine br (e2≠0) (by rw[e_neq hA]) (fun c4=>?_) (fun c4=>?_)<;>refine zc ?_
 ·have e22:e2=2:=by
   rcases p2 with ⟨q,w,_⟩|⟨_,_,q,_⟩|⟨_,_,q,_⟩
   ·exact absurd (bad q) w
   ·exact q
   ·exact absurd q c4
  rw[e_eql hA,show decide (e2=2)=true by simp[e22]];exact hQ h2 y2
 have e20:e2=0:=Decidable.of_not_not c4;obtain⟨pok,rfl⟩:predOk l g s/\P=predL l g s:=by
  rcases p2 with ⟨_,w,_⟩|⟨_,_,q,_⟩|⟨_,q,_,r⟩
  ·exact absurd e20 w
  ·omega
  ·exact⟨q,r⟩
 have lP:=rp.len;rw[predL_len]at lP;have hm:=pairs_few ln.n5;refine bkp_loop hA (y2.lowOK hlow) rp (by omega) (fun h3 x3 e' kn T=>?_) (fun h3 a3 c3' hw p3 f3 x3=>?_) K 0 0 h2 none 0 (by omega) (by omega) (by omega) rfl (fun j j0 j1=>by omega) (by exact Apd.nil _ _) (From.none _) (.refl h2)
 ·refine zc ?_
  exact hQ h3 (y2.trans x3)
 have y3:=y2.trans x3;obtain⟨ph,hph⟩:∃ph,ph=(predL l g s).map Fc.n:=⟨_,rfl⟩;rw[<-hph]at p3;have r3:Is h3 a3 K ph:=⟨p3.cells,iC_len,by omega⟩;have phl:ph.length=(pairsL l.length).length:=by rw[hph,List.length_map,predL_len]
 have phg:∀i:Int,0<=i->i<K->gt ph i=(gt (predL l g s) i).n:=fun i i0 i1=>by rw[hph,gt_map Fc.n _ i0 (by rw[predL_len];omega)]
 have pso:phsOk l ph:=⟨phl,fun i i0 i1=>by
  have w:=hw i i0 (by omega);rw[phg i i0 (by omega)];exact w.2⟩
 refine zc ?_;refine rph_ok hA (y3.lowOK hlow) (hl.ext y3) ln r3 (by omega) (fun r hr=>⟨_,rfl,?_⟩);obtain rfl:r=true:=hr.2 pso;refine zc ?_;refine br False (by rw[e_bnot hA];rfl) (fun q=>q.elim) (fun _=>?_)<;>refine zc ?_;have eqn:∀r:Nat,r<(pairsL l.length).length->predQ l g s (gt (pairsL l.length) (r:Int))=((gt ph (r:Int):Int):Rat):=fun r hr'=>by
  have w:=hw (r:Int) (by omega) (by omega);have ge:gt (predL l g s) (r:Int)=asF (predQ l g s (gt (pairsL l.length) (r:Int))):=by unfold predL;rw[gt_map _ _ (by omega) (by omega)];rfl
  rw[phg (r:Int) (by omega) (by omega),ge];rw[ge]at w;have d1:((predQ l g s (gt (pairsL l.length) (r:Int))).den:Int)=1:=w.1;exact Rat.ext rfl (by show(predQ l g s (gt (pairsL l.length) (r:Int))).den=1;omega)
 obtain⟨sv,ofit,bq⟩:=back_ok ln phl (fun i i0 i1=>by have:=pso.2 i i0 i1;unfold phOk at this;omega) pok eqn;refine gsolve_ok hA (y3.lowOK hlow) (hl.ext y3) r3 (by omega) (fun e5 h5 ax kx cx ay ky cy X Y s5 rx ry x5=>⟨_,_,_,_,_,_,_,rfl,?_⟩);obtain⟨rfl,rfl,rfl⟩:e5=0/\X=(solL l ph).take l.length/\Y=(solL l ph).drop l.length:=by
  rcases s5 with ⟨q,w,_⟩|⟨_,q,_⟩|⟨_,_,q,_⟩|⟨_,_,_,q,r,t⟩
  ·exact absurd (bad q) w
  ·exact absurd pso q
  ·exact absurd sv q
  ·exact⟨q,r,t⟩
 have y5:=y3.trans x5;refine zc ?_;refine gbas_ok hA (y5.lowOK hlow) (hl.ext y5) (fun e6 h6 ab kb cb hsb q6 rb b6 x6=>⟨_,_,_,_,rfl,?_⟩);obtain rfl:=bad q6;have y6:=y5.trans x6;have rb:GrR fC 2 h6 ab kb hsb (basL l):=rb;have ls:(solL l ph).length=wid l:=by unfold solL;rw[lst_len]
 have wdef:wid l=l.length+(clsL l).length:=rfl;have lx:=rx.len;have ly:=ry.len;rw[List.length_take,ls]at lx;rw[List.length_drop,ls]at ly;obtain⟨o1,o2,o3,o4⟩:=pok;refine zc ?_;refine br False (by rw[e_neq hA];rfl) (fun q=>q.elim) (fun _=>?_)<;>refine zc ?_;refine br False (by rw[e_neq hA];rfl) (fun q=>q.elim) (fun _=>?_)<;>refine zc ?_;refine br ((kx:Int)≠N) (by rw[e_neq hA,e_ofNat hA,e_ofNat hA]) (fun q=>by omega) (fun _=>?_)<;>refine zc ?_;refine br ((ky:Int)≠S) (by rw[e_neq hA,e_ofNat hA,e_ofNat hA]) (fun q=>by omega) (fun _=>?_)<;>refine zc ?_;obtain⟨ech,fi,_⟩:=line_end phl ln (fun i i0 i1=>by have:=pso.2 i i0 i1;unfold phOk at this;omega);obtain rfl:kx=G:=by omega
 obtain rfl:ky=S:=by omega
 refine bko_loop hA (y6.lowOK hlow) (hg.ext y6) (rx.ext x6) (by omega) (qu:=fun i=>vq (gt g i)) (qv:=fun i=>rq (xV (SE l ph) (wid l) i.toNat) (SE l ph).lead) (fun i i0 i1=>(o3 i i0 (by omega)).is) (fun i i0 i1=>by rw[gt_takeI _ i0 (by omega)];exact sol_at ech fi i0 (by omega)) (fun i i0 i1=>by have:=ofit i.toNat (by omega);unfold offQ uQ at this;rw[if_pos (by omega),show((i.toNat:Nat):Int)=i by omega]at this;exact this) (W:=lst (fun j=>asF (offQ l ph g s j)) kx) (lst_len _ _) (fun i i0 i1=>by rw[lst_gtI _ i0 i1];unfold offQ uQ;rw[if_pos (by omega),show((i.toNat:Nat):Int)=i by omega]) (k0:=0) (by omega) (L0:=[]) (fun h7 a7 n7 c7 e7 p7 f7 x7=>?_) kx 0 0 h6 none 0 (by omega) (by omega) (by omega) (by omega) (by exact Apd.nil _ _) (From.none _) (.refl h6);have y7:=y6.trans x7;refine zc ?_;refine bks_loop hA (y6.lowOK hlow) (hs.ext y6) (ry.ext x6) (by omega) (qu:=fun i=>vq (gt s i)) (qv:=fun i=>rq (xV (SE l ph) (wid l) (l.length+i.toNat)) (SE l ph).lead) (fun i i0 i1=>(o4 i i0 (by omega)).is) (fun i i0 i1=>by rw[gt_dropI _ i0];have:=sol_at ech fi (i:=(l.length:Int)+i) (by omega) (by omega);rw[show((l.length:Int)+i).toNat=l.length+i.toNat by omega]at this;exact this) (fun i i0 i1=>by have:=ofit (l.length+i.toNat) (by omega);unfold offQ uQ at this;rw[if_neg (by omega),show((l.length+i.toNat:Nat):Int)-l.length=i by omega]at this;exact this) (W:=lst (fun j=>asF (offQ l ph g s (l.length+j))) ky) (lst_len _ _) (fun i i0 i1=>by rw[lst_gtI _ i0 i1];unfold offQ uQ;rw[if_neg (by omega),show((l.length+i.toNat:Nat):Int)-l.length=i by omega]) (k0:=n7) (by omega) (L0:=[]++lst (fun j=>asF (offQ l ph g s j)) kx) (fun h8 a8 n8 c8 e8 p8 f8 x8=>?_) ky 0 n7 h7 a7 c7 (by omega) (by omega) (by omega) (by omega) (by simpa using p7) f7 x7;have y8:=y6.trans x8;refine zc ?_;obtain⟨echZ,_,_⟩:=line_end (zrow_len _) ln (zrow_small (pairsL l.length).length);rw[show SE l (zrow (pairsL l.length).length)=SZ l from rfl]at echZ;have ebas:=bas_eq echZ;have w50:=wid_few ln;have n8w:n8=wid l:=by omega
 have r8:Rows fC 2 h8 a8 n8 (lst (fun j=>asF (offQ l ph g s j)) n8):=by
  have e:[]++lst (fun j=>asF (offQ l ph g s j)) kx++lst (fun j=>asF (offQ l ph g s (l.length+j))) ky=lst (fun j=>asF (offQ l ph g s j)) n8:=by
   rw[show n8=l.length+ky by omega,lst_app,List.nil_append,show kx=l.length by omega]
  rw[e]at p8;exact⟨p8.cells,fC_len,by omega⟩
 have rb8:=rb.ext x8;refine bkl_loop hA rb8 (by omega) (fun r hr'=>by
  rw[ebas]at hr';obtain⟨c0,_,e⟩:=List.mem_map.1 hr';rw[<-e,lst_len];omega) ?_ kb 0 (by omega) (by omega) (by omega)
 refine zc ?_;rw[ebas]at rb8;subst n8w;refine spannedq_ok hA (y8.lowOK hlow) bq (by omega) rb8 r8 (fun h9 x9=>⟨_,rfl,?_⟩);have y9:=y8.trans x9;refine zc ?_;refine br False (by rw[e_bnot hA];rfl) (fun q=>q.elim) (fun _=>?_)<;>refine zc ?_;have x69:Ext h6 h9:=x8.trans x9;have ix:inI ((solL l ph).take l.length):=fun i i0 i1=>by
  rw[List.length_take,ls]at i1;rw[gt_takeI _ i0 (by omega)];have:=sol_at ech fi i0 (show i<wid l by omega);exact⟨this.i64n,this.i64d⟩
 have iy:inI ((solL l ph).drop l.length):=fun i i0 i1=>by
  rw[gt_dropI _ i0];rw[List.length_drop,ls]at i1;have:=sol_at ech fi (i:=(l.length:Int)+i) (by omega) (by omega);exact⟨this.i64n,this.i64d⟩
 refine small_ok31 hA (y9.lowOK hlow) (rx.ext (x6.trans x69)) ix (by omega) (fun r1 h10 hr1 x10=>⟨_,rfl,?_⟩);have y10:=y9.trans x10;refine zc ?_;refine br (r1=false) (by rw[e_bnot hA];cases r1<;>rfl) (fun c7=>?_) (fun c7=>?_)<;>refine zc ?_
 ·exact hQ h10 y10
 refine small_ok31 hA (y10.lowOK hlow) (ry.ext (x6.trans (x69.trans x10))) iy (by omega) (fun r2 h11 hr2 x11=>⟨_,rfl,?_⟩);have y11:=y10.trans x11;refine zc ?_;refine br (r2=false) (by rw[e_bnot hA];cases r2<;>rfl) (fun c8=>?_) (fun c8=>?_)<;>refine zc ?_
 ·exact hQ h11 y11
 have s1:smalls ((solL l ph).take l.length):=hr1.1 (by cases r1 with|true=>rfl|false=>exact absurd rfl c7);have s2:smalls ((solL l ph).drop l.length):=hr2.1 (by cases r2 with|true=>rfl|false=>exact absurd rfl c8);have pok2:predOk l ((solL l ph).take l.length) ((solL l ph).drop l.length):=⟨by rw[List.length_take,ls];omega,by rw[List.length_drop,ls];omega,s1,s2⟩;refine gpred_ok hA (y11.lowOK hlow) (hl.ext y11) (rx.ext (x6.trans (x69.trans (x10.trans x11)))) ix (by omega) (ry.ext (x6.trans (x69.trans (x10.trans x11)))) iy (by omega) (fun e12 h12 aq2 K2 cq2 P2 p12 rp2 x12=>⟨_,_,_,_,rfl,?_⟩);have y12:=y11.trans x12;obtain⟨rfl,rfl⟩:e12=0/\P2=predL l ((solL l ph).take l.length) ((solL l ph).drop l.length):=by
  rcases p12 with ⟨q,w,_⟩|⟨_,q,_⟩|⟨_,_,q,r⟩
  ·exact absurd (bad q) w
  ·exact absurd pok2 q
  ·exact⟨q,r⟩
 have same:predL l ((solL l ph).take l.length) ((solL l ph).drop l.length)=predL l g s:=by
  unfold predL;refine List.map_congr_left (fun p hp=>?_);obtain⟨i,i0,i1,e⟩:=mem_gt hp;obtain⟨h0,h1,h2⟩:=mem_pairs.1 hp;obtain⟨k0,k1,_⟩:=ixI_mem (diff_mem ln hp);obtain⟨z1,z2,z3,_,_⟩:=pred_at ln pok2 hp;have q1:=sol_at ech fi (i:=p.i) (by omega) (by omega);have q2:=sol_at ech fi (i:=p.j) (by omega) (by omega);have q3:=sol_at ech fi (i:=(l.length:Int)+ixI (clsL l) (diffOf l p)) (by omega) (by omega);have v1:=z1.is;have v2:=z2.is;have v3:=z3.is;rw[gt_takeI _ (by omega) (by omega)]at v1 v2;rw[gt_dropI _ k0]at v3;have se:=sol_eq phl ln sv (r:=i.toNat) (by omega) (p:=p) (by rw[show((i.toNat:Nat):Int)=i by omega];exact e);have eq:=eqn i.toNat (by omega);rw[show((i.toNat:Nat):Int)=i by omega]at eq se;rw[e]at eq;unfold predF;rw[eq]
  congr 1
  unfold predQ;rw[gt_takeI _ (by omega) (by omega),gt_takeI _ (by omega) (by omega),gt_dropI _ k0,v1.uniq q1,v2.uniq q2,v3.uniq q3];have lz:=cast_ne0 ech.lead;have sr:((xV (SE l ph) (wid l) p.i.toNat-xV (SE l ph) (wid l) p.j.toNat+xV (SE l ph) (wid l) (l.length+ixI (clsL l) (diffOf l p)).toNat:Int):Rat)=(SE l ph).lead*(gt ph i:Int):=by rw[se,Rat.intCast_mul]
  rw[Rat.intCast_add,Rat.intCast_sub]at sr;unfold rq;grind
 rw[same]at rp2;obtain rfl:K2=K:=by rw[<-rp2.len,<-rp.len]
 refine zc ?_;refine br True (by rw[e_eql hA];rfl) (fun _=>?_) (fun q=>absurd trivial q)<;>refine zc ?_;refine fracs_ok hA (y12.lowOK hlow) (rp.ext (x3.trans (x5.trans (x6.trans (x69.trans (x10.trans (x11.trans x12))))))) rp2 (by omega) (fun h13 x13=>⟨_,rfl,?_⟩);refine zc ?_;exact hQ h13 (y12.trans x13)
