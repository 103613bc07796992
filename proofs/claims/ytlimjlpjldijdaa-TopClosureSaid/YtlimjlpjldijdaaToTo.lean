import Derived.Test.YtlimjlpjldijdaaToAr
import Derived.Test.YtlimjlpjldijdaaCyPd
set_option linter.unusedSimpArgs false
set_option linter.unusedVariables false
namespace Go.Proofs.Ytlimjlpjldijdaa
open Go.Sim
set_option maxRecDepth 100000
def tl:List Vk:=[⟨0,1,0,1,1,0⟩,⟨0,2,1,0,1,0⟩,⟨1,2,1,0,1,0⟩]
def tm:List Vk:=[⟨0,1,1,0,1,0⟩,⟨0,2,1,0,1,0⟩,⟨1,2,0,1,1,0⟩]
theorem ok_one:okC 1 0 1:=⟨_,isC_one⟩
theorem ok_i:okC 0 1 1:=⟨_,isC_i⟩
theorem tl_v:∀v∈tl,okV v:=fun v hv=>by
 unfold tl at hv;simp only[List.mem_cons,List.not_mem_nil,or_false]at hv;rcases hv with rfl|rfl|rfl
 ·exact⟨by decide,by decide,by decide,by decide,ok_i⟩
 ·exact⟨by decide,by decide,by decide,by decide,ok_one⟩
 ·exact⟨by decide,by decide,by decide,by decide,ok_one⟩
theorem tl_ck:CkR tl 0:=.ok (by decide) tl_v (by decide)
theorem tl_bas:basP tl=[⟨0,1⟩,⟨0,2⟩,⟨1,2⟩]:=by decide
def tlT:List F2:=[⟨0,1⟩,⟨0,2⟩]
theorem tl_st{s:Int}(h:stS tl s):s∈[(0:Int),1,2]:=by
 obtain⟨v,hv,e⟩:=h;have:∀v∈tl,v.i∈[(0:Int),1,2]/\v.j∈[(0:Int),1,2]:=by decide
 rcases e with rfl|rfl
 ·exact(this v hv).1
 ·exact(this v hv).2
theorem tl_parts:Parts (basP tl) (stS tl) (fun _=>false) [] 0 tlT 1:=by
 rw[tl_bas];refine .part (s:=0) ⟨⟨0,1,0,1,1,0⟩,List.mem_cons_self ..,.inl rfl⟩ rfl (fun x hx hl=>?_) (.step (p:=⟨0,1⟩) (by decide) (.step (p:=⟨0,2⟩) (by decide) (.stop (by decide)))) (.stop (fun s hs=>?_))
 ·have:=tl_st hx
  have key:∀s∈[(0:Int),1,2],¬s<0:=by decide
  exact absurd hl (key x this)
 ·have key:∀s∈[(0:Int),1,2],addR (addR (setR (fun x=>false) 0) { n:=0,d:=1 }) { n:=0,d:=2 } s=true:=by decide
  exact key s (tl_st hs)
theorem tl_bass:BasO tl [[1,2,0]] 0:=by
 have:=AnsG.ok (f:=fun t _=>(chds t (basP tl)).map (circF t)) (z:=[]) tl_ck tl_parts;rw[tl_bas]at this;have e:([⟨1,2⟩]:List F2).map (circF tlT)=[[1,2,0]]:=by decide
 simp only[show chds tlT [⟨0,1⟩,⟨0,2⟩,⟨1,2⟩]=[⟨1,2⟩] by decide,e]at this;exact this
theorem tri_circ:circle [1,2,0]:=circ_dec (by decide) (by decide) (by decide) (by decide)
theorem tri_sps:sps [1,2,0]=[⟨1,2⟩,⟨2,0⟩,⟨0,1⟩]:=by decide
theorem tri_ph{l:List Vk}(ke:CkR l 0){a b c p:Ck}(h1:fv l 1 2=some a)(h2:fv l 2 0=some b)(h3:fv l 0 1=some c)(ha:¬a.nil)(hb:¬b.nil)(hc:¬c.nil)(h:trnF oneC [a,b,c]=some p):PhO l [1,2,0] p 0:=by
 have e:vsF l [1,2,0]=[a,b,c]:=by
  unfold vsF;rw[tri_sps];show [vis1 l ⟨1,2⟩,vis1 l ⟨2,0⟩,vis1 l ⟨0,1⟩]=_;unfold vis1;simp only[h1,h2,h3,Option.getD_some]
 refine .ok ke tri_circ (fun p hp=>?_) (fun v hv=>?_) (by rw[e];exact h)
 ·rw[tri_sps]at hp
  simp only[List.mem_cons,List.not_mem_nil,or_false]at hp;rcases hp with rfl|rfl|rfl
  ·simp only[h1];exact fun q=>by cases q
  ·simp only[h2];exact fun q=>by cases q
  ·simp only[h3];exact fun q=>by cases q
 ·rw[e]at hv
  simp only[List.mem_cons,List.not_mem_nil,or_false]at hv;rcases hv with rfl|rfl|rfl<;>assumption
theorem tl_ph:PhO tl [1,2,0] ⟨0,1,1⟩ 0:=tri_ph tl_ck (a:=⟨1,0,1⟩) (b:=⟨1,0,1⟩) (c:=⟨0,1,1⟩) (by rfl) (by rfl) (by rfl) (by decide) (by decide) (by decide) (by rfl)
theorem m_i1:isC 0 1 1 (Cq.mul ⟨0,1⟩ ⟨1,0⟩):=by
 rw[show Cq.mul ⟨0,1⟩ ⟨1,0⟩=⟨0,1⟩from Cq.ext (by show(0:Rat)*1-1*0=0;grind) (by show(0:Rat)*0+1*1=1;grind)];exact isC_i
theorem m_ini:isC 1 0 1 (Cq.mul ⟨0,1⟩ ⟨0,-1⟩):=by
 rw[show Cq.mul ⟨0,1⟩ ⟨0,-1⟩=⟨1,0⟩from Cq.ext (by show(0:Rat)*0-1 * -1=1;grind) (by show(0:Rat) * -1+1*0=0;grind)];exact isC_one
theorem tl_act{m:List Vk}{e:Int}(h:ActX skyT tl m e):e=0/\m=tm:=by
 have g:okG skyT:=⟨by decide,by decide,fun k hk=>by
  unfold skyT at hk;simp only[List.mem_cons,List.not_mem_nil,or_false]at hk;have o:oneC.ok/\¬oneC.nil:=⟨ok_one,by decide⟩;rcases hk with rfl|rfl|rfl|rfl|rfl|rfl|rfl|rfl
  ·exact o
  ·exact⟨ok_i,by decide⟩
  all_goals exact o⟩
 have mul1:∀{v:Vk},v∈tl->∀{r:Ck} {e:Int},mulO (gt skyT v.i) v.ck r e->e=0/\r=(if v.i=1 then⟨0,1,1⟩else v.ck):=fun {v} hv {r e} k=>by
  unfold tl at hv;simp only[List.mem_cons,List.not_mem_nil,or_false]at hv;rcases hv with rfl|rfl|rfl
  ·exact one_mulO k ok_i
  ·exact one_mulO k ok_one
  ·exact k.of (r:=⟨0,1,1⟩) isC_i isC_one m_i1
 have mul2:∀{v:Vk},v∈tl->∀{r:Ck} {e:Int},mulO (if v.i=1 then⟨0,1,1⟩else v.ck) (conjK (gt skyT v.j)) r e->e=0/\r=(if v.j=1 then oneC else if v.i=1 then⟨0,1,1⟩else oneC):=fun {v} hv {r e} k=>by
  unfold tl at hv;simp only[List.mem_cons,List.not_mem_nil,or_false]at hv;rcases hv with rfl|rfl|rfl
  ·exact k.of (r:=oneC) isC_i isC_ni m_ini
  ·exact one_mulO k ok_one
  ·exact k.of (r:=⟨0,1,1⟩) isC_i isC_one m_i1
 cases h with
 |gains h k=>exact absurd g k
 |many h k=>exact absurd k (by decide)
 |bad h hv k=>exact absurd (tl_v _ hv) k
 |fst h hv k=>exact absurd (mul1 hv k).1 h
 |snd h hv k0 k=>
  rw[(mul1 hv k0).2]at k;exact absurd (mul2 hv k).1 h
 |ok h len k at'=>
  refine⟨rfl,gt_extR len (fun j j0 j1=>?_)⟩;have hj:j<3:=by rw[len]at j1;exact j1
  obtain⟨a1,a2,a3,p,p1,p2⟩:=at' j j0 hj;have hv:=gt_mem tl j0 hj;rw[(mul1 hv p1).2]at p2;have q:=(mul2 hv p2).2;have ex:∀w:Vk,w=⟨w.i,w.j,w.ck.a,w.ck.b,w.ck.d,w.n⟩:=fun _=>rfl
  rw[ex (gt m j),q,a1,a2,a3];rcases(by omega:j=0\/j=1\/j=2)with rfl|rfl|rfl<;>rfl
theorem tm_ph(km:CkR tm 0):PhO tm [1,2,0] ⟨0,1,1⟩ 0:=tri_ph km (a:=⟨0,1,1⟩) (b:=⟨1,0,1⟩) (c:=⟨1,0,1⟩) (by rfl) (by rfl) (by rfl) (by decide) (by decide) (by decide) (by rfl)
end Go.Proofs.Ytlimjlpjldijdaa
namespace Go.Proofs.Ytlimjlpjldijdaa
open Go.Sim
set_option maxRecDepth 100000
def skyS:Sk:=⟨2,1,0,1,0,0,0,1⟩
variable{F:Prims}{call head arith cmp scmp bnot bsame conv neg imax imin ofNat slen place inR nz geZ rd wr push next mkOK nat zeros sadd eqAgg cut slc sslc strAt part app cpy putAt fresh lowered bump wrote addN lt ne fpAll fpApp brk yn rng mget mput mnew bytes clr mrng ment:_}(hA:AP F ⟨call,head,arith,cmp,scmp,bnot,bsame,conv,neg,imax,imin,ofNat,slen,place,inR,nz,geZ,rd,wr,push,next,mkOK,nat,zeros,sadd,eqAgg,cut,slc,sslc,strAt,part,app,cpy,putAt,fresh,lowered,bump,wrote,addN,lt,ne,fpAll,fpApp,brk,yn,rng,mget,mput,mnew,bytes,clr,mrng,ment⟩)
include hA
theorem alive35_ok(hW:LW F)(hF:∀args h,F 4 args h=none){h:AHeap}(hlow:h.low<=h.next){Q:Value->AHeap->Prop}(hQ:∀h',Ext h h'->Q (.bool true) h') :
  call 4 [] h Q:=by
 refine hA.bodyR Try.func4 r4_ok (hF _ _) hlow (zc ?_);simp only[e_next hA,e_push hA];change call _ _ (h.push 6 (tl.flatMap Vk.cells)) _;have L1:Vs (h.push 6 (tl.flatMap Vk.cells)) (some ⟨h.next,0,none⟩) 3 tl:=Own.rows (Own.push h 6 (tl.flatMap Vk.cells)) vk_len (by omega) (by show h.next<h.next+1;omega);have x1:=Ext.push h 6 (tl.flatMap Vk.cells);generalize h.push 6 (tl.flatMap Vk.cells)=h1 at *;obtain⟨b1,hb1⟩:∃z,z=h.next:=⟨_,rfl⟩;rw[<-hb1]at L1 ⊢;refine bas_a hA hW (x1.lowOK hlow) L1 (by omega) (fun g e h2 ga k gc hs bo rg sg lg x2=>⟨_,_,_,_,rfl,?_⟩);obtain⟨rfl,rfl⟩:=bo.uniq tl_bass;have y2:=x1.trans x2;refine zc ?_;simp only[e_next hA,e_push hA];have R3:Rows Hd.cells 1 (h2.push 1 [.slice (some ⟨b1,0,none⟩) 3 3]) (some ⟨h2.next,0,none⟩) 1 [⟨some ⟨b1,0,none⟩,3,3⟩]:=Own.rows (l:=[⟨some ⟨b1,0,none⟩,3,3⟩]) (enc:=Hd.cells) (Own.push h2 1 _) hd_len (by omega) (by show h2.next<h2.next+1;omega);have x3:=Ext.push h2 1 [Value.slice (some ⟨b1,0,none⟩) 3 3];generalize h2.push 1 [Value.slice (some ⟨b1,0,none⟩) 3 3]=h3 at *;have R4:Ss (h3.push 8 skyS.cells) (some ⟨h3.next,0,none⟩) 1 [skyS]:=Own.rows (l:=[skyS]) (enc:=Sk.cells) (Own.push h3 8 _) sk_len (by omega) (by show h3.next<h3.next+1;omega);have x4:=Ext.push h3 8 skyS.cells;change call _ _ (h3.push 8 skyS.cells) _;generalize h3.push 8 skyS.cells=h4 at *;have y4:=(y2.trans x3).trans x4;obtain⟨b2,hb2⟩:∃z,z=h2.next:=⟨_,rfl⟩;obtain⟨b3,hb3⟩:∃z,z=h3.next:=⟨_,rfl⟩;rw[<-hb2]at R3 ⊢;rw[<-hb3]at R4 ⊢;have sky:skyS.sky:=⟨rfl,rfl,rfl,rfl,rfl,rfl,rfl,rfl⟩;refine spoil_ok hA (y4.lowOK hlow) (L1.ext ((x2.trans x3).trans x4)) tl_ck (R3.ext x4) R4 (fun h5 e he ho x5=>?_) (fun h5 ra rc ma G m am ho hr hm x5=>⟨_,_,_,_,rfl,?_⟩)
 ·obtain⟨f,f0,fa⟩:=ho skyS rfl sky
  exact absurd (tl_act fa).1 f0
 have y5:=y4.trans x5;obtain rfl:=ho skyS rfl sky;obtain rfl:=(tl_act am).2;have km:=am.act.1.ck tl_ck;have x25:=((x3.trans x4).trans x5);refine zc ?_;refine br False (by rw[e_neq hA];rfl) (fun q=>q.elim) (fun _=>?_)<;>refine zc ?_;refine br False (by rw[e_neq hA];rfl) (fun q=>q.elim) (fun _=>?_)<;>refine zc ?_;refine br False (by rw[e_neq hA,e_ofNat hA];rfl) (fun q=>q.elim) (fun _=>?_)<;>refine zc ?_;simp only[e_next hA,e_push hA];have k1:k=1:=rg.len.symm;subst k1;have I6:=lit_ints h5 [1,2,0];have x6:=Ext.push h5 1 (([1,2,0]:List Int).flatMap iC);change call _ [_,.slice (some ⟨(h5.push 1 (([1,2,0]:List Int).flatMap iC)).next,0,none⟩) 1 1] ((h5.push 1 (([1,2,0]:List Int).flatMap iC)).push 1 _) _;generalize h5.push 1 (([1,2,0]:List Int).flatMap iC)=h6 at *;have G7:GrR iC 1 (h6.push 1 [.slice (some ⟨h5.next,0,none⟩) 3 3]) (some ⟨h6.next,0,none⟩) 1 [⟨some ⟨h5.next,0,none⟩,3,3⟩] [[1,2,0]]:=by
  refine⟨Own.rows (l:=[⟨some ⟨h5.next,0,none⟩,3,3⟩]) (enc:=Hd.cells) (Own.push h6 1 _) hd_len (by omega) (by show h6.next<h6.next+1;omega),rfl,fun y y0 y1=>?_⟩;obtain rfl:y=0:=by omega
  exact I6.ext (.push _ _ _)
 have x7:=Ext.push h6 1 [Value.slice (some ⟨h5.next,0,none⟩) 3 3];generalize h6.push 1 [Value.slice (some ⟨h5.next,0,none⟩) 3 3]=h7 at *;have y7:=(y5.trans x6).trans x7;have x27:=(x25.trans x6).trans x7;refine slists_ok hA (y7.lowOK hlow) (rg.ext x27) G7 (by omega) lg (fun h8 x8=>⟨_,rfl,?_⟩);have y8:=y7.trans x8;have x28:=x27.trans x8;refine zc ?_;refine br False (by rw[e_bnot hA];rfl) (fun q=>q.elim) (fun _=>?_)<;>refine zc ?_;have RG:∀h',Ext h2 h'->∃b o va vn vc,ga=some ⟨b,o,none⟩/\gt hs 0=⟨va,vn,vc⟩/\rd h' b (place o 0 1) 1 [.slice va vn vc]/\Rows iC 1 h' va vn [1,2,0]/\vn<=1000:=fun h' x=>by
  have g:=rg.ext x;obtain⟨b,o,rfl,_⟩:=g.some (by omega);refine⟨b,o,_,_,_,rfl,rfl,gr_head hA g (by omega) (by omega),g.row 0 (by omega) (by omega),?_⟩;have:=(g.row 0 (by omega) (by omega)).len;show(gt hs 0).n<=1000;rw[<-this];decide
 obtain⟨gb,go,va,vn,vc,rfl,hv,d8,r8,v8⟩:=RG h8 x28;have L8:=L1.ext (x2.trans x28);refine zq ?_;refine Phase_ok hA (y8.lowOK hlow) L8 (by omega) r8 v8 (fun h9 p e po x9=>⟨_,_,_,_,rfl,?_⟩);obtain⟨rfl,rfl⟩:=po.uniq tl_ph;have y9:=y8.trans x9;refine zc ?_;obtain⟨hB,hhB⟩:∃z,z=bump h9 13:=⟨_,rfl⟩;have eB:Ext h9 hB:=by rw[hhB];exact ext_bump hA _ _
 have x5B:=((((x6.trans x7).trans x8).trans x9).trans eB);obtain⟨rb,ro,rfl,_,wr⟩:=(hr.ext x5B).at (i:=0) (by omega) (by omega);have dr:rd hB rb (place ro 0 1) 1 [.slice ma 3 3]:=rd_ok hA (wr 0 1 (by omega) (by omega));obtain⟨_,_,_,_,_,ez,hv',dB,rB,_⟩:=RG hB ((x28.trans x9).trans eB);cases ez;rw[hv]at hv';cases hv';rw[<-hhB];refine zq ?_;have yB:=y9.trans eB;refine Phase_ok hA (low_fresh hA hB) (hm.ext (x5B.trans (ext_fresh hA hB))) (by omega) (rB.ext (ext_fresh hA hB)) v8 (fun hz p e po' xz=>⟨_,_,_,_,rfl,?_⟩);obtain⟨rfl,rfl⟩:=po'.uniq (tm_ph km);obtain⟨hX,hhX⟩:∃z,z=lowered hB hz:=⟨_,rfl⟩;have eX:Ext h hX:=by rw[hhX];exact ext_low hA hlow yB xz
 refine zc ?_;refine⟨wrote_no hA xz,?_⟩;refine brk_ok hA ?_;refine zc ?_;rw[<-hhX];refine br True (by rw[e_eql hA];rfl) (fun _=>?_) (fun q=>absurd trivial q)<;>refine zc ?_;refine br True (by rw[e_eql hA];rfl) (fun _=>?_) (fun q=>absurd trivial q)<;>refine zc ?_;obtain⟨rr,hr1,hr2⟩:=eqC 0 1 1 0 1 1;obtain rfl:rr=true:=hr2.2 ⟨rfl,rfl,rfl⟩;rw[e_eqAgg hA];refine⟨guardC,true,hr1,?_⟩;refine zc ?_;rw[e_eqAgg hA];refine⟨guardC,true,hr1,?_⟩;exact hQ hX eX
end Go.Proofs.Ytlimjlpjldijdaa
namespace Go.Proofs.Ytlimjlpjldijdaa
open Go.Sim
set_option maxRecDepth 100000
variable{F:Prims}{call head arith cmp scmp bnot bsame conv neg imax imin ofNat slen place inR nz geZ rd wr push next mkOK nat zeros sadd eqAgg cut slc sslc strAt part app cpy putAt fresh lowered bump wrote addN lt ne fpAll fpApp brk yn rng mget mput mnew bytes clr mrng ment:_}(hA:AP F ⟨call,head,arith,cmp,scmp,bnot,bsame,conv,neg,imax,imin,ofNat,slen,place,inR,nz,geZ,rd,wr,push,next,mkOK,nat,zeros,sadd,eqAgg,cut,slc,sslc,strAt,part,app,cpy,putAt,fresh,lowered,bump,wrote,addN,lt,ne,fpAll,fpApp,brk,yn,rng,mget,mput,mnew,bytes,clr,mrng,ment⟩)
include hA
theorem ev_loop{h0:AHeap}(hlow0:h0.low<=h0.next){s0 s1 s3:Value}{a:Option Addr}{n c:Nat}{l:List Sk}(hl:Ss h0 a n l)(hn:n<=1000){Q:Exit->SS->Prop}
  (hno:∀h',Ext h0 h'->∀e' kn K,Q .ret ⟨(8,.bool true) :: e',kn,K,h'⟩)
  (hok:∀h',Ext h0 h'->Q (.exit 0) ⟨[(0,s0),(1,s1),(2,.slice a n c),(3,s3),(9,.bool true)],0,[],h'⟩) :
  ∀(m:Nat) (i:Int) (h:AHeap),(n-i).toNat<=m->0<=i->i<=n->Ext h0 h->
   head 3 5 0 ⟨[(0,s0),(1,s1),(2,.slice a n c),(3,s3),(9,.bool true),(10,.int .i64 i)],0,[],h⟩ Q:=by
 refine upTo (fun m ih=>?_);intro i h hm i0 i1 he;by_cases ci:i<n
 rotate_left
 ·refine hA.roundR Try.func3 r3_ok (zc ?_)
  refine br (i<n) (by rw[e_lss hA,e_ofNat hA]) (fun c1=>absurd c1 ci) (fun c1=>?_)<;>refine zc ?_;exact hok h he
 obtain⟨m,rfl⟩:∃k,m=k+1:=⟨m-1,by omega⟩
 replace ih:=ih m rfl
 obtain⟨bb,o,k,st,f,u,x,y,z,q,rfl,hbb,hgt,r1⟩:=ss_at (hl.ext he) (i:=i) i0 ci;have q1:=rd_ok hA r1;have e2:arith .add .i64 i 1=i+1:=add64 hA (by omega) (by omega);refine hA.roundR Try.func3 r3_ok (zc ?_);refine br (i<n) (by rw[e_lss hA,e_ofNat hA]) (fun c1=>?_) (fun c1=>absurd ci c1)<;>refine zc ?_;refine zq ?_;refine⟨_,_,_,_,_,_,_,_,q1,?_⟩;refine zq ?_;refine event_ok hA (he.lowOK hlow0) ⟨k,st,f,u,x,y,z,q⟩ (fun r h1 x1=>⟨_,rfl,?_⟩);refine zc ?_;refine br (r=false) (by rw[e_bnot hA];cases r<;>rfl) (fun c2=>?_) (fun c2=>?_)<;>refine zc ?_
 ·exact hno h1 (he.trans x1) _ _ _
 rw[e2];exact ih (i+1) h1 (by omega) (by omega) (by omega) (he.trans x1)
theorem top_ok(hW:LW F)(hF:∀args h,F 4 args h=none){h:AHeap}(hlow:h.low<=h.next){a:Option Addr}{n c:Nat}{l:List Vk}(hl:Vs h a n l){ga:Option Addr}{gn gc:Nat}{G:List Ck}(hG:Cs h ga gn G){ea:Option Addr}{en ec:Nat}{es:List Sk}(hE:Ss h ea en es){sa:Option Addr}{ns sc:Nat}{C:List Int}(hS:Rows iC 1 h sa ns C)(hsc:ns<=sc)(hsm:sc<=maxLen){Q:Value->AHeap->Prop}(hQ:∀h',Ext h h'->Q (.bool true) h') :
  call 3 [.slice a n c,.slice ga gn gc,.slice ea en ec,.slice sa ns sc] h Q:=by
 have hlen:=hl.len;refine hA.bodyR Try.func3 r3_ok (hA.alike _ _ _ rfl) hlow (zc ?_);refine alive35_ok hA hW hF hlow (fun h1 x1=>⟨_,rfl,?_⟩);refine zc ?_;refine br ((40:Int)<n) (by rw[e_gtr hA,e_ofNat hA]) (fun c1=>?_) (fun c1=>?_)<;>refine zc ?_
 ·exact hQ h1 x1
 refine br ((20:Int)<ns) (by rw[e_gtr hA,e_ofNat hA]) (fun c2=>?_) (fun c2=>?_)<;>refine zc ?_
 ·exact hQ h1 x1
 refine br ((8:Int)<en) (by rw[e_gtr hA,e_ofNat hA]) (fun c3=>?_) (fun c3=>?_)<;>refine zc ?_
 ·exact hQ h1 x1
 refine rclcheck_ok hA (x1.lowOK hlow) (hl.ext x1) (by omega) (fun e h2 ke x2=>⟨_,rfl,?_⟩);have y2:=x1.trans x2;refine zc ?_;refine br (e≠0) (by rw[e_neq hA]) (fun c4=>?_) (fun c4=>?_)<;>refine zc ?_
 ·exact hQ h2 y2
 obtain rfl:e=0:=by omega
 refine br False (by rw[e_bnot hA];rfl) (fun q=>q.elim) (fun _=>?_)<;>refine zc ?_;refine ev_loop hA (y2.lowOK hlow) (hE.ext y2) (by omega) (fun h3 x3 e' kn K=>?_) (fun h3 x3=>?_) en 0 h2 (by omega) (by omega) (by omega) (.refl h2)
 ·refine zc ?_
  exact hQ h3 (y2.trans x3)
 have y3:=y2.trans x3;refine zc ?_;have hns:ns<=1000:=by omega
 refine gact_ok hA (y3.lowOK hlow) (hG.ext y3) (hl.ext y3) (fun hz e he k4 x4=>⟨_,_,_,_,rfl,?_⟩) (fun h4 mb m am hm b4 x4=>⟨_,_,_,_,rfl,?_⟩)
 ·have y4:=y3.trans x4
  refine zc ?_;refine br (e=0) (by rw[e_eql hA]) (fun q=>absurd q he) (fun _=>?_)<;>refine zc ?_;simp only[e_next hA,e_push hA];have R3:Rows Hd.cells 1 (hz.push 1 [.slice a n c]) (some ⟨hz.next,0,none⟩) 1 [⟨a,n,c⟩]:=Own.rows (l:=[⟨a,n,c⟩]) (enc:=Hd.cells) (Own.push hz 1 _) hd_len (by omega) (by show hz.next<hz.next+1;omega);have xp:=Ext.push hz 1 [Value.slice a n c];generalize hz.push 1 [Value.slice a n c]=hp at *;have yp:=y4.trans xp;refine spoil_ok hA (yp.lowOK hlow) (hl.ext yp) ke R3 (hE.ext yp) (fun hq e he ho xq=>⟨_,_,_,_,rfl,?_⟩) (fun hq ra rc ma G' m' am' ho hr hm' xq=>⟨_,_,_,_,rfl,?_⟩)
  ·have yq:=yp.trans xq
   refine zc ?_;refine br (e=0) (by rw[e_eql hA]) (fun q=>absurd q he) (fun _=>?_)<;>refine zc ?_;refine around_ok hA (yq.lowOK hlow) (hl.ext yq) ke (hS.ext yq) hns hsc hsm (fun hv xv=>⟨_,rfl,?_⟩);refine zc ?_;exact hQ hv (yq.trans xv)
  ·have yq:=yp.trans xq
   refine zc ?_;refine br True (by rw[e_eql hA];rfl) (fun _=>?_) (fun q=>absurd trivial q)<;>refine zc ?_;refine br False (by rw[e_neq hA,e_ofNat hA];rfl) (fun q=>q.elim) (fun _=>?_)<;>refine zc ?_;obtain⟨rb,ro,rfl,_,wr⟩:=hr.at (i:=0) (by omega) (by omega);have dr:rd hq rb (place ro 0 1) 1 [.slice ma n n]:=rd_ok hA (wr 0 1 (by omega) (by omega));obtain⟨act,gg⟩:=am'.act;refine zq ?_;refine kept_ok hA hW (yq.lowOK hlow) (hl.ext yq) hm' ke act (fun x _ _=>gG_nz gg x) (hS.ext yq) hns (fun hw xw=>⟨_,rfl,?_⟩);have yq:=yq.trans xw;refine zc ?_;refine br False (by rw[e_bnot hA];rfl) (fun q=>q.elim) (fun _=>?_)<;>refine zc ?_;refine around_ok hA (yq.lowOK hlow) (hl.ext yq) ke (hS.ext yq) hns hsc hsm (fun hv xv=>⟨_,rfl,?_⟩);refine zc ?_;exact hQ hv (yq.trans xv)
 ·have y4:=y3.trans x4
  refine zc ?_;refine br True (by rw[e_eql hA];rfl) (fun _=>?_) (fun q=>absurd trivial q)<;>refine zc ?_;obtain⟨act,gg⟩:=am.act;refine kept_ok hA hW (y4.lowOK hlow) (hl.ext y4) hm ke act (fun x _ _=>gG_nz gg x) (hS.ext y4) hns (fun hz x5=>⟨_,rfl,?_⟩);have y4:=y4.trans x5;refine zc ?_;refine br False (by rw[e_bnot hA];rfl) (fun q=>q.elim) (fun _=>?_)<;>refine zc ?_;simp only[e_next hA,e_push hA];have R3:Rows Hd.cells 1 (hz.push 1 [.slice a n c]) (some ⟨hz.next,0,none⟩) 1 [⟨a,n,c⟩]:=Own.rows (l:=[⟨a,n,c⟩]) (enc:=Hd.cells) (Own.push hz 1 _) hd_len (by omega) (by show hz.next<hz.next+1;omega);have xp:=Ext.push hz 1 [Value.slice a n c];generalize hz.push 1 [Value.slice a n c]=hp at *;have yp:=y4.trans xp;refine spoil_ok hA (yp.lowOK hlow) (hl.ext yp) ke R3 (hE.ext yp) (fun hq e he ho xq=>⟨_,_,_,_,rfl,?_⟩) (fun hq ra rc ma G' m' am' ho hr hm' xq=>⟨_,_,_,_,rfl,?_⟩)
  ·have yq:=yp.trans xq
   refine zc ?_;refine br (e=0) (by rw[e_eql hA]) (fun q=>absurd q he) (fun _=>?_)<;>refine zc ?_;refine around_ok hA (yq.lowOK hlow) (hl.ext yq) ke (hS.ext yq) hns hsc hsm (fun hv xv=>⟨_,rfl,?_⟩);refine zc ?_;exact hQ hv (yq.trans xv)
  ·have yq:=yp.trans xq
   refine zc ?_;refine br True (by rw[e_eql hA];rfl) (fun _=>?_) (fun q=>absurd trivial q)<;>refine zc ?_;refine br False (by rw[e_neq hA,e_ofNat hA];rfl) (fun q=>q.elim) (fun _=>?_)<;>refine zc ?_;obtain⟨rb,ro,rfl,_,wr⟩:=hr.at (i:=0) (by omega) (by omega);have dr:rd hq rb (place ro 0 1) 1 [.slice ma n n]:=rd_ok hA (wr 0 1 (by omega) (by omega));obtain⟨act,gg⟩:=am'.act;refine zq ?_;refine kept_ok hA hW (yq.lowOK hlow) (hl.ext yq) hm' ke act (fun x _ _=>gG_nz gg x) (hS.ext yq) hns (fun hw xw=>⟨_,rfl,?_⟩);have yq:=yq.trans xw;refine zc ?_;refine br False (by rw[e_bnot hA];rfl) (fun q=>q.elim) (fun _=>?_)<;>refine zc ?_;refine around_ok hA (yq.lowOK hlow) (hl.ext yq) ke (hS.ext yq) hns hsc hsm (fun hv xv=>⟨_,rfl,?_⟩);refine zc ?_;exact hQ hv (yq.trans xv)
