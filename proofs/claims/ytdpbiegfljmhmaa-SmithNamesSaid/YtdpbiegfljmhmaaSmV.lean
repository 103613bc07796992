import Derived.Test.YtdpbiegfljmhmaaSmB
import Derived.Test.YtdpbiegfljmhmaaFracA
import Derived.Test.YtdpbiegfljmhmaaFracR
set_option linter.unusedSimpArgs false
set_option linter.unusedVariables false
namespace Go.Proofs.Ytdpbiegfljmhmaa
open Go.cL
set_option maxRecDepth 100000
theorem mixed:Try.prog.follows .mixedOrders=true:=by kernel_rfl
theorem names : Try.prog.funcs.toList.all (fun fn => !(fn.name == "runtime.NumGoroutine")) = true := by kernel_rfl
theorem named(g : FuncId)(fn : Func)(h : Try.prog.funcs[g]? = some fn) : (fn.name == "runtime.NumGoroutine") = false := by
 have:=List.all_eq_true.1 names fn (List.mem_of_getElem? (by simpa using h));simpa using this
noncomputable def UA:Code:=Try.f100.body.getD .skip
theorem wA:Try.f100.body=some UA:=by kernel_rfl
theorem Bd:fW Try.prog 22 27 1:=⟨by kernel_rfl,by kernel_rfl,⟨24,by kernel_rfl,om⟩,⟨.slice none 0 0,by kernel_rfl,rfl⟩⟩
theorem zLL:il Try.prog 27=some (.slice none 0 0):=by kernel_rfl
theorem uI:Try.prog.underlying 3=some (.int .i64):=by kernel_rfl
theorem si(v:Value):∀n,bF [v] n=List.replicate n v
 |0=>rfl
 |n+1=>by simp only[bF,List.replicate_succ,si v n];rfl
theorem Cz{h:af}{b i n M:Nat}{J:Int}(eJ:J=M){cs:List Value}(hm:aJ h b 1 cs)(hl:cs.length=n)(hi:i<n)(hM:i+M=n+1)(hn:n<=1000)(fz:cs.all aD=true) :
  cO Try.prog h [22,3] [.slice (some ⟨b,0,none⟩) i n,.int .i64 J]=some (.slice (some ⟨h.next,0,none⟩) (n+1) (au 1 (n+1)),h.push 1 (cs.take i++List.replicate M (.slice none 0 0))):=by
 subst eJ;have hT:=Bd;obtain⟨by_,rF,nG⟩:=hT.bytes;have hs:n<aS:=by unfold aS;omega
 have gP:jC Try.prog h 27 1 true (.int .i64 (M:Int))=some (M,List.replicate M (.slice none 0 0)):=by
  unfold jC;simp only[zLL,rF,cond_true];rw[if_pos ⟨om,om,nG,rfl⟩];show some (_,bF [.slice none 0 0] _)=_;rw[si];rfl
 have hr:h.aL ⟨b,0,none⟩ i=some (cs.take i):=by rw[hm.aL om];simp
 have Gh:(List.replicate M (Value.slice none 0 0)).all aD=true:=by simp[aD]
 have XQ:(cs.take i).all aD=true:=by
  rw[List.all_eq_true]at fz ⊢;exact fun v hv=>fz v (List.mem_of_mem_take hv)
 unfold cO;simp only[hT.wT,hT.size,rF,uI,zLL,cV,gP,fe hs];rw[eQ om,bz (show i+M<=1073741824 by omega),bz nG];simp only[cond_false,cond_true,hr,Gh,XQ,dU hs,Bool.and_self,Bool.true_and,hM,List.length_replicate,Nat.mul_one,Nat.beq_refl,show(Value.slice none 0 0).cells.toList.length.beq 1=true from rfl]
theorem tG{h:af}{b o m k c ns cp:Nat}{xs l:List Value}{a:Addr}(ho:aJ h b 1 xs)(hk:Nat.min ns m=k)(hr:h.aL a k=some l)(hl:l.length=k)(hox:o+k<=xs.length)(fz:l.all aD=true) :
  ∃h',sO Try.prog h [22,22] [.slice (some ⟨b,o,none⟩) m c,.slice (some a) ns cp]=some (.int .i64 (k:Nat),h')/\aJ h' b 1 (xs.take o++(l++xs.drop (o+k)))/\jV h h' b:=by
 obtain⟨h',w1,w2,w3⟩:=ho.write (o:=o) (vs:=l) om;rw[hl]at w2;refine⟨h',?_,w2,w3⟩;unfold sO;simp only[Bd.wT,Bd.size,hk,Nat.mul_one,hr];unfold af.iu;simp only[fz,cond_true,w1]
variable{F:bg}{call head arith cmp yh fP jD conv neg imax uv ofNat GP place HY nz LF rd wr push next vL nat iP J5 rG cut zN J6 mT part app PI putAt fresh aw aH wrote bZ lt ne mU yi rU yn uE J7 GQ J8 bytes Vx:_}(hA:AP F ⟨call,head,arith,cmp,yh,fP,jD,conv,neg,imax,uv,ofNat,GP,place,HY,nz,LF,rd,wr,push,next,vL,nat,iP,J5,rG,cut,zN,J6,mT,part,app,PI,putAt,fresh,aw,aH,wrote,bZ,lt,ne,mU,yi,rU,yn,uE,J7,GQ,J8,bytes,Vx⟩)
include hA
theorem IY{t:TypeId}{e es:Nat}(hT:fW Try.prog t e es){b o n:Nat}(hn:n<=1000000){k:IntKind}{I:Int}{i:Nat}(eI:I=i)(i1:i<n){C:Option Addr->Nat->Nat->Prop}
  (h:C (some ⟨b,o+i*es,none⟩) (n-i) (n-i)):zN t (.slice (some ⟨b,o,none⟩) n n) (some (.int k I)) none none C:=by
 subst eI;have sR:zN t (.slice (some ⟨b,o,none⟩) n n) (some (.int k i)) none none C = ∃a' n' c',gM Try.prog t (.slice (some ⟨b,o,none⟩) n n) (some (.int k i)) none none=some (.slice a' n' c')/\C a' n' c':=by have:=hA.eq;injections;subst_vars;rfl
 rw[sR];refine⟨_,_,_,?_,h⟩;have hs:n<aS:=by unfold aS;omega
 unfold gM;simp only[hT.wT,hT.size];unfold lj;simp only[gG,iG,ia,bound,fe hs];rw[if_pos ⟨om,om⟩];simp only[bz (Nat.le_refl n),dU hs,cond_true,Bool.true_or];rw[Jv (show n≠(i:Int).toNat by omega)];rfl
set_option maxHeartbeats 1000000 in
theorem NS(hF:dv Try.prog F){h:af}(aq:h.low=h.next){b vb n i:Nat}{I:Int}(eI:I=i){cs:List Value}{v:Value}(hb:b<h.next)(hm:aJ h b 1 cs)(hl:cs.length=n)(VO:vb<h.next)(hv:aJ h vb 1 [v])(hi:i<n)(hn:n<=1000)(fz:cs.all aD=true)(UB:aD v=true){R:Value->af->Prop}
  (hR:∀b2 h',aJ h' b2 1 (cs.take i++v :: cs.drop i)->h.next<=b2->b2<h'.next->h.next<=h'.low->R (.slice (some ⟨b2,0,none⟩) (n+1) (au 1 (n+1))) h') :
  rA progU Try.f100.ntmps UA ⟨rO [.slice (some ⟨b,0,none⟩) n n,.int .i64 I,.slice (some ⟨vb,0,none⟩) 1 1] 0 [],0,[],h⟩ (fun e s'=>(e=.normal\/e=.ret)/\∃v,lk s'.env 6=some v/\dn v=true/\R v s'.h):=by
 have run:=fun {c:Code} {s:SS} {Q:Exit->SS->Prop} (hl:bG c=[]) (hr:bJ c=[])=>rA.run hA.toAOK live mixed hF named Try.func100 wA (c:=c) hl hr (s:=s) (Q:=Q)
 have e1:ofNat 1=1:=aR hA 1;obtain⟨N,eN⟩:∃z:Int,z=n:=⟨_,rfl⟩;have e2:ofNat n=N:=by rw[eN];exact aR hA n
 refine run rfl rfl (zc ?_);refine IY hA Bd om eI hi ?_;refine zc ?_;rw[e1,show cmp .eql 1 0=false by rw[dg hA];rfl];refine zc ?_;rw[e2,show cmp .eql I N=false by rw[dg hA];simp;omega];refine zc ?_;have e3:arith .add .i64 N 1=N+1:=aF hA om om;refine⟨(show lt n 9223372036854775808=(n<9223372036854775808) by have:=hA.eq;injections;subst_vars;rfl) ▸ om,?_⟩;refine zc ?_;rw[e2,e3,show cmp .gtr (N+1) N=true by rw[fg hA];simp;omega];refine zc ?_;refine⟨by rw[LK hA,fe (by unfold aS;omega)];omega,?_⟩;refine zc ?_;have e4:arith .sub .i64 (N+1) I=N+1-I:=bR hA om om;rw[e3,e4];rw[u9 hA];obtain⟨M,eM⟩:∃z:Int,z=N+1-I:=⟨_,rfl⟩;rw[<-eM];have en:nat I=i:=by rw[AF hA];omega
 rw[en];refine⟨_,_,_,_,Cz (M:=n+1-i) om hm hl hi om hn fz,?_⟩;obtain⟨xs,exs⟩:∃z,z=cs.take i++List.replicate (n+1-i) (Value.slice none 0 0):=⟨_,rfl⟩;have hxl:xs.length=n+1:=by rw[exs];simp;omega
 have o1:aJ (h.push 1 xs) h.next 1 xs:=.push _ _ _;have x1:Ext h (h.push 1 xs):=.push _ _ _;rw[<-exs];obtain⟨h1,ZK⟩:∃z,z=h.push 1 xs:=⟨_,rfl⟩;rw[<-ZK]at o1 x1 ⊢;obtain⟨q,eq⟩:∃z,z=n+1:=⟨_,rfl⟩;rw[<-eq];obtain⟨nx,enx⟩:∃z,z=h.next:=⟨_,rfl⟩;rw[<-enx]at o1 ⊢;obtain⟨cq,IZ⟩:∃z,z=au 1 q:=⟨_,rfl⟩;rw[<-IZ];refine zc ?_;refine DD hA Bd (n:=q) IZ om (i:=I) om om (fun c'=>?_);rw[show 0+I.toNat*1=i by omega,show q-I.toNat=q-i by omega];obtain⟨m1,em1⟩:∃z,z=q-i:=⟨_,rfl⟩;rw[<-em1];refine zc ?_;rw[H3 hA];have zH:=hv.ext x1 VO;obtain⟨h2,k1,k2,k3⟩:=tG (m:=m1) (c:=c') (cp:=1) (ns:=1) (o:=i) (k:=1) (l:=[v]) (a:=⟨vb,0,none⟩) o1 (by show min 1 m1=1;omega) (zH.aL (o:=0) (n:=1) (by simp)) rfl om (by simp[UB]);refine⟨_,h2,k1,?_⟩;refine zc ?_;have e5:arith .add .i64 I 1=I+1:=aF hA om om;rw[e5];refine DD hA Bd (n:=q) IZ om (i:=I+1) om om (fun c2=>?_);rw[show 0+(I+1).toNat*1=i+1 by omega,show q-(I+1).toNat=n-i by omega];obtain⟨m2,Ux⟩:∃z,z=n-i:=⟨_,rfl⟩;obtain⟨i1,NT⟩:∃z,z=i+1:=⟨_,rfl⟩;rw[<-Ux,<-NT];refine zc ?_;refine IY hA Bd om eI hi ?_;rw[show 0+i*1=i by omega,<-Ux];refine zc ?_;rw[H3 hA,mj hA,kv hA];have ZL:aJ (h2.aH 9).dG b 1 cs:=k3.own (hm.ext x1 hb) om;have o2:aJ (h2.aH 9).dG nx 1 (xs.take i++([v]++xs.drop (i+1))):=k2;obtain⟨h3,p1,p2,p3⟩:=tG (m:=m2) (c:=c2) (cp:=m2) (ns:=m2) (o:=i1) (k:=m2) (l:=cs.drop i) (a:=⟨b,i,none⟩) o2 (Nat.min_self _) (by rw[ZL.aL om,List.take_of_length_le (by simp;omega)]) (by simp;omega) (by simp;omega) (by rw[List.all_eq_true]at fz ⊢;exact fun v hv=>fz v (List.mem_of_mem_drop hv));refine⟨_,h3,p1,?_⟩;obtain⟨k,ek⟩:∃z:Int,z=m2:=⟨_,rfl⟩;rw[<-ek];refine zc ?_;refine⟨.inr trivial,_,rfl,rfl,?_⟩;rw[IZ,eq];have hxt:xs.take i=cs.take i:=by rw[exs,List.take_append_of_le_length (by simp;omega),List.take_take,Nat.min_self]
 have Wt:(xs.take i++([v]++xs.drop (i+1))).take i1++(cs.drop i++(xs.take i++([v]++xs.drop (i+1))).drop (i1+m2))=cs.take i++v :: cs.drop i:=by
  have z1:(xs.take i++([v]++xs.drop (i+1))).drop (i1+m2)=[]:=List.drop_eq_nil_of_le (by simp[hxl];omega);have z2:(xs.take i++([v]++xs.drop (i+1))).take i1=cs.take i++[v]:=by
   rw[<-List.append_assoc,List.take_append_of_le_length (by simp[hxl];omega),List.take_of_length_le (by simp[hxl];omega),hxt]
  rw[z1,z2];simp
 rw[Wt]at p2;refine hR nx _ ?_ om ?_ ?_
 ·rw[eV hA];exact p2
 ·rw[eV hA]
  show nx<h3.next;rw[p3.next];show nx<h2.next+9;rw[k3.next,ZK];show nx<h.next+1+9;omega
 ·rw[eV hA]
  show h.next<=Nat.min h2.low h3.low;have q1:h.next<=h2.low:=by rw[k3.low,ZK];show h.next<=Nat.min h.low nx;exact Nat.le_min.2 ⟨om,om⟩
  have q2:h.next<=h3.low:=by
   rw[p3.low];show h.next<=Nat.min (h2.next+9) nx;have:h2.next=h.next+1:=by rw[k3.next,ZK];rfl
   exact Nat.le_min.2 ⟨om,om⟩
  exact Nat.le_min.2 ⟨q1,q2⟩
theorem tH{t:TypeId}{e es:Nat}(hT:fW Try.prog t e es){b o n m c:Nat}(ec:c=au es m)(hn:m<=1000000)(ZM:n<=m){k:IntKind}{I:Int}{i:Nat}(eI:I=i)(i1:i<n){C:Option Addr->Nat->Nat->Prop}
  (h:∀c',C (some ⟨b,o+i*es,none⟩) (n-i) c'):zN t (.slice (some ⟨b,o,none⟩) n c) (some (.int k I)) none none C:=by
 subst eI;subst ec;have sR:zN t (.slice (some ⟨b,o,none⟩) n (au es m)) (some (.int k i)) none none C = ∃a' n' c',gM Try.prog t (.slice (some ⟨b,o,none⟩) n (au es m)) (some (.int k i)) none none=some (.slice a' n' c')/\C a' n' c':=by have:=hA.eq;injections;subst_vars;rfl
 rw[sR];have hs:m<aS:=by unfold aS;omega
 by_cases c:i=0
 ·subst c
  have h:=h (au es m);rw[show o+0*es=o by simp,Nat.sub_zero]at h;refine⟨_,_,_,?_,h⟩;unfold gM;simp only[hT.wT,hT.size];unfold lj;simp only[gG,iG,ia,bound,ct hs];rw[if_pos ⟨om,om⟩];simp only[bz ZM,cT (dr es m),cond_true,cond_false,Option.isSome_none,Bool.or_false];rfl
 ·refine⟨_,_,_,?_,h (au es (m-i))⟩
  unfold gM;simp only[hT.wT,hT.size];unfold lj;simp only[gG,iG,ia,bound,ct hs];rw[if_pos ⟨om,om⟩];simp only[bz ZM,cT (dr es m),cond_true,cond_false,Option.isSome_none,Bool.or_false,jZ hs];rw[Jv (show(i:Int).toNat≠0 by omega),dU (show(i:Int).toNat<m by omega)];simp[fV]
set_option maxHeartbeats 1000000 in
theorem NU(hF:dv Try.prog F)(hov:∀a b h',jM a b=some h'->F 118 a b=some h'){h:af}(aq:h.low=h.next){b vb n i:Nat}{I:Int}(eI:I=i){cs:List Value}{v:Value}(hb:b<h.next)(hm:aJ h b 1 (cs++[.chan none]))(hl:cs.length=n)(VO:vb<h.next)(dS:b≠vb)(hv:aJ h vb 1 [v])(hi:i<n)(hn:n<=1000)(fz:cs.all aD=true)(UB:aD v=true){R:Value->af->Prop}
  (hR:∀h',aJ h' b 1 (cs.take i++v :: cs.drop i)->h.next<=h'.next->(∀k,k≠b->h'.m.get k=h.m.get k)->b<=h'.low->R (.slice (some ⟨b,0,none⟩) (n+1) (au 1 (n+1))) h') :
  rA progU Try.f100.ntmps UA ⟨rO [.slice (some ⟨b,0,none⟩) n (au 1 (n+1)),.int .i64 I,.slice (some ⟨vb,0,none⟩) 1 1] 0 [],0,[],h⟩ (fun e s'=>(e=.normal\/e=.ret)/\∃v,lk s'.env 6=some v/\dn v=true/\R v s'.h):=by
 have run:=fun {c:Code} {s:SS} {Q:Exit->SS->Prop} (hl:bG c=[]) (hr:bJ c=[])=>rA.run hA.toAOK live mixed hF named Try.func100 wA (c:=c) hl hr (s:=s) (Q:=Q)
 have e1:ofNat 1=1:=aR hA 1;obtain⟨N,eN⟩:∃z:Int,z=n:=⟨_,rfl⟩;have e2:ofNat n=N:=by rw[eN];exact aR hA n
 obtain⟨q,eq⟩:∃z,z=n+1:=⟨_,rfl⟩;obtain⟨cq,IZ⟩:∃z,z=au 1 q:=⟨_,rfl⟩;rw[<-eq,<-IZ];refine rA.seq (run rfl rfl (zc ?_));refine rA.seq (run rfl rfl (zc ?_));refine tH hA Bd (m:=q) IZ om om eI hi (fun c'=>?_);refine zc ?_;refine rA.seq (run rfl rfl (zc ?_));rw[e1];refine rA.seq (run rfl rfl (zc ?_));rw[show cmp .eql 1 0=false by rw[dg hA];rfl];refine zc ?_;refine rA.seq (run rfl rfl (zc ?_));rw[e2];refine rA.seq (run rfl rfl (zc ?_));rw[show cmp .eql I N=false by rw[dg hA];simp;omega];refine zc ?_;refine rA.Xh (env0:=[(0,.slice (some ⟨b,0,none⟩) n cq),(1,.int .i64 I),(2,.slice (some ⟨vb,0,none⟩) 1 1),(7,.int .i64 1),(8,.int .i64 N)]) (fun p hp=>?_) ?_
 ·simp only[List.mem_cons,List.not_mem_nil,or_false]at hp
  rcases hp with rfl|rfl|rfl|rfl|rfl<;>rfl
 refine rA.seq (rA.seq (rA.room (n:=n) (b:=b) (off:=0) (k:=cq) (by decide) rfl rfl rfl rfl rfl rfl rfl rfl rfl rfl rfl rfl rfl rfl rfl rfl rfl rfl rfl Bd.wT (by rw[eN];rfl) rfl rfl (fun p hp=>?_) hn (by rw[IZ,ct (by unfold aS;omega)];omega) ?_))
 ·simp only[List.mem_cons,List.not_mem_nil,or_false]at hp
  rcases hp with rfl|rfl|rfl|rfl|rfl<;>simp
 refine run rfl rfl (zc ?_);refine run rfl rfl (zc ?_);have e3:arith .add .i64 N 1=q:=by rw[aF hA om om];omega
 rw[e3];obtain⟨qI,eqI⟩:∃z:Int,z=q:=⟨_,rfl⟩;rw[<-eqI];refine⟨by rw[LK hA,IZ,ct (by unfold aS;omega)];omega,?_⟩;refine zc ?_;rw[show nat qI=q by rw[AF hA];omega];have e5:arith .add .i64 I 1=I+1:=aF hA om om;rw[e5];obtain⟨I1,eI1⟩:∃z:Int,z=I+1:=⟨_,rfl⟩;rw[<-eI1];refine tH hA Bd (n:=q) (m:=q) IZ om om (i:=i+1) om om (fun c2=>?_);rw[show 0+(i+1)*1=i+1 by omega,show q-(i+1)=n-i by omega];obtain⟨m2,Ux⟩:∃z,z=n-i:=⟨_,rfl⟩;obtain⟨i1,NT⟩:∃z,z=i+1:=⟨_,rfl⟩;rw[<-Ux,<-NT];refine zc ?_;have ov:F 118 [.slice (some ⟨vb,0,none⟩) 1 1,.slice (some ⟨b,i1,none⟩) m2 c2] h=some (.bool false,h):=by
  refine hov _ _ _ ?_;unfold jM;have q1:h.m.get vb=some (.live true 1 [v]):=hv;obtain⟨z,zs,hz⟩:∃z zs,cs++[.chan none]=z :: zs:=by
   cases cs with
   |nil=>exact⟨_,_,rfl⟩
   |cons z zs=>exact⟨_,_,rfl⟩
  have q2:h.m.get b=some (.live true 1 (z :: zs)):=by rw[<-hz];exact hm
  simp only[q1,q2];rw[Jv (fun e=>dS e.symm)];rfl
 refine hA.M4 ov ?_;refine⟨false,rfl,?_⟩;refine zc ?_;rw[show fP false=true by rw[df hA];rfl];refine zc ?_;rw[e5,<-eI1];refine tH hA Bd (n:=q) (m:=q) IZ om om (i:=i1) om om (fun c3=>?_);rw[show 0+i1*1=i1 by omega,show q-i1=m2 by omega];refine zc ?_;refine tH hA Bd (n:=q) (m:=q) IZ om om (i:=i) eI om (fun c4=>?_);obtain⟨m3,ZC⟩:∃z,z=q-i:=⟨_,rfl⟩;rw[show 0+i*1=i by omega,<-ZC];refine zc ?_;have al:∀l:List Value,(∀v∈l,v∈cs)->l.all aD=true:=fun l q=>by rw[List.all_eq_true]at fz ⊢;exact fun v hv=>fz v (q v hv)
 rw[H3 hA,mj hA,kv hA];have ZL:aJ (h.aH 9).dG b 1 (cs++[.chan none]):=hm;have Mt:(cs++[Value.chan none]).length=n+1:=by simp[hl]
 obtain⟨h3,p1,p2,p3⟩:=tG (m:=m2) (c:=c3) (cp:=c4) (ns:=m3) (o:=i1) (k:=m2) (l:=cs.drop i) (a:=⟨b,i,none⟩) ZL (by show min m3 m2=m2;omega) (by rw[ZL.aL om,List.drop_append_of_le_length om,List.take_append_of_le_length (by simp;omega),List.take_of_length_le (by simp;omega)]) (by simp;omega) om (al _ (fun v hv=>List.mem_of_mem_drop hv));refine⟨_,h3,p1,?_⟩;obtain⟨k,ek⟩:∃z:Int,z=m2:=⟨_,rfl⟩;rw[<-ek];obtain⟨ys,ZN⟩:∃z,z=(cs++[Value.chan none]).take i1++(cs.drop i++(cs++[Value.chan none]).drop (i1+m2)):=⟨_,rfl⟩;rw[<-ZN]at p2;have yl:ys.length=n+1:=by rw[ZN];simp;omega
 refine zc ?_;rw[eV hA];generalize ZO:h3.aw _=h4;have o4:aJ h4 b 1 ys:=by rw[<-ZO];exact p2
 have n4:h4.next=h.next+9:=by rw[<-ZO];show h3.next=_;rw[p3.next];rfl
 have g4:∀k,k≠b->h4.m.get k=h.m.get k:=fun k hk=>by rw[<-ZO];exact p3.get k hk
 have l4:b<=h4.low:=by
  rw[<-ZO];show b<=Nat.min h.low h3.low;rw[p3.low];show b<=Nat.min h.low (Nat.min (h.next+9) b);exact Nat.le_min.2 ⟨om,Nat.le_min.2 ⟨om,Nat.le_refl _⟩⟩
 refine tH hA Bd (n:=q) (m:=q) IZ om om (i:=i) eI om (fun c5=>?_);rw[show 0+i*1=i by omega,<-ZC];refine zc ?_;rw[H3 hA];obtain⟨h5,r1,r2,r3⟩:=tG (m:=m3) (c:=c5) (cp:=1) (ns:=1) (o:=i) (k:=1) (l:=[v]) (a:=⟨vb,0,none⟩) o4 (by show min 1 m3=1;omega) ((hv.gF (g4 vb (fun e=>dS e.symm))).aL (o:=0) (n:=1) (by simp)) rfl om (by simp[UB]);refine⟨_,h5,r1,?_⟩;refine zc ?_;refine⟨.inr trivial,_,rfl,rfl,?_⟩;rw[IZ,eq];have hxt:ys.take i=cs.take i:=by rw[ZN,List.take_append_of_le_length (by simp;omega),List.take_take,Nat.min_eq_left om,List.take_append_of_le_length om]
 have hyd:ys.drop (i+1)=cs.drop i:=by
  have z1:(cs++[Value.chan none]).drop (i1+m2)=[]:=List.drop_eq_nil_of_le (by simp;omega);rw[ZN,z1,List.append_nil,List.drop_append_of_le_length (by simp;omega),List.drop_eq_nil_of_le (by simp;omega),List.nil_append]
 rw[hxt,hyd]at r2;refine hR h5 r2 (by rw[r3.next,n4];omega) (fun k hk=>by rw[r3.get k hk,g4 k hk]) ?_;rw[r3.low];exact Nat.le_min.2 ⟨l4,Nat.le_refl _⟩
end Go.Proofs.Ytdpbiegfljmhmaa
namespace Go.Proofs.Ytdpbiegfljmhmaa
open Go.cL
set_option maxRecDepth 100000
theorem KB:dv Try.prog rS:=AT (Go.cL.tp Try.func113 (named _ _ Try.func113) (by kernel_rfl) (by kernel_rfl) (by kernel_rfl)) (AT (Go.cL.m8 Try.func115 (named _ _ Try.func115) (by kernel_rfl) (by kernel_rfl) (by kernel_rfl)) GK)
theorem E8:aY rS:=vu (vu BT)
theorem zL1(w:World):(Go.sizeOf 27).run Try.prog w=.ok 1 w:=cg (by kernel_rfl)
theorem uP:dv Try.prog qe:=EB KB (Aj (tS:=22) (tR:=4) Try.func118 (named _ _ Try.func118) (by kernel_rfl) (by kernel_rfl) (by kernel_rfl) Bd.wT zL1)
theorem vD:aY qe:=yM yN E8
theorem tI(g:FuncId)(args:List Value)(h:af)(hg:own g=false):qe g args h=rS g args h:=by
 unfold own at hg;simp only[Bool.or_eq_false_iff]at hg;unfold qe pZ;rw[hg.2];rfl
theorem Hi(args:List Value)(h:af)(r:Value)(h':af)(hc:jt args h=some (r,h'))(G:Nat->Option cL.Loc)(w:World)(aP:List Value)(hR:HR ⟨G,fun _=>none⟩ (iw h) w)(hA:fG G args aP) :
  s8 Try.prog 100 aP.toArray w (fun c w'=>∃G',VG G' r c/\Good ⟨G,fun _=>none⟩ (iw h) w ⟨G',fun _=>none⟩ (iw h') w'/\fD (h.next<=·) G G'):=by
 obtain⟨b,n,i,vb,cs,v,rfl,m1,m2,hl,hi,hd,E9,dS,hn,rfl,rfl⟩:=od hc;have hB:AP qe (bm Try.prog hint qe):=⟨⟨rfl,vD⟩,tI⟩;have okh:∀v,Ai v=true->aD v=true:=fun v hv=>by obtain⟨_,_,_,_,rfl⟩:=AY hv;rfl
 have okc:cs.all aD=true:=by rw[List.all_eq_true]at hd ⊢;exact fun v hv=>okh v (hd v hv)
 obtain⟨x1,l1,rfl,g1,VP⟩:=hA.head;obtain⟨x2,l2,rfl,g2,hA2⟩:=VP.head;obtain⟨x3,l3,rfl,g3,hA3⟩:=hA2.head;obtain rfl:l3=[]:=List.eq_nil_of_length_eq_zero hA3.1.symm;have vgs:∀{G':Nat->Option cL.Loc} {a:Value},(∀id L,G id=some L->G' id=some L)->VG G' a x1->fG G' [a,.int .i64 (Int.ofNat i),.slice (some ⟨vb,0,none⟩) 1 1] [x1,x2,x3]:=fun hm q=>⟨rfl,fun j u z hu hz=>by
  match j with
  |0=>simp at hu hz;subst hu;subst hz;exact q
  |1=>simp at hu hz;subst hu;subst hz;exact g2.mono hm
  |2=>simp at hu hz;subst hu;subst hz;exact g3.mono hm
  |j+3=>simp at hu⟩
 have VO:vb<h.next:=by
  rcases g3.dO with ⟨_,L3,_,XR,_⟩|⟨_,⟨x,hx⟩,_⟩
  ·exact hR.cS _ _ XR
  ·cases hx
 obtain⟨L3,XR⟩:∃L3,G vb=some L3:=by
  rcases g3.dO with ⟨_,L3,_,XR,_⟩|⟨_,⟨x,hx⟩,_⟩
  ·exact⟨L3,XR⟩
  ·cases hx
 rcases g1.dO with ⟨_,L,c',hL,rfl,hk⟩|⟨_,⟨x,hx⟩,_⟩
 rotate_left
 ·cases hx
 have hL:G b=some L:=hL;have hb:b<h.next:=hR.cS _ _ hL;obtain⟨VQ,ccs,ce,cf,k2,k3,k4⟩:=hR.cH b L _ hL m1;have hs:n<aS:=by unfold aS;omega
 obtain⟨hnc,JO⟩:n<=c'/\L.o+c'<=L.AJ:=by
  rcases hk with ⟨q,_⟩|⟨m,q1,_,q2,q3⟩
  ·exact absurd q (by unfold au;omega)
  ·rw[VQ]at q1 q3
   unfold au at q1;have XS:L.o+0+c'*1<=L.AJ:=q3;omega
 have Zy:∀u∈cs.take i++v :: cs.drop i,∃a len k L1,u=.slice (some a) len k/\a.spot=none/\G a.block=some L1:=by
  have one:∀u,Ai u=true->(∃c,VG G u c)->∃a len k L1,u=.slice (some a) len k/\a.spot=none/\G a.block=some L1:=fun u hu ⟨c,hc⟩=>by
   obtain⟨bb,o,len,k,rfl⟩:=AY hu;rcases hc.dO with ⟨_,L1,_,Lk,_⟩|⟨_,⟨x,hx⟩,_⟩
   ·exact⟨_,_,_,L1,rfl,rfl,Lk⟩
   ·cases hx
  intro u hu;have:u∈cs\/u=v:=by
   rcases List.mem_append.1 hu with q|q
   ·exact .inl (List.mem_of_mem_take q)
   ·rcases List.mem_cons.1 q with q|q
    ·exact .inr q
    ·exact .inl (List.mem_of_mem_drop q)
  rcases this with q|rfl
  ·obtain⟨j,hj,rfl⟩:=List.getElem_of_mem q
   obtain⟨c,_,z⟩:=k3 j _ (List.getElem?_eq_getElem hj);exact one _ (List.all_eq_true.1 hd _ q) ⟨c,z⟩
  ·obtain⟨_,_,_,_,_,z3,_⟩:=hR.cH vb L3 _ XR m2
   obtain⟨c,_,z⟩:=z3 0 u rfl;exact one _ E9 ⟨c,z⟩
 have fin:∀{G2:Nat->Option cL.Loc} {L2:cL.Loc} {c3:Nat},G2 h.next=some L2->L2.es=1->n+1<=c3->L2.o+c3<=L2.AJ->VG G2 (.slice (some ⟨h.next,0,none⟩) (n+1) (au 1 (n+1))) (.slice (some ⟨L2.b,L2.o+0,none⟩) (n+1) c3):=fun {G2 L2 c3} e1 e2 e3 e4=>by
  have:=VG.gW (g:=G2) ⟨h.next,0,none⟩ L2 (n+1) (n+1) c3 rfl e1 e3 (by unfold aS;omega) (by rw[e2];show L2.o+0+c3*1<=L2.AJ;omega);rw[e2]at this;exact this
 by_cases gX:n+1<=c'
 ·
  obtain⟨hh,ZP⟩:∃z,z=({ h with m:=h.m.set b (.live true 1 (cs++[.chan none])) }:af):=⟨_,rfl⟩;have ZQ:HR ⟨G,fun _=>none⟩ (iw hh) w:=by rw[ZP];exact hR.room hL m1 om
  have gk:∀k,k≠b->hh.m.get k=h.m.get k:=fun k hk=>by rw[ZP];show(h.m.set b _).get k=_;rw[cQ.aK _ _ (fun e=>hk e.symm)]
  have nn:hh.next=h.next:=by rw[ZP]
  have ob:aJ hh.M5 b 1 (cs++[.chan none]):=by show hh.m.get b=_;rw[ZP];show(h.m.set b _).get b=_;rw[cQ.gV]
  have ov:aJ hh.M5 vb 1 [v]:=(gk vb (fun e=>dS e.symm)).trans m2;have vg1:VG G (.slice (some ⟨b,0,none⟩) n (au 1 (n+1))) (.slice (some ⟨L.b,L.o+0,none⟩) n c'):=by
   have:=VG.gW (g:=G) ⟨b,0,none⟩ L n (n+1) c' rfl hL gX (by unfold aS;omega) (by rw[VQ];show L.o+0+c'*1<=L.AJ;omega);rw[VQ]at this;exact this
  have wn:=NU hB uP (fun a b r q=>by unfold qe pZ;rw[Nat.beq_refl];simp only[cond_true,q]) (h:=hh.M5) rfl (I:=Int.ofNat i) rfl (by show b<hh.next;omega) ob hl (by show vb<hh.next;omega) dS ov hi hn okc (okh v E9)
   (R:=fun u Be=>u=.slice (some ⟨b,0,none⟩) (n+1) (au 1 (n+1))/\aJ Be b 1 (cs.take i++v :: cs.drop i)/\(∀k,k≠b->Be.m.get k=hh.m.get k)/\b<=Be.low) (fun Be q1 _ q2 q3=>⟨rfl,q1,q2,q3⟩)
  refine(rA.Qm (P:=progU) (R:=fun u Be=>u=.slice (some ⟨b,0,none⟩) (n+1) (au 1 (n+1))/\aJ Be b 1 (cs.take i++v :: cs.drop i)/\(∀k,k≠b->Be.m.get k=hh.m.get k)/\b<=Be.low) Try.func100 wA (named _ _ Try.func100) rfl (Nat.le_refl _) wn (M6 ZQ) (vgs (fun _ _ q=>q) vg1)).mono (fun c w'=>?_);rintro⟨u,Be,G',⟨rfl,q1,q2,q3⟩,hv,hG,_⟩;obtain⟨G2,f1,f2,f3,f4⟩:=Good.Ss hR hb hG (hG.mono _ _ hL) q1 (fun k L1 dx kb hk hm=>BR.back hG.mono (hR.cH k L1 dx hk hm) (hG.hr.cH k L1 dx (hG.mono _ _ hk) (by show Be.m.get k=_;rw[q2 k kb,gk k kb];exact hm)))
   (fun k L1 dx kb hk hm ha e=>kb (hR.dj k b L1 L dx _ hk hL hm m1 ha rfl e)) (.inr hL) (Nat.le_trans (Nat.min_le_right _ _) q3) Zy
  refine⟨G2,?_,f3,f4⟩;rcases hv.dO with ⟨_,L2,c3,Ir,rfl,Me⟩|⟨_,⟨x,hx⟩,_⟩
  rotate_left
  ·cases hx
  have e:G' b=some L:=hG.mono _ _ hL;have Ir:G' b=some L2:=Ir;rw[Ir]at e;obtain rfl:=Option.some.inj e;refine fin f1 VQ ?_ ?_
  ·rcases Me with ⟨q,_⟩|⟨m,q1,_,q2,q3⟩
   ·exact absurd q (by unfold au;omega)
   ·rw[VQ]at q1;unfold au at q1;omega
  ·rcases Me with ⟨q,_⟩|⟨m,q1,_,q2,q3⟩
   ·exact absurd q (by unfold au;omega)
   ·rw[VQ]at q3
    have XS:L2.o+0+c3*1<=L2.AJ:=q3;omega
 ·obtain rfl:c'=n:=om
  have vg1:VG G (.slice (some ⟨b,0,none⟩) c' c') (.slice (some ⟨L.b,L.o+0,none⟩) c' c'):=.gN _ L _ _ rfl hL hs;have wn:=NS hB uP (h:=h.M5) rfl (I:=Int.ofNat i) rfl hb m1 hl VO m2 hi hn okc (okh v E9)
   (R:=fun u Be=>∃b2,u=.slice (some ⟨b2,0,none⟩) (c'+1) (au 1 (c'+1))/\aJ Be b2 1 (cs.take i++v :: cs.drop i)/\h.next<=b2/\h.next<=Be.low) (fun b2 Be q1 q2 _ q3=>⟨b2,rfl,q1,q2,q3⟩)
  refine(rA.Qm (P:=progU) (R:=fun u Be=>∃b2,u=.slice (some ⟨b2,0,none⟩) (c'+1) (au 1 (c'+1))/\aJ Be b2 1 (cs.take i++v :: cs.drop i)/\h.next<=b2/\h.next<=Be.low) Try.func100 wA (named _ _ Try.func100) rfl (Nat.le_refl _) wn (M6 hR) (vgs (fun _ _ q=>q) vg1)).mono (fun c w'=>?_);rintro⟨u,Be,G',⟨b2,rfl,q1,q2,q3⟩,hv,hG,_⟩;rcases hv.dO with ⟨_,L2,c3,Ir,rfl,Me⟩|⟨_,⟨x,hx⟩,_⟩
  rotate_left
  ·cases hx
  have Ir:G' b2=some L2:=Ir;obtain⟨XC,_⟩:=hG.hr.cH b2 L2 _ Ir q1;have hGb:G b2=none:=by
   cases hx:G b2 with
   |none=>rfl
   |some L1=>have:b2<h.next:=hR.cS b2 L1 hx;omega
  have oT:w.heap.size<=L2.b:=by
   rcases hG.fresh b2 L2 Ir hGb with h1|⟨FT,L0,h1,h2,h3⟩
   ·exact h1
   ·have h4:FT<h.next:=hR.cS FT L0 h1
    have h5:Be.low<=FT:=h3;omega
  obtain⟨G2,f1,f2,f3,f4⟩:=Good.Ss hR hb hG Ir q1 (fun k L1 dx kb hk hm=>by
   rw[hG.frame L1.b (hR.lt hk) (fun id L4 h0 _=>Nat.lt_of_lt_of_le (hR.cS id L4 h0) q3) (fun t L h=>by cases h)];exact hR.cH k L1 dx hk hm) (fun k L1 dx kb hk hm ha e=>by have:=hR.lt hk;omega) (.inl oT) (Nat.le_trans (Nat.min_le_right _ _) (by show b<=Be.low;omega)) Zy
  refine⟨G2,?_,f3,f4⟩;refine fin f1 XC ?_ ?_
  ·rcases Me with ⟨q,_⟩|⟨m,q1,_,q2,q3⟩
   ·exact absurd q (by unfold au;omega)
   ·rw[XC]at q1;unfold au at q1;omega
  ·rcases Me with ⟨q,_⟩|⟨m,q1,_,q2,q3⟩
   ·exact absurd q (by unfold au;omega)
   ·rw[XC]at q3
    have XS:L2.o+0+c3*1<=L2.AJ:=q3;omega
theorem uQ:dv Try.prog gO:=EB uP Hi
theorem mA:aY gO:=yM B8 vD
theorem y8:aY vx:=z8 mA
structure Hd where
 a:Option Addr
 n:Nat
 c:Nat
 deriving Inhabited
def Hd.cells(k:Hd):List Value:=[.slice k.a k.n k.c]
theorem fF(k:Hd):k.cells.length=1:=rfl
theorem I0(k:Hd):k.cells.all aD=true:=rfl
structure rC{α:Type}[Inhabited α](enc:α->List Value)(es:Nat)(h:af)(a:Option Addr)(N:Nat)(hs:List Hd)(g:List (List α)):Prop where
 hd:Rows Hd.cells 1 h a N hs
 len:g.length=N
 row:∀y:Int,0<=y->y<N->Rows enc es h (gt hs y).a (gt hs y).n (gt g y)
theorem rC.ext{α:Type}[Inhabited α]{enc:α->List Value}{es:Nat}{h h':af}{a:Option Addr}{N:Nat}{hs:List Hd}{g:List (List α)}(t:rC enc es h a N hs g)(e:Ext h h'):rC enc es h' a N hs g:=⟨t.hd.ext e,t.len,fun y y0 y1=>(t.row y y0 y1).ext e⟩
theorem rC.Fb{α:Type}[Inhabited α]{enc:α->List Value}{es:Nat}{h:af}{a:Option Addr}{N:Nat}{hs:List Hd}{g:List (List α)}(t:rC enc es h a N hs g){y:Int}(y0:0<=y)(y1:y<N):(gt g y).length=(gt hs y).n:=(t.row y y0 y1).len
def gA{α:Type}(cp:Nat)(bs:List Nat)(g:List (List α)):List Hd:=List.zipWith (fun b r=>⟨some ⟨b,0,none⟩,r.length,cp⟩) bs g
def kM{α:Type}(f:Nat->α)(n:Nat):List α:=(List.range n).map f
theorem bP{α:Type}(f:Nat->α)(n:Nat):(kM f n).length=n:=by unfold kM;simp
theorem jO{α:Type}(f:Nat->α){n i:Nat}(h:i<n):(kM f n)[i]?=some (f i):=by unfold kM;simp[h]
theorem gm{α:Type}[Inhabited α](f:Nat->α){n i:Nat}(h:i<n):gt (kM f n) (i:Int)=f i:=by
 unfold gt;rw[List.getD_eq_getElem?_getD,show((i:Int)).toNat=i from rfl,jO f h];rfl
theorem wv{α:Type}(f:Nat->α)(n i:Nat)(v:α):(kM f n).set i v=kM (fun j=>if j=i then v else f j) n:=by
 apply List.ext_getElem?;intro j;rw[List.getElem?_set,bP];by_cases c:j<n
 ·rw[jO _ c,jO _ c]
  by_cases e:i=j
  ·subst e;simp[c]
  ·rw[if_neg e,if_neg (fun q=>e q.symm)]
 ·have e1:(kM f n)[j]?=none:=List.getElem?_eq_none (by rw[bP];omega)
  have e2:(kM (fun j=>if j=i then v else f j) n)[j]?=none:=List.getElem?_eq_none (by rw[bP];omega);rw[e1,e2];split
  ·rw[if_neg om]
  ·rfl
theorem ik{α:Type}{f g:Nat->α}{n:Nat}(h:∀i,i<n->f i=g i):kM f n=kM g n:=by
 unfold kM;exact List.map_congr_left (fun i hi=>h i (List.mem_range.1 hi))
theorem tJ{α:Type}(f:Nat->α)(n:Nat):kM f (n+1)=kM f n++[f n]:=by
 unfold kM;rw[List.range_succ,List.map_append];rfl
def I2(a b i:Nat):Nat:=if i=a then b else if i=b then a else i
theorem vE(g:FuncId)(args:List Value)(h:af)(hg:own g=false):gO g args h=rS g args h:=by
 have vQ:=hg;unfold own at hg;simp only[Bool.or_eq_false_iff]at hg;unfold gO pZ;rw[hg.1.2];exact tI g args h vQ
structure Fc where
 n:Int
 d:Int
 deriving Inhabited
def fC(x:Fc):List Value:=[.int .i64 x.n,.int .i64 x.d]
theorem sj(x:Fc):(fC x).length=2:=rfl
theorem XT(x:Fc):(fC x).all aD=true:=rfl
def cZ(x:Fc):Prop:=okF x.n x.d/\0<=x.n/\x.n<x.d
def Hj(g:List (List Int)):Prop:=4<g.length\/∃i:Int,0<=i/\i<g.length/\4<(gt g i).length
structure Good(g:List (List Int))(B:List Fc):Prop where
 m1:0<g.length
 n1:0<(gt g 0).length
 len:B.length=g.length
 row:∀i:Int,0<=i->i<g.length->(gt g i).length=(gt g 0).length
 UC:∀i:Int,0<=i->i<g.length->∀j:Int,0<=j->j<(gt g i).length->-9<=gt (gt g i) j/\gt (gt g i) j<=9
 turn:∀i:Int,0<=i->i<B.length->cZ (gt B i)/\(gt B i).d<=60
def dB(g:List (List Int))(B:List Fc)(e:Int):Prop:=(Hj g/\e=4)\/(¬Hj g/\Good g B/\e=0)\/(¬Hj g/\¬Good g B/\e=8)
theorem dB.uniq{g:List (List Int)}{B:List Fc}{e e':Int}(h:dB g B e)(h':dB g B e'):e=e':=by
 rcases h with ⟨a,rfl⟩|⟨a,b,rfl⟩|⟨a,b,rfl⟩<;>rcases h' with ⟨c,rfl⟩|⟨c,d,rfl⟩|⟨c,d,rfl⟩
 all_goals first|rfl|(exfalso;first|exact a c|exact c a|exact b d|exact d b)
theorem dB.rz{g:List (List Int)}{B:List Fc}(h:dB g B 0):Good g B/\¬Hj g:=by
 rcases h with ⟨_,q⟩|⟨a,b,_⟩|⟨_,_,q⟩
 ·omega
 ·exact⟨b,a⟩
 ·omega
theorem rC.uR{α:Type}[Inhabited α]{enc:α->List Value}{es:Nat}{h:af}{a:Option Addr}{N:Nat}{hs:List Hd}{g:List (List α)}(t:rC enc es h a N hs g){i:Int}(i0:0<=i)(i1:i<N):∃b o,a=Option.some ⟨b,o,none⟩/\b<h.next/\h.aL ⟨b,o+i.toNat*1,none⟩ 1=Option.some [.slice (gt hs i).a (gt hs i).n (gt hs i).c]:=by
 obtain⟨b,o,e,l,q⟩:=t.hd.at i0 i1;exact⟨b,o,e,l,q 0 1 om om⟩
structure Da{α:Type}[Inhabited α](enc:α->List Value)(es:Nat)(h:af)(a:Option Addr)(N:Nat)(hs:List Hd)(g:List (List α)):Prop where
 hd:Rows Hd.cells 1 h a N hs
 len:g.length=N
 row:∀y:Int,0<=y->y<N->(gt g y).length=(gt hs y).n/\(0<(gt hs y).n->Rows enc es h (gt hs y).a (gt hs y).n (gt g y))
theorem Da.ext{α:Type}[Inhabited α]{enc:α->List Value}{es:Nat}{h h':af}{a:Option Addr}{N:Nat}{hs:List Hd}{g:List (List α)}(t:Da enc es h a N hs g)(e:Ext h h'):Da enc es h' a N hs g:=⟨t.hd.ext e,t.len,fun y y0 y1=>⟨(t.row y y0 y1).1,fun q=>((t.row y y0 y1).2 q).ext e⟩⟩
theorem Da.Fb{α:Type}[Inhabited α]{enc:α->List Value}{es:Nat}{h:af}{a:Option Addr}{N:Nat}{hs:List Hd}{g:List (List α)}(t:Da enc es h a N hs g){y:Int}(y0:0<=y)(y1:y<N):(gt g y).length=(gt hs y).n:=(t.row y y0 y1).1
theorem Da.uR{α:Type}[Inhabited α]{enc:α->List Value}{es:Nat}{h:af}{a:Option Addr}{N:Nat}{hs:List Hd}{g:List (List α)}(t:Da enc es h a N hs g){i:Int}(i0:0<=i)(i1:i<N):∃b o,a=Option.some ⟨b,o,none⟩/\b<h.next/\h.aL ⟨b,o+i.toNat*1,none⟩ 1=Option.some [.slice (gt hs i).a (gt hs i).n (gt hs i).c]:=by
 obtain⟨b,o,e,l,q⟩:=t.hd.at i0 i1;exact⟨b,o,e,l,q 0 1 om om⟩
theorem Da.full{α:Type}[Inhabited α]{enc:α->List Value}{es:Nat}{h:af}{a:Option Addr}{N:Nat}{hs:List Hd}{g:List (List α)}(t:Da enc es h a N hs g)(p:∀y:Int,0<=y->y<N->0<(gt g y).length):rC enc es h a N hs g:=
 ⟨t.hd,t.len,fun y y0 y1=>(t.row y y0 y1).2 (by rw[<-t.Fb y0 y1];exact p y y0 y1)⟩
theorem rC.oW{α:Type}[Inhabited α]{enc:α->List Value}{es:Nat}{h:af}{a:Option Addr}{N:Nat}{hs:List Hd}{g:List (List α)}(t:rC enc es h a N hs g):Da enc es h a N hs g:=
 ⟨t.hd,t.len,fun y y0 y1=>⟨(t.row y y0 y1).len,fun _=>t.row y y0 y1⟩⟩
variable{F:bg}{call head arith cmp yh fP jD conv neg imax uv ofNat GP place HY nz LF rd wr push next vL nat iP J5 rG cut zN J6 mT part app PI putAt fresh aw aH wrote bZ lt ne mU yi rU yn uE J7 GQ J8 bytes Vx:_}(hA:AP F ⟨call,head,arith,cmp,yh,fP,jD,conv,neg,imax,uv,ofNat,GP,place,HY,nz,LF,rd,wr,push,next,vL,nat,iP,J5,rG,cut,zN,J6,mT,part,app,PI,putAt,fresh,aw,aH,wrote,bZ,lt,ne,mU,yi,rU,yn,uE,J7,GQ,J8,bytes,Vx⟩)
include hA
theorem wB{t e es:Nat}(hT:fW Try.prog t e es){α:Type}{enc:α->List Value}(he:∀x,(enc x).length=es)(LQ:0<es)(fz:∀x,(enc x).all aD=true){h:af}{a:Option Addr}{n c:Nat}{l:List α}{v:α}(hp:nK h es a n c (l.flatMap enc))(hn:n<=100000){C:Option Addr->Nat->Nat->af->Prop}
  (hC:∀b' h',nK h' es (some ⟨b',0,none⟩) (n+1) (au es (n+1)) ((l++[v]).flatMap enc)->(∀h0,Ext h0 h->jY h0.next a->Ext h0 h')->h.next<h'.next->h.next<b'->(∀i,i<h.next->(∀ad,a=some ad->ad.block≠i)->h'.m.get i=h.m.get i)->C (some ⟨b',0,none⟩) (n+1) (au es (n+1)) h') :
  app [t,t] [.slice a n c,.slice (some ⟨next h,0,none⟩) 1 1] (push h es (enc v)) C:=by
 rw[u9 hA,aV hA,aW hA];have hs:Cells (h.push es (enc v)) (some ⟨h.next,0,none⟩) 1 es (enc v):=⟨rfl,by simp[af.push],by rw[(aJ.push h es _).aL (by rw[he];omega),List.drop_zero,List.take_of_length_le (by rw[he];omega)]⟩;obtain⟨a',c',h',h1,h2,h3,h4,h5,h6⟩:=vC hT hT.wT (c2:=1) (hp.ext (.push h es (enc v))) hs (ph fz l) (fz v) om om;rcases h2 with ⟨_,w,_⟩|⟨b',rfl,rfl,w1,w2,w3⟩
 ·omega
 have nx:(h.push es (enc v)).next=h.next+1:=rfl;refine⟨_,n+1,_,h',h1,hC b' h' (.inr ⟨b',rfl,rfl,w1,by rw[fU he];simp only[List.length_append,List.length_cons,List.length_nil];have:=hp.cells.length;rw[fU he]at this;rw[Nat.eq_of_mul_eq_mul_right LQ this],?_⟩) (fun h0 e0 f0=>(h3 h0 (e0.trans (.push _ _ _)) f0).1) om (by have:=h5 _ rfl;simp only at this;omega) (fun i hi ha=>?_)⟩
 ·simpa using w3
 ·rw[h6 i om ha]
  exact(Ext.push h es (enc v)).get i hi
theorem I3{h:af}(aq:h.low<=h.next){x:Fc}(hn:i64 x.n)(hd:i64 x.d){Q:Value->af->Prop}(hQ:∀b h',(b=true↔cZ x)->Ext h h'->Q (.bool b) h'):call 31 [.agg #[.int .i64 x.n,.int .i64 x.d]] h Q:=by
 obtain⟨n,d⟩:=x;simp only at hn hd;refine hA.aQ Try.func31 x31.2 (hA.alike _ _ _ rfl) aq (zc ?_);refine qs hA aq hn hd (fun e h' k x1=>?_);refine⟨e,rfl,?_⟩;refine zq ?_;refine br (e=0) (by rw[dg hA]) (fun c=>?_) (fun c=>?_)<;>refine zc ?_
 rotate_left
 ·refine zq ?_
  refine hQ false h' ⟨(fun q=>by cases q),fun q=>?_⟩ x1;rcases k with ⟨k,_⟩|⟨_,k⟩
  ·exact absurd k c
  ·exact absurd q.1 k
 have ok:okF n d:=by rcases k with ⟨_,k⟩|⟨k,_⟩;exact k;omega
 refine zq ?_;refine br (0<=n) (by rw[cA hA]) (fun c2=>?_) (fun c2=>?_)<;>refine zc ?_
 rotate_left
 ·refine zq ?_
  exact hQ false h' ⟨(fun q=>by cases q),fun q=>absurd q.2.1 c2⟩ x1
 refine zq ?_;rw[aB hA];exact hQ _ h' ⟨fun q=>⟨ok,c2,of_decide_eq_true q⟩,fun q=>decide_eq_true q.2.2⟩ x1
