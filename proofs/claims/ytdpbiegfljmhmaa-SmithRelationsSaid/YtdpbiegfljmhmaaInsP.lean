import Derived.Test.YtdpbiegfljmhmaaSymSlc
import Derived.Test.YtdpbiegfljmhmaaSymGrid
set_option linter.unusedSimpArgs false
set_option linter.unusedVariables false
namespace Go.Proofs.Ytdpbiegfljmhmaa
open Go.Sim
variable{F:Prims}{call head arith cmp scmp bnot bsame conv neg imax imin ofNat slen place inR nz geZ rd wr push next mkOK nat zeros sadd eqAgg cut slc sslc strAt part app cpy putAt fresh lowered bump wrote addN lt ne fpAll fpApp brk yn rng mget mput mnew bytes clr:_}(hA:AP F ⟨call,head,arith,cmp,scmp,bnot,bsame,conv,neg,imax,imin,ofNat,slen,place,inR,nz,geZ,rd,wr,push,next,mkOK,nat,zeros,sadd,eqAgg,cut,slc,sslc,strAt,part,app,cpy,putAt,fresh,lowered,bump,wrote,addN,lt,ne,fpAll,fpApp,brk,yn,rng,mget,mput,mnew,bytes,clr⟩)
include hA
theorem slc_any{t:TypeId}{e es:Nat}(hT:SliceT Try.prog t e es){b o n:Nat}(hn:n<=1000000){k:IntKind}{i:Int}(i0:0<=i)(i1:i<n){C:Option Addr->Nat->Nat->Prop}
  (h:∀c',C (some ⟨b,o+i.toNat*es,none⟩) (n-i.toNat) c'):slc t (.slice (some ⟨b,o,none⟩) n (someCap es n)) (some (.int k i)) none none C:=by
 by_cases c:1<=i
 ·exact slc_lo hA hT hn c i1 (h _)
 obtain rfl:i=0:=by omega
 have e_slc:slc t (.slice (some ⟨b,o,none⟩) n (someCap es n)) (some (.int k 0)) none none C = ∃a' n' c',sliceA Try.prog t (.slice (some ⟨b,o,none⟩) n (someCap es n)) (some (.int k 0)) none none=some (.slice a' n' c')/\C a' n' c':=by have:=hA.eq;injections;subst_vars;rfl
 rw[e_slc];have h:=h (someCap es n);rw[show o+(0:Int).toNat*es=o by simp,show n-(0:Int).toNat=n by simp]at h;refine⟨_,_,_,?_,h⟩;have hs:n<slack:=by unfold slack;omega
 unfold sliceA;simp only[hT.und,hT.size];unfold sliceS;simp only[boundMx,boundHi,boundLo,bound];rw[if_pos ⟨by omega,by omega⟩];simp only[];rw[capLow_some hs,ble_true (Nat.le_refl _),blt_false (someCap_ge es n),someCap_div hs];simp
theorem slc_anyE{t:TypeId}{e es:Nat}(hT:SliceT Try.prog t e es){b o n c:Nat}(ec:c=someCap es n)(hn:n<=1000000){k:IntKind}{i:Int}(i0:0<=i)(i1:i<n){C:Option Addr->Nat->Nat->Prop}
  (h:∀c',C (some ⟨b,o+i.toNat*es,none⟩) (n-i.toNat) c'):slc t (.slice (some ⟨b,o,none⟩) n c) (some (.int k i)) none none C:=by
 subst ec;exact slc_any hA hT hn i0 i1 h
end Go.Proofs.Ytdpbiegfljmhmaa
namespace Go.Sim
theorem Cells.part{h:AHeap}{a:Option Addr}{n es:Nat}{cells:List Value}(c:Cells h a n es cells){i m:Nat}(hi:i+m<=n):Cells h (a.map (aadd · (i*es))) m es ((cells.drop (i*es)).take (m*es)):=by
 have hlen:=c.length;have hm:i*es+m*es<=n*es:=by rw[<-Nat.add_mul];exact Nat.mul_le_mul_right es hi
 cases a with
 |none=>
  obtain⟨rfl,rfl⟩:=c;exact⟨by omega,by simp⟩
 |some ad=>
  obtain⟨h1,h2,h3⟩:=c;obtain⟨b,o,sp⟩:=ad;simp only at h1;subst h1;refine⟨rfl,h2,?_⟩;unfold AHeap.readG aadd at *;simp only[]at h3 ⊢;split at h3
  ·rename_i cs hcs
   obtain⟨e1,e2⟩:=readN_eq h3;refine readN_some ?_ ?_
   ·subst e1
    rw[List.drop_take,List.take_take,List.drop_drop,Nat.min_eq_left (by omega)]
   ·simp only[List.length_take,List.length_drop];omega
  ·cases h3
def Feed(P:Program)(h:AHeap)(e es:Nat)(a:Option Addr)(n c:Nat)(news:List Value):Prop:=newsA P h e es false (.slice a n c)=some (n,news)/\news.length=n*es
theorem Feed.of{P:Program}{h:AHeap}{e es:Nat}{a:Option Addr}{n:Nat}{news:List Value}(c:Nat)(hs:Cells h a n es news):Feed P h e es a n c news:=by
 refine⟨?_,hs.length⟩;unfold newsA;simp only[cond_false];cases a with
 |none=>obtain⟨rfl,rfl⟩:=hs;simp
 |some ad=>
  obtain⟨h1,h2,h3⟩:=hs;simp only[h3]
theorem Feed.nothing(P:Program)(h:AHeap)(e es:Nat)(x c:Nat):Feed P h e es (some ⟨0,0,some x⟩) 0 c []:=by
 refine⟨?_,by simp⟩;unfold newsA AHeap.readG;rfl
theorem append_any3{P:Program}{t t2 e es:Nat}(hT:SliceT P t e es)(ht2:P.underlying t2=some (.slice e)){h:AHeap}{b n c n2 c2:Nat}{a2:Option Addr}{cells news:List Value}(hp:Own2 h es b n c cells)(hs:Feed P h e es a2 n2 c2 news)(hok:cells.all cellOK=true)(hok2:news.all cellOK=true)(hbig:n+n2<=1000000) :
  ∃b' c' h',appendH P h [t,t2] [.slice (some ⟨b,0,none⟩) n c,.slice a2 n2 c2]=some (.slice (some ⟨b',0,none⟩) (n+n2) c',h')/\Own2 h' es b' (n+n2) c' (cells++news)/\h.next<=h'.next/\(b'=b\/h.next<=b')/\(∀j,j<h.next->j≠b->h'.m.get j=h.m.get j)/\(∀h0,Ext h0 h->h0.next<=b->Ext h0 h'/\h0.next<=b'):=by
 obtain⟨ho,hb,hl,hc⟩:=hp;obtain⟨by_,hby,hby2⟩:=hT.bytes;obtain⟨z,hz,hz2⟩:=hT.zero;obtain⟨hnews,hnl⟩:=hs;have hcl:capLow c=n:=by
  rcases hc with ⟨rfl,rfl⟩|rfl
  ·rfl
  ·exact capLow_some (by unfold slack;omega)
 unfold appendH;simp only[hT.und,hT.size,hby,ht2,hz,isIntDesc,hnews];rw[hcl];by_cases h0:n2=0
 ·subst h0
  have:news=[]:=by simpa using hnl
  subst this;obtain⟨h',hw,ho',hw2⟩:=ho.write (o:=n*es) (vs:=[]) (by simp;omega);have hwg:h.writeG (aadd ⟨b,0,none⟩ (n*es)) []=some h':=by
   unfold AHeap.writeG aadd;simp only[List.all_nil,cond_true,Nat.zero_add];exact hw
  rw[ble_true (show n+0<=n by omega)];simp only[cond_true,hwg];have e2:cells.take (n*es)++([]++cells.drop (n*es+([]:List Value).length))=cells:=by simp
  rw[e2]at ho';exact⟨b,c,h',rfl,⟨by simpa using ho',by rw[hw2.next];exact hb,by simpa using hl,hc⟩,by rw[hw2.next];exact Nat.le_refl _,.inl rfl,fun j _ j1=>hw2.get j j1,fun h0 e0 hb0=>⟨hw2.ext e0 hb0,hb0⟩⟩
 ·rw[ble_false (by omega)]
  simp only[cond_false];rw[ble_true (show n+n2<=1073741824 by omega),ble_true hby2,hok2,hz2,hnl];simp only[Bool.and_self,Nat.beq_refl,cond_true];have hr:h.readG ⟨b,0,none⟩ (n*es)=some cells:=by rw[ho.readG (by omega)];simp[<-hl]
  simp only[hr];rcases hc with ⟨rfl,rfl⟩|rfl
  ·rw[blt_true (show 0<slack by unfold slack;omega),hok]
   simp only[cond_true];refine⟨_,_,_,rfl,⟨Own.push _ _ _,by simp[AHeap.push],by simp[hl,hnl],.inr rfl⟩,by simp[AHeap.push],.inr (Nat.le_refl _),fun j j0 _=>(Ext.push h es _).get j j0,fun h0 e0 hb0=>⟨e0.trans (.push _ _ _),e0.next⟩⟩
  ·rw[blt_false (someCap_ge es n),hok]
   simp only[cond_false,cond_true];rw[show h.m.get b=some (.live true es cells)from ho];simp only[Nat.beq_refl,cond_true];refine⟨_,_,_,rfl,⟨Own.push (h.kill b) es _,by simp[AHeap.push,AHeap.kill],by simp[hl,hnl,Nat.add_mul],.inr rfl⟩,by simp[AHeap.push,AHeap.kill],.inr (Nat.le_refl _),fun j j0 j1=>?_,fun h0 e0 hb0=>⟨(e0.kill hb0).trans (.push _ _ _),?_⟩⟩
   ·have k1:(h.kill b).m.get j=h.m.get j:=by unfold AHeap.kill;simp only[];rw[Tri.get_set_ne _ _ (fun q=>j1 q.symm)]
    rw[<-k1];exact(Ext.push (h.kill b) es _).get j (by unfold AHeap.kill;exact j0)
   ·exact e0.next
end Go.Sim
namespace Go.Proofs.Ytdpbiegfljmhmaa
open Go.Sim
set_option maxRecDepth 100000
variable{F:Prims}{call head arith cmp scmp bnot bsame conv neg imax imin ofNat slen place inR nz geZ rd wr push next mkOK nat zeros sadd eqAgg cut slc sslc strAt part app cpy putAt fresh lowered bump wrote addN lt ne fpAll fpApp brk yn rng mget mput mnew bytes clr:_}(hA:AP F ⟨call,head,arith,cmp,scmp,bnot,bsame,conv,neg,imax,imin,ofNat,slen,place,inR,nz,geZ,rd,wr,push,next,mkOK,nat,zeros,sadd,eqAgg,cut,slc,sslc,strAt,part,app,cpy,putAt,fresh,lowered,bump,wrote,addN,lt,ne,fpAll,fpApp,brk,yn,rng,mget,mput,mnew,bytes,clr⟩)
include hA
theorem slc_from{t:TypeId}{e es:Nat}(hT:SliceT Try.prog t e es){h:AHeap}{a:Option Addr}{n c:Nat}(hn:n<=1000000)(hc:c=someCap es n\/(n=0/\a=none/\c=0)){cells:List Value}(hs:Cells h a n es cells){k:IntKind}{i:Nat}(hi:i<=n){C:Option Addr->Nat->Nat->Prop}
  (hC:∀a' c',(∀h',Ext h h'->Feed Try.prog h' e es a' (n-i) c' (cells.drop (i*es)))->C a' (n-i) c'):slc t (.slice a n c) (some (.int k i)) none none C:=by
 have e_slc:slc t (.slice a n c) (some (.int k i)) none none C = ∃a' n' c',sliceA Try.prog t (.slice a n c) (some (.int k i)) none none=some (.slice a' n' c')/\C a' n' c':=by have:=hA.eq;injections;subst_vars;rfl
 have hlen:=hs.length;rw[e_slc];unfold sliceA;simp only[hT.und,hT.size];unfold sliceS;simp only[boundMx,boundHi,boundLo,bound];rcases hc with rfl|⟨rfl,rfl,rfl⟩
 ·have hsl:n<slack:=by unfold slack;omega
  rw[if_pos ⟨by omega,by omega⟩];simp only[];rw[capLow_some hsl,ble_true (Nat.le_refl _),blt_false (someCap_ge es n),someCap_div hsl];simp only[cond_true,cond_false,Option.isSome_none,Bool.or_false,Int.toNat_natCast];by_cases c0:i=0
  ·subst c0
   rw[show Nat.beq 0 0=true from rfl];simp only[cond_true];refine⟨_,_,_,rfl,hC _ _ (fun h' x=>?_)⟩;rw[Nat.zero_mul,List.drop_zero];exact Feed.of _ (hs.ext x)
  rw[nbeq c0];simp only[cond_false];by_cases c1:i<n
  ·rw[blt_true c1]
   simp only[Bool.true_and,Nat.beq_refl,cond_true];refine⟨_,_,_,rfl,hC _ _ (fun h' x=>?_)⟩;have:=(hs.ext x).part (i:=i) (m:=n-i) (by omega);rw[List.take_of_length_le (by rw[List.length_drop,hlen,Nat.sub_mul];omega)]at this;exact Feed.of _ this
  ·have e1:i=n:=by omega
   subst e1;rw[blt_false (Nat.le_refl _)];simp only[Bool.false_and,cond_false];rw[show Nat.beq i i=true by simp];simp only[cond_true,Nat.sub_self];refine⟨_,_,_,rfl,?_⟩;have:=hC (some ⟨0,0,some 0⟩) slack (fun h' _=>by
    rw[Nat.sub_self,List.drop_of_length_le (by omega)];exact Feed.nothing _ _ _ _ _ _)
   rwa [Nat.sub_self]at this
 ·obtain rfl:i=0:=by omega
  obtain⟨_,rfl⟩:=hs;rw[if_pos ⟨by omega,by simp⟩];simp only[];refine⟨none,0,0,rfl,?_⟩;exact hC none 0 (fun h' _=>by simpa using Feed.of (P:=Try.prog) (h:=h') (e:=e) (es:=es) 0 (show Cells h' none 0 es []from⟨rfl,rfl⟩))
end Go.Proofs.Ytdpbiegfljmhmaa
namespace Go.Proofs.Ytdpbiegfljmhmaa
open Go.Sim
set_option maxRecDepth 100000
theorem mixed:Try.prog.follows .mixedOrders=true:=by kernel_rfl
theorem names : Try.prog.funcs.toList.all (fun fn => !(fn.name == "runtime.NumGoroutine")) = true := by kernel_rfl
theorem named(g : FuncId)(fn : Func)(h : Try.prog.funcs[g]? = some fn) : (fn.name == "runtime.NumGoroutine") = false := by
 have:=List.all_eq_true.1 names fn (List.mem_of_getElem? (by simpa using h));simpa using this
noncomputable def cIns:Code:=Try.f100.body.getD .skip
theorem cIns_is:Try.f100.body=some cIns:=by kernel_rfl
theorem TLL:SliceT Try.prog 22 27 1:=⟨by kernel_rfl,by kernel_rfl,⟨24,by kernel_rfl,by omega⟩,⟨.slice none 0 0,by kernel_rfl,rfl⟩⟩
theorem zLL:zeroT Try.prog 27=some (.slice none 0 0):=by kernel_rfl
theorem uI:Try.prog.underlying 3=some (.int .i64):=by kernel_rfl
theorem copies_one(v:Value):∀n,copies [v] n=List.replicate n v
 |0=>rfl
 |n+1=>by simp only[copies,List.replicate_succ,copies_one v n];rfl
theorem append_zeros{h:AHeap}{b i n M:Nat}{J:Int}(eJ:J=M){cs:List Value}(hm:Own h b 1 cs)(hl:cs.length=n)(hi:i<n)(hM:i+M=n+1)(hn:n<=1000)(hok:cs.all cellOK=true) :
  appendH Try.prog h [22,3] [.slice (some ⟨b,0,none⟩) i n,.int .i64 J]=some (.slice (some ⟨h.next,0,none⟩) (n+1) (someCap 1 (n+1)),h.push 1 (cs.take i++List.replicate M (.slice none 0 0))):=by
 subst eJ;have hT:=TLL;obtain⟨by_,hby,hby2⟩:=hT.bytes;have hs:n<slack:=by unfold slack;omega
 have hnews:newsA Try.prog h 27 1 true (.int .i64 (M:Int))=some (M,List.replicate M (.slice none 0 0)):=by
  unfold newsA;simp only[zLL,hby,cond_true];rw[if_pos ⟨by omega,by omega,hby2,rfl⟩];show some (_,copies [.slice none 0 0] _)=_;rw[copies_one];rfl
 have hr:h.readG ⟨b,0,none⟩ i=some (cs.take i):=by rw[hm.readG (by omega)];simp
 have hall:(List.replicate M (Value.slice none 0 0)).all cellOK=true:=by simp[cellOK]
 have hall2:(cs.take i).all cellOK=true:=by
  rw[List.all_eq_true]at hok ⊢;exact fun v hv=>hok v (List.mem_of_mem_take hv)
 unfold appendH;simp only[hT.und,hT.size,hby,uI,zLL,isIntDesc,hnews,capLow_lt hs];rw[ble_false (by omega),ble_true (show i+M<=1073741824 by omega),ble_true hby2];simp only[cond_false,cond_true,hr,hall,hall2,blt_true hs,Bool.and_self,Bool.true_and,hM,List.length_replicate,Nat.mul_one,Nat.beq_refl,show(Value.slice none 0 0).cells.toList.length.beq 1=true from rfl]
theorem copy_own{h:AHeap}{b o m k c ns cp:Nat}{xs l:List Value}{a:Addr}(ho:Own h b 1 xs)(hk:Nat.min ns m=k)(hr:h.readG a k=some l)(hl:l.length=k)(hox:o+k<=xs.length)(hok:l.all cellOK=true) :
  ∃h',copyH Try.prog h [22,22] [.slice (some ⟨b,o,none⟩) m c,.slice (some a) ns cp]=some (.int .i64 (k:Nat),h')/\Own h' b 1 (xs.take o++(l++xs.drop (o+k)))/\Wrote h h' b:=by
 obtain⟨h',w1,w2,w3⟩:=ho.write (o:=o) (vs:=l) (by omega);rw[hl]at w2;refine⟨h',?_,w2,w3⟩;unfold copyH;simp only[TLL.und,TLL.size,hk,Nat.mul_one,hr];unfold AHeap.writeG;simp only[hok,cond_true,w1]
variable{F:Prims}{call head arith cmp scmp bnot bsame conv neg imax imin ofNat slen place inR nz geZ rd wr push next mkOK nat zeros sadd eqAgg cut slc sslc strAt part app cpy putAt fresh lowered bump wrote addN lt ne fpAll fpApp brk yn rng mget mput mnew bytes clr:_}(hA:AP F ⟨call,head,arith,cmp,scmp,bnot,bsame,conv,neg,imax,imin,ofNat,slen,place,inR,nz,geZ,rd,wr,push,next,mkOK,nat,zeros,sadd,eqAgg,cut,slc,sslc,strAt,part,app,cpy,putAt,fresh,lowered,bump,wrote,addN,lt,ne,fpAll,fpApp,brk,yn,rng,mget,mput,mnew,bytes,clr⟩)
include hA
theorem slcX_lo{t:TypeId}{e es:Nat}(hT:SliceT Try.prog t e es){b o n:Nat}(hn:n<=1000000){k:IntKind}{I:Int}{i:Nat}(eI:I=i)(i1:i<n){C:Option Addr->Nat->Nat->Prop}
  (h:C (some ⟨b,o+i*es,none⟩) (n-i) (n-i)):slc t (.slice (some ⟨b,o,none⟩) n n) (some (.int k I)) none none C:=by
 subst eI;have e_slc:slc t (.slice (some ⟨b,o,none⟩) n n) (some (.int k i)) none none C = ∃a' n' c',sliceA Try.prog t (.slice (some ⟨b,o,none⟩) n n) (some (.int k i)) none none=some (.slice a' n' c')/\C a' n' c':=by have:=hA.eq;injections;subst_vars;rfl
 rw[e_slc];refine⟨_,_,_,?_,h⟩;have hs:n<slack:=by unfold slack;omega
 unfold sliceA;simp only[hT.und,hT.size];unfold sliceS;simp only[boundMx,boundHi,boundLo,bound,capLow_lt hs];rw[if_pos ⟨by omega,by omega⟩];simp only[ble_true (Nat.le_refl n),blt_true hs,cond_true,Bool.true_or];rw[nbeq (show n≠(i:Int).toNat by omega)];rfl
set_option maxHeartbeats 1000000 in
theorem ins_grow(hF:CallOK Try.prog F){h:AHeap}(hlow:h.low=h.next){b vb n i:Nat}{I:Int}(eI:I=i){cs:List Value}{v:Value}(hb:b<h.next)(hm:Own h b 1 cs)(hl:cs.length=n)(hvb:vb<h.next)(hv:Own h vb 1 [v])(hi:i<n)(hn:n<=1000)(hok:cs.all cellOK=true)(hokv:cellOK v=true){R:Value->AHeap->Prop}
  (hR:∀b2 h',Own h' b2 1 (cs.take i++v :: cs.drop i)->h.next<=b2->b2<h'.next->h.next<=h'.low->R (.slice (some ⟨b2,0,none⟩) (n+1) (someCap 1 (n+1))) h') :
  WNs progU Try.f100.ntmps cIns ⟨argsL [.slice (some ⟨b,0,none⟩) n n,.int .i64 I,.slice (some ⟨vb,0,none⟩) 1 1] 0 [],0,[],h⟩ (fun e s'=>(e=.normal\/e=.ret)/\∃v,lk s'.env 6=some v/\noLoc v=true/\R v s'.h):=by
 have run:=fun {c:Code} {s:SS} {Q:Exit->SS->Prop} (hl:loopsOf c=[]) (hr:rangesOf c=[])=>WNs.run hA.toAOK live mixed hF named Try.func100 cIns_is (c:=c) hl hr (s:=s) (Q:=Q)
 have e1:ofNat 1=1:=e_ofNat hA 1;obtain⟨N,eN⟩:∃z:Int,z=n:=⟨_,rfl⟩;have e2:ofNat n=N:=by rw[eN];exact e_ofNat hA n
 refine run rfl rfl (zc ?_);refine slcX_lo hA TLL (by omega) eI hi ?_;refine zc ?_;rw[e1,show cmp .eql 1 0=false by rw[e_eql hA];rfl];refine zc ?_;rw[e2,show cmp .eql I N=false by rw[e_eql hA];simp;omega];refine zc ?_;have e3:arith .add .i64 N 1=N+1:=add64 hA (by omega) (by omega);refine⟨(show lt n 9223372036854775808=(n<9223372036854775808) by have:=hA.eq;injections;subst_vars;rfl) ▸ (by omega),?_⟩;refine zc ?_;rw[e2,e3,show cmp .gtr (N+1) N=true by rw[e_gtr hA];simp;omega];refine zc ?_;refine⟨by rw[e_cut hA,capLow_lt (by unfold slack;omega)];omega,?_⟩;refine zc ?_;have e4:arith .sub .i64 (N+1) I=N+1-I:=sub64 hA (by omega) (by omega);rw[e3,e4];rw[e_app hA];obtain⟨M,eM⟩:∃z:Int,z=N+1-I:=⟨_,rfl⟩;rw[<-eM];have en:nat I=i:=by rw[e_nat hA];omega
 rw[en];refine⟨_,_,_,_,append_zeros (M:=n+1-i) (by omega) hm hl hi (by omega) hn hok,?_⟩;obtain⟨xs,exs⟩:∃z,z=cs.take i++List.replicate (n+1-i) (Value.slice none 0 0):=⟨_,rfl⟩;have hxl:xs.length=n+1:=by rw[exs];simp;omega
 have o1:Own (h.push 1 xs) h.next 1 xs:=.push _ _ _;have x1:Ext h (h.push 1 xs):=.push _ _ _;rw[<-exs];obtain⟨h1,eh1⟩:∃z,z=h.push 1 xs:=⟨_,rfl⟩;rw[<-eh1]at o1 x1 ⊢;obtain⟨q,eq⟩:∃z,z=n+1:=⟨_,rfl⟩;rw[<-eq];obtain⟨nx,enx⟩:∃z,z=h.next:=⟨_,rfl⟩;rw[<-enx]at o1 ⊢;obtain⟨cq,ecq⟩:∃z,z=someCap 1 q:=⟨_,rfl⟩;rw[<-ecq];refine zc ?_;refine slc_anyE hA TLL (n:=q) ecq (by omega) (i:=I) (by omega) (by omega) (fun c'=>?_);rw[show 0+I.toNat*1=i by omega,show q-I.toNat=q-i by omega];obtain⟨m1,em1⟩:∃z,z=q-i:=⟨_,rfl⟩;rw[<-em1];refine zc ?_;rw[e_cpy hA];have hv1:=hv.ext x1 hvb;obtain⟨h2,k1,k2,k3⟩:=copy_own (m:=m1) (c:=c') (cp:=1) (ns:=1) (o:=i) (k:=1) (l:=[v]) (a:=⟨vb,0,none⟩) o1 (by show min 1 m1=1;omega) (hv1.readG (o:=0) (n:=1) (by simp)) rfl (by omega) (by simp[hokv]);refine⟨_,h2,k1,?_⟩;refine zc ?_;have e5:arith .add .i64 I 1=I+1:=add64 hA (by omega) (by omega);rw[e5];refine slc_anyE hA TLL (n:=q) ecq (by omega) (i:=I+1) (by omega) (by omega) (fun c2=>?_);rw[show 0+(I+1).toNat*1=i+1 by omega,show q-(I+1).toNat=n-i by omega];obtain⟨m2,em2⟩:∃z,z=n-i:=⟨_,rfl⟩;obtain⟨i1,ei1⟩:∃z,z=i+1:=⟨_,rfl⟩;rw[<-em2,<-ei1];refine zc ?_;refine slcX_lo hA TLL (by omega) eI hi ?_;rw[show 0+i*1=i by omega,<-em2];refine zc ?_;rw[e_cpy hA,e_fresh hA,e_bump hA];have hm2:Own (h2.bump 9).freshed b 1 cs:=k3.own (hm.ext x1 hb) (by omega);have o2:Own (h2.bump 9).freshed nx 1 (xs.take i++([v]++xs.drop (i+1))):=k2;obtain⟨h3,p1,p2,p3⟩:=copy_own (m:=m2) (c:=c2) (cp:=m2) (ns:=m2) (o:=i1) (k:=m2) (l:=cs.drop i) (a:=⟨b,i,none⟩) o2 (Nat.min_self _) (by rw[hm2.readG (by omega),List.take_of_length_le (by simp;omega)]) (by simp;omega) (by simp;omega) (by rw[List.all_eq_true]at hok ⊢;exact fun v hv=>hok v (List.mem_of_mem_drop hv));refine⟨_,h3,p1,?_⟩;obtain⟨k,ek⟩:∃z:Int,z=m2:=⟨_,rfl⟩;rw[<-ek];refine zc ?_;refine⟨.inr trivial,_,rfl,rfl,?_⟩;rw[ecq,eq];have hxt:xs.take i=cs.take i:=by rw[exs,List.take_append_of_le_length (by simp;omega),List.take_take,Nat.min_self]
 have hys:(xs.take i++([v]++xs.drop (i+1))).take i1++(cs.drop i++(xs.take i++([v]++xs.drop (i+1))).drop (i1+m2))=cs.take i++v :: cs.drop i:=by
  have z1:(xs.take i++([v]++xs.drop (i+1))).drop (i1+m2)=[]:=List.drop_eq_nil_of_le (by simp[hxl];omega);have z2:(xs.take i++([v]++xs.drop (i+1))).take i1=cs.take i++[v]:=by
   rw[<-List.append_assoc,List.take_append_of_le_length (by simp[hxl];omega),List.take_of_length_le (by simp[hxl];omega),hxt]
  rw[z1,z2];simp
 rw[hys]at p2;refine hR nx _ ?_ (by omega) ?_ ?_
 ·rw[e_lowered hA];exact p2
 ·rw[e_lowered hA]
  show nx<h3.next;rw[p3.next];show nx<h2.next+9;rw[k3.next,eh1];show nx<h.next+1+9;omega
 ·rw[e_lowered hA]
  show h.next<=Nat.min h2.low h3.low;have q1:h.next<=h2.low:=by rw[k3.low,eh1];show h.next<=Nat.min h.low nx;exact Nat.le_min.2 ⟨by omega,by omega⟩
  have q2:h.next<=h3.low:=by
   rw[p3.low];show h.next<=Nat.min (h2.next+9) nx;have:h2.next=h.next+1:=by rw[k3.next,eh1];rfl
   exact Nat.le_min.2 ⟨by omega,by omega⟩
  exact Nat.le_min.2 ⟨q1,q2⟩
theorem slcR_lo{t:TypeId}{e es:Nat}(hT:SliceT Try.prog t e es){b o n m c:Nat}(ec:c=someCap es m)(hn:m<=1000000)(hnm:n<=m){k:IntKind}{I:Int}{i:Nat}(eI:I=i)(i1:i<n){C:Option Addr->Nat->Nat->Prop}
  (h:∀c',C (some ⟨b,o+i*es,none⟩) (n-i) c'):slc t (.slice (some ⟨b,o,none⟩) n c) (some (.int k I)) none none C:=by
 subst eI;subst ec;have e_slc:slc t (.slice (some ⟨b,o,none⟩) n (someCap es m)) (some (.int k i)) none none C = ∃a' n' c',sliceA Try.prog t (.slice (some ⟨b,o,none⟩) n (someCap es m)) (some (.int k i)) none none=some (.slice a' n' c')/\C a' n' c':=by have:=hA.eq;injections;subst_vars;rfl
 rw[e_slc];have hs:m<slack:=by unfold slack;omega
 by_cases c:i=0
 ·subst c
  have h:=h (someCap es m);rw[show o+0*es=o by simp,Nat.sub_zero]at h;refine⟨_,_,_,?_,h⟩;unfold sliceA;simp only[hT.und,hT.size];unfold sliceS;simp only[boundMx,boundHi,boundLo,bound,capLow_some hs];rw[if_pos ⟨by omega,by omega⟩];simp only[ble_true hnm,blt_false (someCap_ge es m),cond_true,cond_false,Option.isSome_none,Bool.or_false];rfl
 ·refine⟨_,_,_,?_,h (someCap es (m-i))⟩
  unfold sliceA;simp only[hT.und,hT.size];unfold sliceS;simp only[boundMx,boundHi,boundLo,bound,capLow_some hs];rw[if_pos ⟨by omega,by omega⟩];simp only[ble_true hnm,blt_false (someCap_ge es m),cond_true,cond_false,Option.isSome_none,Bool.or_false,someCap_div hs];rw[nbeq (show(i:Int).toNat≠0 by omega),blt_true (show(i:Int).toNat<m by omega)];simp[aadd]
set_option maxHeartbeats 1000000 in
theorem ins_room(hF:CallOK Try.prog F)(hov:∀a b h',overlapsF a b=some h'->F 118 a b=some h'){h:AHeap}(hlow:h.low=h.next){b vb n i:Nat}{I:Int}(eI:I=i){cs:List Value}{v:Value}(hb:b<h.next)(hm:Own h b 1 (cs++[.chan none]))(hl:cs.length=n)(hvb:vb<h.next)(hne:b≠vb)(hv:Own h vb 1 [v])(hi:i<n)(hn:n<=1000)(hok:cs.all cellOK=true)(hokv:cellOK v=true){R:Value->AHeap->Prop}
  (hR:∀h',Own h' b 1 (cs.take i++v :: cs.drop i)->h.next<=h'.next->(∀k,k≠b->h'.m.get k=h.m.get k)->b<=h'.low->R (.slice (some ⟨b,0,none⟩) (n+1) (someCap 1 (n+1))) h') :
  WNs progU Try.f100.ntmps cIns ⟨argsL [.slice (some ⟨b,0,none⟩) n (someCap 1 (n+1)),.int .i64 I,.slice (some ⟨vb,0,none⟩) 1 1] 0 [],0,[],h⟩ (fun e s'=>(e=.normal\/e=.ret)/\∃v,lk s'.env 6=some v/\noLoc v=true/\R v s'.h):=by
 have run:=fun {c:Code} {s:SS} {Q:Exit->SS->Prop} (hl:loopsOf c=[]) (hr:rangesOf c=[])=>WNs.run hA.toAOK live mixed hF named Try.func100 cIns_is (c:=c) hl hr (s:=s) (Q:=Q)
 have e1:ofNat 1=1:=e_ofNat hA 1;obtain⟨N,eN⟩:∃z:Int,z=n:=⟨_,rfl⟩;have e2:ofNat n=N:=by rw[eN];exact e_ofNat hA n
 obtain⟨q,eq⟩:∃z,z=n+1:=⟨_,rfl⟩;obtain⟨cq,ecq⟩:∃z,z=someCap 1 q:=⟨_,rfl⟩;rw[<-eq,<-ecq];refine WNs.seq (run rfl rfl (zc ?_));refine WNs.seq (run rfl rfl (zc ?_));refine slcR_lo hA TLL (m:=q) ecq (by omega) (by omega) eI hi (fun c'=>?_);refine zc ?_;refine WNs.seq (run rfl rfl (zc ?_));rw[e1];refine WNs.seq (run rfl rfl (zc ?_));rw[show cmp .eql 1 0=false by rw[e_eql hA];rfl];refine zc ?_;refine WNs.seq (run rfl rfl (zc ?_));rw[e2];refine WNs.seq (run rfl rfl (zc ?_));rw[show cmp .eql I N=false by rw[e_eql hA];simp;omega];refine zc ?_;refine WNs.lessE (env0:=[(0,.slice (some ⟨b,0,none⟩) n cq),(1,.int .i64 I),(2,.slice (some ⟨vb,0,none⟩) 1 1),(7,.int .i64 1),(8,.int .i64 N)]) (fun p hp=>?_) ?_
 ·simp only[List.mem_cons,List.not_mem_nil,or_false]at hp
  rcases hp with rfl|rfl|rfl|rfl|rfl<;>rfl
 refine WNs.seq (WNs.seq (WNs.room (n:=n) (b:=b) (off:=0) (k:=cq) (by decide) rfl rfl rfl rfl rfl rfl rfl rfl rfl rfl rfl rfl rfl rfl rfl rfl rfl rfl rfl TLL.und (by rw[eN];rfl) rfl rfl (fun p hp=>?_) hn (by rw[ecq,capLow_some (by unfold slack;omega)];omega) ?_))
 ·simp only[List.mem_cons,List.not_mem_nil,or_false]at hp
  rcases hp with rfl|rfl|rfl|rfl|rfl<;>simp
 refine run rfl rfl (zc ?_);refine run rfl rfl (zc ?_);have e3:arith .add .i64 N 1=q:=by rw[add64 hA (by omega) (by omega)];omega
 rw[e3];obtain⟨qI,eqI⟩:∃z:Int,z=q:=⟨_,rfl⟩;rw[<-eqI];refine⟨by rw[e_cut hA,ecq,capLow_some (by unfold slack;omega)];omega,?_⟩;refine zc ?_;rw[show nat qI=q by rw[e_nat hA];omega];have e5:arith .add .i64 I 1=I+1:=add64 hA (by omega) (by omega);rw[e5];obtain⟨I1,eI1⟩:∃z:Int,z=I+1:=⟨_,rfl⟩;rw[<-eI1];refine slcR_lo hA TLL (n:=q) (m:=q) ecq (by omega) (by omega) (i:=i+1) (by omega) (by omega) (fun c2=>?_);rw[show 0+(i+1)*1=i+1 by omega,show q-(i+1)=n-i by omega];obtain⟨m2,em2⟩:∃z,z=n-i:=⟨_,rfl⟩;obtain⟨i1,ei1⟩:∃z,z=i+1:=⟨_,rfl⟩;rw[<-em2,<-ei1];refine zc ?_;have ov:F 118 [.slice (some ⟨vb,0,none⟩) 1 1,.slice (some ⟨b,i1,none⟩) m2 c2] h=some (.bool false,h):=by
  refine hov _ _ _ ?_;unfold overlapsF;have q1:h.m.get vb=some (.live true 1 [v]):=hv;obtain⟨z,zs,hz⟩:∃z zs,cs++[.chan none]=z :: zs:=by
   cases cs with
   |nil=>exact⟨_,_,rfl⟩
   |cons z zs=>exact⟨_,_,rfl⟩
  have q2:h.m.get b=some (.live true 1 (z :: zs)):=by rw[<-hz];exact hm
  simp only[q1,q2];rw[nbeq (fun e=>hne e.symm)];rfl
 refine hA.prim ov ?_;refine⟨false,rfl,?_⟩;refine zc ?_;rw[show bnot false=true by rw[e_bnot hA];rfl];refine zc ?_;rw[e5,<-eI1];refine slcR_lo hA TLL (n:=q) (m:=q) ecq (by omega) (by omega) (i:=i1) (by omega) (by omega) (fun c3=>?_);rw[show 0+i1*1=i1 by omega,show q-i1=m2 by omega];refine zc ?_;refine slcR_lo hA TLL (n:=q) (m:=q) ecq (by omega) (by omega) (i:=i) eI (by omega) (fun c4=>?_);obtain⟨m3,em3⟩:∃z,z=q-i:=⟨_,rfl⟩;rw[show 0+i*1=i by omega,<-em3];refine zc ?_;have al:∀l:List Value,(∀v∈l,v∈cs)->l.all cellOK=true:=fun l q=>by rw[List.all_eq_true]at hok ⊢;exact fun v hv=>hok v (q v hv)
 rw[e_cpy hA,e_fresh hA,e_bump hA];have hm2:Own (h.bump 9).freshed b 1 (cs++[.chan none]):=hm;have hrd:(cs++[Value.chan none]).length=n+1:=by simp[hl]
 obtain⟨h3,p1,p2,p3⟩:=copy_own (m:=m2) (c:=c3) (cp:=c4) (ns:=m3) (o:=i1) (k:=m2) (l:=cs.drop i) (a:=⟨b,i,none⟩) hm2 (by show min m3 m2=m2;omega) (by rw[hm2.readG (by omega),List.drop_append_of_le_length (by omega),List.take_append_of_le_length (by simp;omega),List.take_of_length_le (by simp;omega)]) (by simp;omega) (by omega) (al _ (fun v hv=>List.mem_of_mem_drop hv));refine⟨_,h3,p1,?_⟩;obtain⟨k,ek⟩:∃z:Int,z=m2:=⟨_,rfl⟩;rw[<-ek];obtain⟨ys,eys⟩:∃z,z=(cs++[Value.chan none]).take i1++(cs.drop i++(cs++[Value.chan none]).drop (i1+m2)):=⟨_,rfl⟩;rw[<-eys]at p2;have yl:ys.length=n+1:=by rw[eys];simp;omega
 refine zc ?_;rw[e_lowered hA];generalize eh4:h3.lowered _=h4;have o4:Own h4 b 1 ys:=by rw[<-eh4];exact p2
 have n4:h4.next=h.next+9:=by rw[<-eh4];show h3.next=_;rw[p3.next];rfl
 have g4:∀k,k≠b->h4.m.get k=h.m.get k:=fun k hk=>by rw[<-eh4];exact p3.get k hk
 have l4:b<=h4.low:=by
  rw[<-eh4];show b<=Nat.min h.low h3.low;rw[p3.low];show b<=Nat.min h.low (Nat.min (h.next+9) b);exact Nat.le_min.2 ⟨by omega,Nat.le_min.2 ⟨by omega,Nat.le_refl _⟩⟩
 refine slcR_lo hA TLL (n:=q) (m:=q) ecq (by omega) (by omega) (i:=i) eI (by omega) (fun c5=>?_);rw[show 0+i*1=i by omega,<-em3];refine zc ?_;rw[e_cpy hA];obtain⟨h5,r1,r2,r3⟩:=copy_own (m:=m3) (c:=c5) (cp:=1) (ns:=1) (o:=i) (k:=1) (l:=[v]) (a:=⟨vb,0,none⟩) o4 (by show min 1 m3=1;omega) ((hv.of_get (g4 vb (fun e=>hne e.symm))).readG (o:=0) (n:=1) (by simp)) rfl (by omega) (by simp[hokv]);refine⟨_,h5,r1,?_⟩;refine zc ?_;refine⟨.inr trivial,_,rfl,rfl,?_⟩;rw[ecq,eq];have hxt:ys.take i=cs.take i:=by rw[eys,List.take_append_of_le_length (by simp;omega),List.take_take,Nat.min_eq_left (by omega),List.take_append_of_le_length (by omega)]
 have hyd:ys.drop (i+1)=cs.drop i:=by
  have z1:(cs++[Value.chan none]).drop (i1+m2)=[]:=List.drop_eq_nil_of_le (by simp;omega);rw[eys,z1,List.append_nil,List.drop_append_of_le_length (by simp;omega),List.drop_eq_nil_of_le (by simp;omega),List.nil_append]
 rw[hxt,hyd]at r2;refine hR h5 r2 (by rw[r3.next,n4];omega) (fun k hk=>by rw[r3.get k hk,g4 k hk]) ?_;rw[r3.low];exact Nat.le_min.2 ⟨l4,Nat.le_refl _⟩
