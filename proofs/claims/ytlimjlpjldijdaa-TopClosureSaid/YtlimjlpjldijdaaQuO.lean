import Derived.Test.YtlimjlpjldijdaaCxM
import Derived.KernelRfl
import Derived.Test.YtlimjlpjldijdaaSortH
set_option linter.unusedSimpArgs false
set_option linter.unusedVariables false
namespace Go.Proofs.Ytlimjlpjldijdaa
open Go.Sim
set_option maxRecDepth 100000
def i64(n:Int):Prop:=-9223372036854775808<=n/\n<9223372036854775808
def u64(n:Int):Prop:=0<=n/\n<18446744073709551616
variable{F:Prims}{call head arith cmp scmp bnot bsame conv neg imax imin ofNat slen place inR nz geZ rd wr push next mkOK nat zeros sadd eqAgg cut slc sslc strAt part app cpy putAt fresh lowered bump wrote addN lt ne fpAll fpApp brk yn rng mget mput mnew bytes clr mrng ment:_}(hA:AP F ⟨call,head,arith,cmp,scmp,bnot,bsame,conv,neg,imax,imin,ofNat,slen,place,inR,nz,geZ,rd,wr,push,next,mkOK,nat,zeros,sadd,eqAgg,cut,slc,sslc,strAt,part,app,cpy,putAt,fresh,lowered,bump,wrote,addN,lt,ne,fpAll,fpApp,brk,yn,rng,mget,mput,mnew,bytes,clr,mrng,ment⟩)
include hA
end Go.Proofs.Ytlimjlpjldijdaa
namespace Go.Proofs.Ytlimjlpjldijdaa
open Go.Sim
set_option maxRecDepth 100000
def tabOK(s:ByteArray):Bool:=Nat.beq s.size 256 && (List.range 256).all fun i=>Nat.blt i (2 ^ (s[i]!).toNat) && Nat.ble (2 ^ (s[i]!).toNat) (2*Nat.max i 1) && Nat.ble (s[i]!).toNat 8
theorem tab_at{s:ByteArray}(ht:tabOK s=true){i:Int}(h0:0<=i)(h1:i<256):∃n:Nat,sat s i=n/\i<2 ^ n/\(2:Int) ^ n<=2*max i 1/\n<=8/\i.toNat<s.size:=by
 unfold tabOK at ht;rw[Bool.and_eq_true,List.all_eq_true]at ht;obtain⟨t1,t2⟩:=ht;have hs:s.size=256:=Nat.eq_of_beq_eq_true t1;have t3:=t2 i.toNat (List.mem_range.2 (by omega));simp only[Bool.and_eq_true]at t3;obtain⟨⟨t4,t5⟩,t6⟩:=t3;have t4':i.toNat<2 ^ (s[i.toNat]!).toNat:=Nat.le_of_ble_eq_true t4;have t5':2 ^ (s[i.toNat]!).toNat<=2*Nat.max i.toNat 1:=Nat.le_of_ble_eq_true t5;have t6':(s[i.toNat]!).toNat<=8:=Nat.le_of_ble_eq_true t6;refine⟨(s[i.toNat]!).toNat,?_,?_,?_,t6',by omega⟩
 ·unfold sat
  have hi:i.toNat<s.size:=by omega
  simp[hi]
 ·have:((2 ^ (s[i.toNat]!).toNat:Nat):Int)=2 ^ (s[i.toNat]!).toNat:=by push_cast;rfl
  omega
 ·have e:((2 ^ (s[i.toNat]!).toNat:Nat):Int)=2 ^ (s[i.toNat]!).toNat:=by push_cast;rfl
  have:Nat.max i.toNat 1=max i.toNat 1:=rfl;rw[<-e];omega
def isLen(x n:Int):Prop:=0<=n/\x<2 ^ n.toNat/\(2:Int) ^ n.toNat<=2*max x 1
variable{F:Prims}{call head arith cmp scmp bnot bsame conv neg imax imin ofNat slen place inR nz geZ rd wr push next mkOK nat zeros sadd eqAgg cut slc sslc strAt part app cpy putAt fresh lowered bump wrote addN lt ne fpAll fpApp brk yn rng mget mput mnew bytes clr mrng ment:_}(hA:AP F ⟨call,head,arith,cmp,scmp,bnot,bsame,conv,neg,imax,imin,ofNat,slen,place,inR,nz,geZ,rd,wr,push,next,mkOK,nat,zeros,sadd,eqAgg,cut,slc,sslc,strAt,part,app,cpy,putAt,fresh,lowered,bump,wrote,addN,lt,ne,fpAll,fpApp,brk,yn,rng,mget,mput,mnew,bytes,clr,mrng,ment⟩)
include hA
end Go.Proofs.Ytlimjlpjldijdaa
namespace Go.Proofs.Ytlimjlpjldijdaa
open Go.Sim
set_option maxRecDepth 100000
theorem isLen_of{x w K c:Int}{t k:Nat}(hx:0<=x)(hw:w=x / K)(hK:K=2 ^ k)(hz:k=0\/1<=w)(q1:w<2 ^ t)(q2:(2:Int) ^ t<=2*max w 1)(hc:c=t):isLen x (k+c):=by
 have e:((k:Int)+c).toNat=k+t:=by omega
 have hp:(0:Int)<2 ^ t:=Int.pow_pos (by omega);have hkp:(0:Int)<K:=by rw[hK];exact Int.pow_pos (by omega)
 refine⟨by omega,?_,?_⟩<;>rw[e,Int.pow_add,<-hK]
 ·have h1:w+1<=2 ^ t:=by omega
  have h2:=Int.mul_le_mul_of_nonneg_left h1 (Int.le_of_lt hkp);have h3:=Int.lt_mul_ediv_self_add (x:=x) hkp;rw[<-hw]at h3;have h4:K*(w+1)=K*w+K:=by grind
  omega
 ·rcases hz with rfl|hz
  ·have:K=1:=by rw[hK];rfl
   subst this;rw[Int.ediv_one]at hw;rw[Int.one_mul,<-hw];exact q2
  ·have h1:(2:Int) ^ t<=2*w:=by omega
   have h2:=Int.mul_le_mul_of_nonneg_left h1 (Int.le_of_lt hkp);have h3:=Int.mul_ediv_self_le (x:=x) (k:=K) (by omega);rw[<-hw]at h3;have h4:K*(2*w)=2*(K*w):=by grind
   omega
variable{F:Prims}{call head arith cmp scmp bnot bsame conv neg imax imin ofNat slen place inR nz geZ rd wr push next mkOK nat zeros sadd eqAgg cut slc sslc strAt part app cpy putAt fresh lowered bump wrote addN lt ne fpAll fpApp brk yn rng mget mput mnew bytes clr mrng ment:_}(hA:AP F ⟨call,head,arith,cmp,scmp,bnot,bsame,conv,neg,imax,imin,ofNat,slen,place,inR,nz,geZ,rd,wr,push,next,mkOK,nat,zeros,sadd,eqAgg,cut,slc,sslc,strAt,part,app,cpy,putAt,fresh,lowered,bump,wrote,addN,lt,ne,fpAll,fpApp,brk,yn,rng,mget,mput,mnew,bytes,clr,mrng,ment⟩)
include hA
theorem strAt_tab{s:ByteArray}(ht:tabOK s=true){w:Int}(h0:0<=w)(h1:w<256){C:Int->Prop}(hC:∀(t:Nat) (c:Int),c=t->w<2 ^ t->(2:Int) ^ t<=2*max w 1->t<=8->C c):strAt s w C:=by
 obtain⟨t,q1,q2,q3,q4,q5⟩:=tab_at ht h0 h1;exact strAt_ok hA h0 (by omega) (fun c hc _ _=>hC t c (by rw[hc,q1]) q2 q3 q4)
theorem len64_ok{h:AHeap}(hlow:h.low<=h.next){x:Int}(hx:u64 x){Q:Value->AHeap->Prop}(hQ:∀n:Int,isLen x n->Q (.int .i64 n) h):call 84 [.int .u64 x] h Q:=by
 obtain⟨x0,x1⟩:=hx;refine hA.bodyR Try.func84 r84_ok (hA.alike _ _ _ rfl) hlow (zc ?_);refine br (4294967296<=x) (by rw[e_geq hA]) (fun c32=>?_) (fun c32=>?_)<;>refine zc ?_
 ·refine⟨geZ_ok hA (by omega),?_⟩
  refine zc ?_;have hs32:arith .shr .u64 x 32=x / 4294967296:=shrU hA (by omega) 32 (by omega) (by rfl);rw[hs32];obtain⟨z,hz⟩:∃q,q=x / 4294967296:=⟨_,rfl⟩;rw[<-hz];refine zc ?_;refine br (65536<=z) (by rw[e_geq hA]) (fun c16=>?_) (fun c16=>?_)<;>refine zc ?_
  ·refine⟨geZ_ok hA (by omega),?_⟩
   refine zc ?_;have hs16:arith .shr .u64 z 16=z / 65536:=shrU hA (by omega) 16 (by omega) (by rfl);rw[hs16];obtain⟨y,hy⟩:∃q,q=z / 65536:=⟨_,rfl⟩;rw[<-hy];have en16:arith .add .i64 32 16=48:=add64 hA (by omega) (by omega);refine zc ?_;rw[en16];refine zc ?_;refine br (256<=y) (by rw[e_geq hA]) (fun c8=>?_) (fun c8=>?_)<;>refine zc ?_
   ·refine⟨geZ_ok hA (by omega),?_⟩
    refine zc ?_;have hs8:arith .shr .u64 y 8=y / 256:=shrU hA (by omega) 8 (by omega) (by rfl);rw[hs8];obtain⟨w0,hw0⟩:∃q,q=y / 256:=⟨_,rfl⟩;rw[<-hw0];have en8:arith .add .i64 48 8=56:=add64 hA (by omega) (by omega);refine zc ?_;rw[en8];refine zc ?_;obtain⟨w,hw⟩:∃q,q=w0:=⟨_,rfl⟩;rw[<-hw];refine zc ?_;have hw0:0<=w:=by omega
    have hw1:w<256:=by omega
    rw[conv8 hA hw0 hw1];refine strAt_tab hA (by kernel_rfl) hw0 hw1 (fun t c ht q1 q2 q3=>?_);refine zc ?_;have ec:conv .i64 c=c:=conv64 hA (by omega) (by omega);have ea:arith .add .i64 56 c=56+c:=add64 hA (by omega) (by omega);rw[ec,ea];refine hQ _ (isLen_of (k:=56) (K:=72057594037927936) (t:=t) x0 (w:=w) (by omega) (by rfl) (by omega) q1 q2 ht)
   ·obtain⟨w0,hw0⟩:∃q,q=y:=⟨_,rfl⟩
    rw[<-hw0];refine zc ?_;obtain⟨w,hw⟩:∃q,q=w0:=⟨_,rfl⟩;rw[<-hw];refine zc ?_;have hw0:0<=w:=by omega
    have hw1:w<256:=by omega
    rw[conv8 hA hw0 hw1];refine strAt_tab hA (by kernel_rfl) hw0 hw1 (fun t c ht q1 q2 q3=>?_);refine zc ?_;have ec:conv .i64 c=c:=conv64 hA (by omega) (by omega);have ea:arith .add .i64 48 c=48+c:=add64 hA (by omega) (by omega);rw[ec,ea];refine hQ _ (isLen_of (k:=48) (K:=281474976710656) (t:=t) x0 (w:=w) (by omega) (by rfl) (by omega) q1 q2 ht)
  ·obtain⟨y,hy⟩:∃q,q=z:=⟨_,rfl⟩
   rw[<-hy];refine zc ?_;refine br (256<=y) (by rw[e_geq hA]) (fun c8=>?_) (fun c8=>?_)<;>refine zc ?_
   ·refine⟨geZ_ok hA (by omega),?_⟩
    refine zc ?_;have hs8:arith .shr .u64 y 8=y / 256:=shrU hA (by omega) 8 (by omega) (by rfl);rw[hs8];obtain⟨w0,hw0⟩:∃q,q=y / 256:=⟨_,rfl⟩;rw[<-hw0];have en8:arith .add .i64 32 8=40:=add64 hA (by omega) (by omega);refine zc ?_;rw[en8];refine zc ?_;obtain⟨w,hw⟩:∃q,q=w0:=⟨_,rfl⟩;rw[<-hw];refine zc ?_;have hw0:0<=w:=by omega
    have hw1:w<256:=by omega
    rw[conv8 hA hw0 hw1];refine strAt_tab hA (by kernel_rfl) hw0 hw1 (fun t c ht q1 q2 q3=>?_);refine zc ?_;have ec:conv .i64 c=c:=conv64 hA (by omega) (by omega);have ea:arith .add .i64 40 c=40+c:=add64 hA (by omega) (by omega);rw[ec,ea];refine hQ _ (isLen_of (k:=40) (K:=1099511627776) (t:=t) x0 (w:=w) (by omega) (by rfl) (by omega) q1 q2 ht)
   ·obtain⟨w0,hw0⟩:∃q,q=y:=⟨_,rfl⟩
    rw[<-hw0];refine zc ?_;obtain⟨w,hw⟩:∃q,q=w0:=⟨_,rfl⟩;rw[<-hw];refine zc ?_;have hw0:0<=w:=by omega
    have hw1:w<256:=by omega
    rw[conv8 hA hw0 hw1];refine strAt_tab hA (by kernel_rfl) hw0 hw1 (fun t c ht q1 q2 q3=>?_);refine zc ?_;have ec:conv .i64 c=c:=conv64 hA (by omega) (by omega);have ea:arith .add .i64 32 c=32+c:=add64 hA (by omega) (by omega);rw[ec,ea];refine hQ _ (isLen_of (k:=32) (K:=4294967296) (t:=t) x0 (w:=w) (by omega) (by rfl) (by omega) q1 q2 ht)
 ·obtain⟨z,hz⟩:∃q,q=x:=⟨_,rfl⟩
  rw[<-hz];refine zc ?_;refine br (65536<=z) (by rw[e_geq hA]) (fun c16=>?_) (fun c16=>?_)<;>refine zc ?_
  ·refine⟨geZ_ok hA (by omega),?_⟩
   refine zc ?_;have hs16:arith .shr .u64 z 16=z / 65536:=shrU hA (by omega) 16 (by omega) (by rfl);rw[hs16];obtain⟨y,hy⟩:∃q,q=z / 65536:=⟨_,rfl⟩;rw[<-hy];have en16:arith .add .i64 0 16=16:=add64 hA (by omega) (by omega);refine zc ?_;rw[en16];refine zc ?_;refine br (256<=y) (by rw[e_geq hA]) (fun c8=>?_) (fun c8=>?_)<;>refine zc ?_
   ·refine⟨geZ_ok hA (by omega),?_⟩
    refine zc ?_;have hs8:arith .shr .u64 y 8=y / 256:=shrU hA (by omega) 8 (by omega) (by rfl);rw[hs8];obtain⟨w0,hw0⟩:∃q,q=y / 256:=⟨_,rfl⟩;rw[<-hw0];have en8:arith .add .i64 16 8=24:=add64 hA (by omega) (by omega);refine zc ?_;rw[en8];refine zc ?_;obtain⟨w,hw⟩:∃q,q=w0:=⟨_,rfl⟩;rw[<-hw];refine zc ?_;have hw0:0<=w:=by omega
    have hw1:w<256:=by omega
    rw[conv8 hA hw0 hw1];refine strAt_tab hA (by kernel_rfl) hw0 hw1 (fun t c ht q1 q2 q3=>?_);refine zc ?_;have ec:conv .i64 c=c:=conv64 hA (by omega) (by omega);have ea:arith .add .i64 24 c=24+c:=add64 hA (by omega) (by omega);rw[ec,ea];refine hQ _ (isLen_of (k:=24) (K:=16777216) (t:=t) x0 (w:=w) (by omega) (by rfl) (by omega) q1 q2 ht)
   ·obtain⟨w0,hw0⟩:∃q,q=y:=⟨_,rfl⟩
    rw[<-hw0];refine zc ?_;obtain⟨w,hw⟩:∃q,q=w0:=⟨_,rfl⟩;rw[<-hw];refine zc ?_;have hw0:0<=w:=by omega
    have hw1:w<256:=by omega
    rw[conv8 hA hw0 hw1];refine strAt_tab hA (by kernel_rfl) hw0 hw1 (fun t c ht q1 q2 q3=>?_);refine zc ?_;have ec:conv .i64 c=c:=conv64 hA (by omega) (by omega);have ea:arith .add .i64 16 c=16+c:=add64 hA (by omega) (by omega);rw[ec,ea];refine hQ _ (isLen_of (k:=16) (K:=65536) (t:=t) x0 (w:=w) (by omega) (by rfl) (by omega) q1 q2 ht)
  ·obtain⟨y,hy⟩:∃q,q=z:=⟨_,rfl⟩
   rw[<-hy];refine zc ?_;refine br (256<=y) (by rw[e_geq hA]) (fun c8=>?_) (fun c8=>?_)<;>refine zc ?_
   ·refine⟨geZ_ok hA (by omega),?_⟩
    refine zc ?_;have hs8:arith .shr .u64 y 8=y / 256:=shrU hA (by omega) 8 (by omega) (by rfl);rw[hs8];obtain⟨w0,hw0⟩:∃q,q=y / 256:=⟨_,rfl⟩;rw[<-hw0];have en8:arith .add .i64 0 8=8:=add64 hA (by omega) (by omega);refine zc ?_;rw[en8];refine zc ?_;obtain⟨w,hw⟩:∃q,q=w0:=⟨_,rfl⟩;rw[<-hw];refine zc ?_;have hw0:0<=w:=by omega
    have hw1:w<256:=by omega
    rw[conv8 hA hw0 hw1];refine strAt_tab hA (by kernel_rfl) hw0 hw1 (fun t c ht q1 q2 q3=>?_);refine zc ?_;have ec:conv .i64 c=c:=conv64 hA (by omega) (by omega);have ea:arith .add .i64 8 c=8+c:=add64 hA (by omega) (by omega);rw[ec,ea];refine hQ _ (isLen_of (k:=8) (K:=256) (t:=t) x0 (w:=w) (by omega) (by rfl) (by omega) q1 q2 ht)
   ·obtain⟨w0,hw0⟩:∃q,q=y:=⟨_,rfl⟩
    rw[<-hw0];refine zc ?_;obtain⟨w,hw⟩:∃q,q=w0:=⟨_,rfl⟩;rw[<-hw];refine zc ?_;have hw0:0<=w:=by omega
    have hw1:w<256:=by omega
    rw[conv8 hA hw0 hw1];refine strAt_tab hA (by kernel_rfl) hw0 hw1 (fun t c ht q1 q2 q3=>?_);refine zc ?_;have ec:conv .i64 c=c:=conv64 hA (by omega) (by omega);have ea:arith .add .i64 0 c=0+c:=add64 hA (by omega) (by omega);rw[ec,ea];refine hQ _ (isLen_of (k:=0) (K:=1) (t:=t) x0 (w:=w) (by omega) (by rfl) (by omega) q1 q2 ht)
end Go.Proofs.Ytlimjlpjldijdaa
namespace Go.Proofs.Ytlimjlpjldijdaa
open Go.Sim
set_option maxRecDepth 100000
def cmpI(a b:Int):Int:=if a<b then -1 else if b<a then 1 else 0
def orI(a b:Int):Int:=if a≠0 then a else b
variable{F:Prims}{call head arith cmp scmp bnot bsame conv neg imax imin ofNat slen place inR nz geZ rd wr push next mkOK nat zeros sadd eqAgg cut slc sslc strAt part app cpy putAt fresh lowered bump wrote addN lt ne fpAll fpApp brk yn rng mget mput mnew bytes clr mrng ment:_}(hA:AP F ⟨call,head,arith,cmp,scmp,bnot,bsame,conv,neg,imax,imin,ofNat,slen,place,inR,nz,geZ,rd,wr,push,next,mkOK,nat,zeros,sadd,eqAgg,cut,slc,sslc,strAt,part,app,cpy,putAt,fresh,lowered,bump,wrote,addN,lt,ne,fpAll,fpApp,brk,yn,rng,mget,mput,mnew,bytes,clr,mrng,ment⟩)
include hA
theorem isNaN_ok{h:AHeap}(hlow:h.low<=h.next){x:Int}{Q:Value->AHeap->Prop}(hQ:Q (.bool false) h):call 74 [.int .i64 x] h Q:=by
 refine hA.bodyR Try.func74 r74_ok (hA.alike _ _ _ rfl) hlow (zc ?_);rw[e_neq hA,show decide (x≠x)=false by simp];exact hQ
theorem compare_int_ok{h:AHeap}(hlow:h.low<=h.next){a b:Int}{Q:Value->AHeap->Prop}(hQ:∀c,c=cmpI a b->Q (.int .i64 c) h):call 66 [.int .i64 a,.int .i64 b] h Q:=by
 refine hA.bodyR Try.func66 r66_ok (hA.alike _ _ _ rfl) hlow (zc ?_);refine isNaN_ok hA hlow ⟨_,rfl,?_⟩;refine zc ?_;refine isNaN_ok hA hlow ⟨_,rfl,?_⟩;refine zc ?_;refine br (a<b) (by rw[e_lss hA]) (fun c=>?_) (fun c=>?_)<;>refine zc ?_
 ·exact hQ _ (by unfold cmpI;rw[if_pos c])
 refine br (b<a) (by rw[e_gtr hA]) (fun c1=>?_) (fun c1=>?_)<;>refine zc ?_
 ·exact hQ _ (by unfold cmpI;rw[if_neg c,if_pos c1])
 ·exact hQ _ (by unfold cmpI;rw[if_neg c,if_neg c1])
theorem or2_ok{h:AHeap}(hlow:h.low<=h.next){b c:Nat}{x y:Int}(hr:h.readG ⟨b,0,none⟩ 1=some [.int .i64 x])(hr2:h.readG ⟨b,0+1,none⟩ 1=some [.int .i64 y]){Q:Value->AHeap->Prop}(hQ:∀r,r=orI x y->Q (.int .i64 r) h):call 65 [.slice (some ⟨b,0,none⟩) 2 c] h Q:=by
 have q1:rd h b (place 0 0 1) 1 [.int .i64 x]:=by rw[e_rd hA,e_place hA];exact hr
 have q2:rd h b (place 0 1 1) 1 [.int .i64 y]:=by rw[e_rd hA,e_place hA];exact hr2
 refine hA.bodyR Try.func65 r65_ok (hA.alike _ _ _ rfl) hlow (zc ?_);rw[show ofNat 2=2 from e_ofNat hA 2];refine hA.roundR Try.func65 r65_ok (zc ?_);refine br True (by rw[e_lss hA];rfl) (fun _=>?_) (fun q=>absurd trivial q)<;>refine zc ?_;refine zq ?_;refine br (x≠0) (by rw[e_neq hA]) (fun c=>?_) (fun c=>?_)<;>refine zc ?_
 ·exact hQ _ (by unfold orI;rw[if_pos c])
 rw[show arith .add .i64 0 1=1 by rw[add64 hA (by omega) (by omega)];rfl];refine hA.roundR Try.func65 r65_ok (zc ?_);refine br True (by rw[e_lss hA];rfl) (fun _=>?_) (fun q=>absurd trivial q)<;>refine zc ?_;refine zq ?_;refine br (y≠0) (by rw[e_neq hA]) (fun c1=>?_) (fun c1=>?_)<;>refine zc ?_
 ·exact hQ _ (by unfold orI;rw[if_neg c])
 rw[show arith .add .i64 1 1=2 by rw[add64 hA (by omega) (by omega)];rfl];refine hA.roundR Try.func65 r65_ok (zc ?_);refine br False (by rw[e_lss hA];rfl) (fun q=>q.elim) (fun _=>?_)<;>refine zc ?_;exact hQ _ (by unfold orI;rw[if_neg c];omega)
end Go.Proofs.Ytlimjlpjldijdaa
namespace Go.Proofs.Ytlimjlpjldijdaa
open Go.Sim
set_option maxRecDepth 100000
def rqP(n d:Int):Rat:=((8*n+d:Int):Rat)
def isP(n d:Int)(q:Rat):Prop:=0<=n/\n<8/\0<=d/\d<8/\q=rqP n d
def okP(n d:Int):Prop:=∃q,isP n d q
theorem okP.is{n d:Int}(h:okP n d):isP n d (rqP n d):=by
 obtain⟨q,h1,h2,h3,h4,rfl⟩:=h;exact⟨h1,h2,h3,h4,rfl⟩
theorem cmpP_is{n d m e:Int}{p q:Rat}(hp:isP n d p)(hq:isP m e q):orI (cmpI n m) (cmpI d e)=cmpF p q:=by
 obtain⟨h1,h2,h3,h4,rfl⟩:=hp;obtain⟨k1,k2,k3,k4,rfl⟩:=hq;unfold rqP cmpF;have e1:((8*n+d:Int):Rat)<((8*m+e:Int):Rat)↔8*n+d<8*m+e:=Rat.intCast_lt_intCast;have e2:((8*n+d:Int):Rat)=((8*m+e:Int):Rat)↔8*n+d=8*m+e:=Rat.intCast_inj;simp only[e1,e2];unfold orI cmpI
 (repeat' split)<;>omega
variable{F:Prims}{call head arith cmp scmp bnot bsame conv neg imax imin ofNat slen place inR nz geZ rd wr push next mkOK nat zeros sadd eqAgg cut slc sslc strAt part app cpy putAt fresh lowered bump wrote addN lt ne fpAll fpApp brk yn rng mget mput mnew bytes clr mrng ment:_}(hA:AP F ⟨call,head,arith,cmp,scmp,bnot,bsame,conv,neg,imax,imin,ofNat,slen,place,inR,nz,geZ,rd,wr,push,next,mkOK,nat,zeros,sadd,eqAgg,cut,slc,sslc,strAt,part,app,cpy,putAt,fresh,lowered,bump,wrote,addN,lt,ne,fpAll,fpApp,brk,yn,rng,mget,mput,mnew,bytes,clr,mrng,ment⟩)
include hA
theorem pcmp_ok{h:AHeap}(hlow:h.low<=h.next){n d m e:Int}{Q:Value->AHeap->Prop}(hQ:∀(c:Int) h',c=orI (cmpI n m) (cmpI d e)->Ext h h'->Q (.int .i64 c) h') :
  call 64 [.agg #[.int .i64 n,.int .i64 d],.agg #[.int .i64 m,.int .i64 e]] h Q:=by
 refine hA.bodyR Try.func64 r64_ok (hA.alike _ _ _ rfl) hlow (zc ?_);obtain⟨h9,hh9⟩:∃z,z=bump h 13:=⟨_,rfl⟩;have e9:Ext h h9:=by rw[hh9];exact ext_bump hA _ _
 have l9:=e9.lowOK hlow;rw[<-hh9];refine compare_int_ok hA (low_fresh hA h9) (fun c1 hc1=>⟨_,rfl,?_⟩);refine zc ?_;rw[low_same hA l9];refine compare_int_ok hA (low_fresh hA h9) (fun c2 hc2=>⟨_,rfl,?_⟩);refine zc ?_;rw[low_same hA l9];rw[e_bump hA]at hh9;subst hh9;rw[e_addN hA,e_next hA,e_putAt hA];have x1:Ext h ((h.bump 13).putAt (h.next+10) 1 [.int .i64 c1,.int .i64 c2]):=ext_bumpPut h 13 (by omega) 1 _;have o1:=Own.putAt (h.bump 13) (h.next+10) 1 [.int .i64 c1,.int .i64 c2];have n1:((h.bump 13).putAt (h.next+10) 1 [.int .i64 c1,.int .i64 c2]).next=h.next+13:=rfl;generalize (h.bump 13).putAt (h.next+10) 1 [.int .i64 c1,.int .i64 c2]=X at *;have lX:=x1.lowOK hlow;have o2:Own (fresh X) (h.next+10) 1 [.int .i64 c1,.int .i64 c2]:=by rw[e_fresh hA];exact o1.ext (Ext.freshed X) (by omega)
 refine or2_ok hA (low_fresh hA X) (x:=c1) (y:=c2) (by rw[o2.readG (o:=0) (n:=1) (by simp)];rfl) (by rw[o2.readG (o:=0+1) (n:=1) (by simp)];rfl) (fun r hr=>⟨_,rfl,?_⟩);refine zc ?_;rw[low_same hA lX];exact hQ r X (by rw[hr,hc1,hc2]) x1
theorem qorder_ok{h:AHeap}(hlow:h.low<=h.next){n d m e:Int}{p q:Rat}(hp:isP n d p)(hq:isP m e q){Q:Value->AHeap->Prop}
  (hQ:∀(c:Int) h',c=cmpF p q->Ext h h'->Q (.int .i64 c) h'):call 64 [.agg #[.int .i64 n,.int .i64 d],.agg #[.int .i64 m,.int .i64 e]] h Q:=
 pcmp_ok hA hlow (fun c h' hc hx=>hQ c h' (by rw[hc,cmpP_is hp hq]) hx)
end Go.Proofs.Ytlimjlpjldijdaa
namespace Go.Proofs.Ytlimjlpjldijdaa
open Go.Sim
set_option maxRecDepth 100000
structure F2 where
 n:Int
 d:Int
instance:Inhabited F2:=⟨⟨0,1⟩⟩
def F2.cells(x:F2):List Value:=[.int .i64 x.n,.int .i64 x.d]
theorem f2_len(x:F2):x.cells.length=2:=rfl
def F2.q(x:F2):Rat:=rqP x.n x.d
def leF(x y:F2):Prop:=x.q<=y.q
theorem leF_pre:Pre leF:=⟨fun x=>Rat.le_refl,fun x y z=>Rat.le_trans,fun x y=>by unfold leF;exact Rat.le_total⟩
structure Dat(h0 h:AHeap)(b n:Nat)(L:List F2):Prop where
 ext:Ext h0 h
 own:Own h b 2 (L.flatMap F2.cells)
 old:h0.next<=b
 lt:b<h.next
 len:L.length=n
 ok:∀i:Int,0<=i->i<n->okP (gt L i).n (gt L i).d
 few:n<=100000
theorem Dat.more{h0 h h':AHeap}{b n:Nat}{L:List F2}(t:Dat h0 h b n L)(e:Ext h h'):Dat h0 h' b n L:=
 ⟨t.ext.trans e,t.own.ext e t.lt,t.old,Nat.lt_of_lt_of_le t.lt e.next,t.len,t.ok,t.few⟩
theorem Dat.read{h0 h:AHeap}{b n:Nat}{L:List F2}(t:Dat h0 h b n L){i:Int}(i0:0<=i)(i1:i<n):∃x y,gt L i=⟨x,y⟩/\isP x y (gt L i).q/\h.readG ⟨b,0+i.toNat*2,none⟩ 2=some [.int .i64 x,.int .i64 y]:=by
 have r:Rows F2.cells 2 h (some ⟨b,0,none⟩) L.length L:=Own.rows t.own f2_len (by omega) t.lt;obtain⟨b',o',e,_,h3⟩:=r.at i0 (by rw[t.len];exact i1);cases e;exact⟨(gt L i).n,(gt L i).d,rfl,(t.ok i i0 i1).is,h3 0 2 (by omega) (by omega)⟩
theorem Dat.put{h0 h:AHeap}{b n:Nat}{L:List F2}(t:Dat h0 h b n L){i:Int}(i0:0<=i)(i1:i<n){x:F2}(hx:okP x.n x.d):∃h',h.write b (i.toNat*2) x.cells=some h'/\Dat h0 h' b n (L.set i.toNat x):=by
 obtain⟨h',w1,w2,w3⟩:=Own.setRow t.own f2_len (i:=i.toNat) (by have:=t.len;omega) x;refine⟨h',w1,w3.ext t.ext t.old,w2,t.old,by rw[w3.next];exact t.lt,by rw[List.length_set];exact t.len,fun j j0 j1=>?_,t.few⟩;rw[gt_set L i0 j0 (by have:=t.len;omega)];split
 ·exact hx
 ·exact t.ok j j0 j1
variable{F:Prims}{call head arith cmp scmp bnot bsame conv neg imax imin ofNat slen place inR nz geZ rd wr push next mkOK nat zeros sadd eqAgg cut slc sslc strAt part app cpy putAt fresh lowered bump wrote addN lt ne fpAll fpApp brk yn rng mget mput mnew bytes clr mrng ment:_}(hA:AP F ⟨call,head,arith,cmp,scmp,bnot,bsame,conv,neg,imax,imin,ofNat,slen,place,inR,nz,geZ,rd,wr,push,next,mkOK,nat,zeros,sadd,eqAgg,cut,slc,sslc,strAt,part,app,cpy,putAt,fresh,lowered,bump,wrote,addN,lt,ne,fpAll,fpApp,brk,yn,rng,mget,mput,mnew,bytes,clr,mrng,ment⟩)
include hA
theorem dat_swap{h0 h:AHeap}{b n:Nat}{L:List F2}(t:Dat h0 h b n L){i j:Int}(i0:0<=i)(i1:i<n)(j0:0<=j)(j1:j<n){x1 y1 x2 y2:Int}(g1:gt L i=⟨x1,y1⟩)(g2:gt L j=⟨x2,y2⟩) :
  ∃h1 h2,wr h b (place 0 i 2) [.int .i64 x2,.int .i64 y2] h1/\wr h1 b (place 0 j 2) [.int .i64 x1,.int .i64 y1] h2/\Dat h0 h2 b n (swapL L i j):=by
 have o1:=t.ok i i0 i1;have o2:=t.ok j j0 j1;rw[g1]at o1;rw[g2]at o2;obtain⟨h1,w1,t1⟩:=t.put i0 i1 (x:=⟨x2,y2⟩) o2;obtain⟨h2,w2,t2⟩:=t1.put j0 j1 (x:=⟨x1,y1⟩) o1;refine⟨h1,h2,wr_ok hA (by rw[Nat.zero_add];exact w1),wr_ok hA (by rw[Nat.zero_add];exact w2),?_⟩;unfold swapL;rw[g1,g2];exact t2
theorem dat_low{h0 h h':AHeap}(hlow:h0.low<=h0.next){b n:Nat}{L:List F2}(t:Dat h0 h b n L)(x:Ext (fresh h) h'):Dat h0 (lowered h h') b n L:=
 t.more (ext_low hA (t.ext.lowOK hlow) (.refl h) x)
theorem ins_inner{h0:AHeap}(hlow:h0.low<=h0.next){b n c:Nat}{L0:List F2}{A B i:Int}(a0:0<=A)(ab:B<=n)(ai:A<i)(ib:i<B){Q:Exit->SS->Prop}
  (hQ:∀h' L kn,Dat h0 h' b n L->PermOn A B L0 L->SortedOn leF L A (i+1)->Q (.exit 2) ⟨[(0,.slice (some ⟨b,0,none⟩) n c),(1,.int .i64 A),(2,.int .i64 B),(3,.func (.func 64) #[] #[]),(8,.int .i64 i)],kn,[],h'⟩) :
  ∀(m:Nat) (j:Int) (h:AHeap) (L:List F2),(j-A).toNat<=m->A<=j->j<=i->Dat h0 h b n L->PermOn A B L0 L->InsOn leF L A i j->
   head 75 4 0 ⟨[(0,.slice (some ⟨b,0,none⟩) n c),(1,.int .i64 A),(2,.int .i64 B),(3,.func (.func 64) #[] #[]),(8,.int .i64 i),(9,.int .i64 j)],0,[],h⟩ Q:=by
 intro m
 induction m with
 |zero=>
  intro j h L hm j0 j1 t hp hI;obtain rfl:j=A:=by omega
  refine hA.roundR Try.func75 r75_ok (zc ?_);refine br (j<j) (by rw[e_gtr hA]) (fun q=>by omega) (fun _=>?_)<;>refine zc ?_;exact hQ _ _ _ (t.more (ext_bump hA _ _)) hp hI.first
 |succ m ih=>
  intro j h L hm j0 j1 t hp hI;by_cases cj:A<j
  rotate_left
  ·obtain rfl:j=A:=by omega
   refine hA.roundR Try.func75 r75_ok (zc ?_);refine br (j<j) (by rw[e_gtr hA]) (fun q=>by omega) (fun _=>?_)<;>refine zc ?_;exact hQ _ _ _ (t.more (ext_bump hA _ _)) hp hI.first
  have few:=t.few;have e1:arith .sub .i64 j 1=j-1:=sub64 hA (by omega) (by omega);obtain⟨j',hj'⟩:∃z,z=j-1:=⟨_,rfl⟩;rw[<-hj']at e1;obtain⟨h9,hh9⟩:∃z,z=bump h 17:=⟨_,rfl⟩;have x9:Ext h h9:=by rw[hh9];exact ext_bump hA _ _
  have t9:=t.more x9;have l9:=t9.ext.lowOK hlow;obtain⟨x1,y1,g1,f1,r1⟩:=t9.read (i:=j) (by omega) (by omega);obtain⟨x2,y2,g2,f2,r2⟩:=t9.read (i:=j') (by omega) (by omega);have q1:=rd_ok hA r1;have q2:=rd_ok hA r2;refine hA.roundR Try.func75 r75_ok (zc ?_);refine br (A<j) (by rw[e_gtr hA]) (fun _=>?_) (fun q=>absurd cj q)<;>refine zc ?_;rw[<-hh9]
  (refine zq ?_;repeat ((first|rw[e1]);refine zq ?_))
  refine qorder_ok hA (low_fresh hA h9) f1 f2 (fun u h10 hu x10=>⟨_,rfl,?_⟩);refine zc ?_;obtain⟨h11,hh11⟩:∃z,z=lowered h9 h10:=⟨_,rfl⟩;have e11:Ext h9 h11:=by rw[hh11];exact ext_low hA l9 (.refl h9) x10
  have t11:=t9.more e11;rw[<-hh11];refine br (u<0) (by rw[e_lss hA]) (fun c1=>?_) (fun c1=>?_)<;>refine zc ?_
  rotate_left
  ·refine hQ _ _ _ t11 hp (hI.stop leF_pre cj ?_)
   rw[<-hj'];rw[hu]at c1;exact Rat.not_lt.1 (fun w=>c1 (cmpF_lt.2 w))
  have w:¬leF (gt L (j-1)) (gt L j):=by
   rw[<-hj'];rw[hu]at c1;exact Rat.not_le.2 (cmpF_lt.1 c1)
  obtain⟨h12,hh12⟩:∃z,z=bump h11 18:=⟨_,rfl⟩;have x12:Ext h11 h12:=by rw[hh12];exact ext_bump hA _ _
  have t12:=t11.more x12;obtain⟨x1',y1',g1',_,r1'⟩:=t12.read (i:=j) (by omega) (by omega);obtain⟨x2',y2',g2',_,r2'⟩:=t12.read (i:=j') (by omega) (by omega);rw[g1]at g1';rw[g2]at g2';cases g1';cases g2';have q1':=rd_ok hA r1';have q2':=rd_ok hA r2';obtain⟨h13,h14,p1,p2,t14⟩:=dat_swap hA t12 (i:=j) (j:=j') (by omega) (by omega) (by omega) (by omega) g1 g2;rw[<-hh12]
  (refine zq ?_;repeat ((first|rw[e1]);refine zq ?_))
  refine ih j' h14 _ (by omega) (by omega) (by omega) t14 (hp.trans (PermOn.swap L (by omega) (by rw[t.len];exact ab) (by omega) (by omega) (by omega) (by omega))) ?_;have:=hI.step leF_pre (by omega) (by rw[t.len];omega) cj j1 w;rw[<-hj']at this;exact this
theorem ins_outer{h0:AHeap}(hlow:h0.low<=h0.next){b n c:Nat}{L0:List F2}{A B:Int}(a0:0<=A)(ab:B<=n){Q:Exit->SS->Prop}
  (hQ:∀h' L e kn,Dat h0 h' b n L->PermOn A B L0 L->SortedOn leF L A B->Q (.exit 0) ⟨e,kn,[],h'⟩) :
  ∀(m:Nat) (i:Int) (h:AHeap) (L:List F2),(B-i).toNat<=m->A<i->Dat h0 h b n L->PermOn A B L0 L->SortedOn leF L A i->
   head 75 1 0 ⟨[(0,.slice (some ⟨b,0,none⟩) n c),(1,.int .i64 A),(2,.int .i64 B),(3,.func (.func 64) #[] #[]),(8,.int .i64 i)],0,[],h⟩ Q:=by
 intro m
 induction m with
 |zero=>
  intro i h L hm i0 t hp hs;refine hA.roundR Try.func75 r75_ok (zc ?_);refine br (i<B) (by rw[e_lss hA]) (fun q=>by omega) (fun _=>?_)<;>refine zc ?_;exact hQ _ _ _ _ t hp (fun p q p0 pq q1=>hs p q p0 pq (by omega))
 |succ m ih=>
  intro i h L hm i0 t hp hs;have few:=t.few;refine hA.roundR Try.func75 r75_ok (zc ?_);refine br (i<B) (by rw[e_lss hA]) (fun ci=>?_) (fun _=>?_)<;>refine zc ?_
  rotate_left
  ·exact hQ _ _ _ _ t hp (fun p q p0 pq q1=>hs p q p0 pq (by omega))
  refine ins_inner hA hlow (L0:=L0) a0 ab i0 ci (fun h' L' kn t' hp' hs'=>?_) (i-A).toNat i h L (Nat.le_refl _) (by omega) (by omega) t hp (.start hs);refine zc ?_;rw[add64 hA (by omega) (by omega)];exact ih (i+1) h' L' (by omega) (by omega) t' hp' hs'
theorem ins_ok{h0 h:AHeap}(hlow:h0.low<=h0.next){b n c:Nat}{L:List F2}{A B:Int}(a0:0<=A)(an:A<=n)(ab:B<=n)(t:Dat h0 h b n L){Q:Value->AHeap->Prop}
  (hQ:∀h' L',Dat h0 h' b n L'->PermOn A B L L'->SortedOn leF L' A B->Q (.tuple #[]) h'):call 75 [.slice (some ⟨b,0,none⟩) n c,.int .i64 A,.int .i64 B,.func (.func 64) #[] #[]] h Q:=by
 have hlow':=hlow
 replace hlow:=t.ext.lowOK hlow
 have few:=t.few;refine hA.bodyR Try.func75 r75_ok (hA.alike _ _ _ rfl) hlow (zc ?_);rw[add64 hA (by omega) (by omega)];refine ins_outer hA hlow' (L0:=L) a0 ab (fun h' L' e kn t' hp hs=>?_) (B-(A+1)).toNat (A+1) h L (Nat.le_refl _) (by omega) t (.refl _ _ _) (.one (by omega));refine zc ?_;exact hQ h' L' t' hp hs
