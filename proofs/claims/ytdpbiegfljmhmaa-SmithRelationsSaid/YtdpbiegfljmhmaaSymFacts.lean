import Derived.Test.YtdpbiegfljmhmaaSeatA
import Derived.Test.YtdpbiegfljmhmaaSeatB
import Derived.Test.YtdpbiegfljmhmaaSeatC
import Derived.Test.YtdpbiegfljmhmaaSeatD
import Derived.Test.YtdpbiegfljmhmaaSeatE
import Derived.Test.YtdpbiegfljmhmaaSeatF
import Derived.Test.YtdpbiegfljmhmaaSeatG
import Derived.Test.YtdpbiegfljmhmaaSeatH
set_option linter.unusedSimpArgs false
set_option linter.unusedVariables false
namespace Go.Proofs.Ytdpbiegfljmhmaa
open Go.Sim
structure Bx(Q:Prop):Prop where o:Q
theorem zc{P Q:Prop}(k:Q)(h:Bx Q->P:=by intro q;(try (conv=>cbv));(repeat (refine brk_ok hA ?_;(try (conv=>cbv))));exact q.o):P:=h ⟨k⟩
theorem zq{P Q:Prop}(k:Q)(h:Bx Q->P:=by intro q;((try (conv=>cbv));repeat ((first|refine brk_ok hA ?_|refine⟨in_ok hA (by omega) (by omega),?_⟩|refine⟨_,_,rfl,in_ok hA (by omega) (by omega),?_⟩|refine⟨nz_ok hA (by omega),?_⟩|refine⟨geZ_ok hA (by omega),?_⟩|refine⟨ne_ok hA (by omega),?_⟩|refine⟨wrote_no hA (by assumption),?_⟩|refine⟨wrote_no hA (.refl _),?_⟩|refine⟨_,‹rd _ _ _ _ _›,?_⟩|refine⟨_,_,‹rd _ _ _ _ _›,?_⟩|refine⟨_,_,_,‹rd _ _ _ _ _›,?_⟩|refine⟨_,_,_,_,‹rd _ _ _ _ _›,?_⟩|refine⟨_,‹wr _ _ _ _ _›,?_⟩);(try (conv=>cbv))));exact q.o):P:=h ⟨k⟩
structure AP(F:Prims)(A:Atoms):Prop extends AOK progU hint F A where
 alike:∀g args h,own g=false->F g args h=primsB g args h
variable{F:Prims}{call head arith cmp scmp bnot bsame conv neg imax imin ofNat slen place inR nz geZ rd wr push next mkOK nat zeros sadd eqAgg cut slc sslc strAt part app cpy putAt fresh lowered bump wrote addN lt ne fpAll fpApp brk yn rng mget mput mnew bytes clr:_}(hA:AP F ⟨call,head,arith,cmp,scmp,bnot,bsame,conv,neg,imax,imin,ofNat,slen,place,inR,nz,geZ,rd,wr,push,next,mkOK,nat,zeros,sadd,eqAgg,cut,slc,sslc,strAt,part,app,cpy,putAt,fresh,lowered,bump,wrote,addN,lt,ne,fpAll,fpApp,brk,yn,rng,mget,mput,mnew,bytes,clr⟩)
include hA
theorem e_add(k:IntKind)(a b:Int):arith .add k a b=k.wrap (a+b):=by have:=hA.eq;injections;subst_vars;rfl
theorem e_sub(k:IntKind)(a b:Int):arith .sub k a b=k.wrap (a-b):=by have:=hA.eq;injections;subst_vars;rfl
theorem e_mul(k:IntKind)(a b:Int):arith .mul k a b=k.wrap (a*b):=by have:=hA.eq;injections;subst_vars;rfl
theorem e_quo(k:IntKind)(a b:Int):arith .quo k a b=k.wrap (a.tdiv b):=by have:=hA.eq;injections;subst_vars;rfl
theorem e_rem(k:IntKind)(a b:Int):arith .rem k a b=a.tmod b:=by have:=hA.eq;injections;subst_vars;rfl
theorem e_lss(a b:Int):cmp .lss a b=decide (a<b):=by have:=hA.eq;injections;subst_vars;rfl
theorem e_leq(a b:Int):cmp .leq a b=decide (a<=b):=by have:=hA.eq;injections;subst_vars;rfl
theorem e_gtr(a b:Int):cmp .gtr a b=decide (b<a):=by have:=hA.eq;injections;subst_vars;rfl
theorem e_geq(a b:Int):cmp .geq a b=decide (b<=a):=by have:=hA.eq;injections;subst_vars;rfl
theorem e_eql(a b:Int):cmp .eql a b=decide (a=b):=by have:=hA.eq;injections;subst_vars;rfl
theorem e_neq(a b:Int):cmp .neq a b=decide (a≠b):=by
 have h:cmp .neq a b=(a != b):=by have:=hA.eq;injections;subst_vars;rfl
 rw[h];by_cases e:a=b<;>simp[e]
theorem e_ofNat(n:Nat):ofNat n=n:=by have:=hA.eq;injections;subst_vars;rfl
theorem e_place(o:Nat)(i:Int)(n:Nat):place o i n=o+i.toNat*n:=by have:=hA.eq;injections;subst_vars;rfl
theorem e_inR(i:Int)(n:Nat):inR i n=(0<=i/\i<n):=by have:=hA.eq;injections;subst_vars;rfl
theorem e_nz(b:Int):nz b=(b≠0):=by have:=hA.eq;injections;subst_vars;rfl
theorem e_rd(h:AHeap)(b o n:Nat)(l:List Value):rd h b o n l=(h.readG ⟨b,o,none⟩ n=some l):=by have:=hA.eq;injections;subst_vars;rfl
theorem e_wr(h:AHeap)(b o:Nat)(vs:List Value)(h':AHeap):wr h b o vs h'=(h.write b o vs=some h'):=by have:=hA.eq;injections;subst_vars;rfl
theorem e_push(h:AHeap)(es:Nat)(cs:List Value):push h es cs=h.push es cs:=by have:=hA.eq;injections;subst_vars;rfl
theorem e_next(h:AHeap):next h=h.next:=by have:=hA.eq;injections;subst_vars;rfl
theorem e_nat(i:Int):nat i=i.toNat:=by have:=hA.eq;injections;subst_vars;rfl
theorem e_bnot(b:Bool):bnot b = !b:=by have:=hA.eq;injections;subst_vars;rfl
theorem e_bsame(a b:Bool):bsame a b=(a == b):=by have:=hA.eq;injections;subst_vars;rfl
theorem e_conv(k:IntKind)(n:Int):conv k n=k.wrap n:=by have:=hA.eq;injections;subst_vars;rfl
theorem e_neg(k:IntKind)(n:Int):neg k n=k.wrap (0-n):=by have:=hA.eq;injections;subst_vars;rfl
theorem e_imax(x y:Int):imax x y=if y>x then y else x:=by have:=hA.eq;injections;subst_vars;rfl
theorem e_imin(x y:Int):imin x y=if y<x then y else x:=by have:=hA.eq;injections;subst_vars;rfl
theorem e_app(ts:List TypeId)(l:List Value)(h:AHeap)(C:Option Addr->Nat->Nat->AHeap->Prop):app ts l h C = ∃a n c h',appendH Try.prog h ts l=some (.slice a n c,h')/\C a n c h':=by have:=hA.eq;injections;subst_vars;rfl
theorem e_cpy(ts:List TypeId)(l:List Value)(h:AHeap)(C:Int->AHeap->Prop):cpy ts l h C = ∃n h',copyH Try.prog h ts l=some (.int .i64 n,h')/\C n h':=by have:=hA.eq;injections;subst_vars;rfl
theorem e_cut(c:Nat)(j:Int):cut c j=(0<=j/\j<=capLow c):=by have:=hA.eq;injections;subst_vars;rfl
theorem e_eqAgg(t:TypeId)(a b:Array Value)(C:Bool->Prop):eqAgg t a b C=(Try.prog.eqGuardType Try.prog.depth t=false/\∃r,eqA Try.prog 30 t (.agg a) (.agg b)=some r/\C r):=by have:=hA.eq;injections;subst_vars;rfl
theorem e_strAt(s:ByteArray)(i:Int)(C:Int->Prop):strAt s i C=(0<=i/\∃b:UInt8,s[i.toNat]?=some b/\C b.toNat):=by have:=hA.eq;injections;subst_vars;rfl
theorem e_putAt(h:AHeap)(id es:Nat)(cs:List Value):putAt h id es cs=h.putAt id es cs:=by have:=hA.eq;injections;subst_vars;rfl
theorem e_fresh(h:AHeap):fresh h=h.freshed:=by have:=hA.eq;injections;subst_vars;rfl
theorem e_lowered(h h':AHeap):lowered h h'=h'.lowered h.low:=by have:=hA.eq;injections;subst_vars;rfl
theorem e_bump(h:AHeap)(n:Nat):bump h n=h.bump n:=by have:=hA.eq;injections;subst_vars;rfl
theorem e_wrote(h h':AHeap):wrote h h'=Nat.blt h'.low h.next:=by have:=hA.eq;injections;subst_vars;rfl
theorem e_addN(a b:Nat):addN a b=a+b:=by have:=hA.eq;injections;subst_vars;rfl
theorem e_ne(a b:Nat):ne a b=(a≠b):=by have:=hA.eq;injections;subst_vars;rfl
theorem e_fpAll(wx wy l:Bool)(b lim:Nat):fpAll wx wy l b lim=(wx=false/\wy=false/\(l=true\/b<lim)):=by have:=hA.eq;injections;subst_vars;rfl
theorem in_ok{i:Int}{n:Nat}(h0:0<=i)(h1:i<n):inR i n:=by rw[e_inR hA];exact⟨h0,h1⟩
theorem rd_ok{h:AHeap}{b o:Nat}{i:Int}{es m:Nat}{l:List Value}(hr:h.readG ⟨b,o+i.toNat*es,none⟩ m=some l):rd h b (place o i es) m l:=by rw[e_rd hA,e_place hA];exact hr
theorem rd_at{h:AHeap}{b o m:Nat}{l:List Value}(hr:h.readG ⟨b,o,none⟩ m=some l):rd h b o m l:=by rw[e_rd hA];exact hr
theorem wr_ok{h h':AHeap}{b o:Nat}{i:Int}{es:Nat}{l:List Value}(hr:h.write b (o+i.toNat*es) l=some h'):wr h b (place o i es) l h':=by rw[e_wr hA,e_place hA];exact hr
theorem wr_at{h h':AHeap}{b o:Nat}{l:List Value}(hr:h.write b o l=some h'):wr h b o l h':=by rw[e_wr hA];exact hr
theorem nz_ok{b:Int}(h:b≠0):nz b:=by rw[e_nz hA];exact h
theorem add64{a b:Int}(h1:-9223372036854775808<=a+b)(h2:a+b<9223372036854775808):arith .add .i64 a b=a+b:=by rw[e_add hA,wrap64 h1 h2]
theorem sub64{a b:Int}(h1:-9223372036854775808<=a-b)(h2:a-b<9223372036854775808):arith .sub .i64 a b=a-b:=by rw[e_sub hA,wrap64 h1 h2]
theorem mul64{a b:Int}(h1:-9223372036854775808<=a*b)(h2:a*b<9223372036854775808):arith .mul .i64 a b=a*b:=by rw[e_mul hA,wrap64 h1 h2]
theorem quo64{a b:Int}(h0:0<=a)(h1:a<9223372036854775808)(hb:0<b):arith .quo .i64 a b=a / b:=by
 have h2:0<=a / b:=Int.ediv_nonneg h0 (by omega);have h3:a / b<=a:=Int.ediv_le_self _ h0;rw[e_quo hA,Int.tdiv_eq_ediv_of_nonneg h0,wrap64 (by omega) (by omega)]
theorem conv8{a:Int}(h0:0<=a)(h1:a<256):conv .u8 a=a:=by rw[e_conv hA,wrap8 h0 h1]
theorem conv64{a:Int}(h0:-9223372036854775808<=a)(h1:a<9223372036854775808):conv .i64 a=a:=by rw[e_conv hA,wrap64 h0 h1]
theorem fp_ok'{h h':AHeap}{b lim n:Nat}(hw:h'=(h.bump n).freshed)(hb:b<lim):fpAll false (wrote (bump h n) h') false b lim:=by
 rw[e_fpAll hA,e_wrote hA,e_bump hA,hw];exact⟨rfl,wrote_freshed _,.inr hb⟩
end Go.Proofs.Ytdpbiegfljmhmaa
namespace Go.Proofs.Ytdpbiegfljmhmaa
open Go.Sim
def sat(s:ByteArray)(i:Int):Int:=((s[i.toNat]?).getD 0).toNat
variable{F:Prims}{call head arith cmp scmp bnot bsame conv neg imax imin ofNat slen place inR nz geZ rd wr push next mkOK nat zeros sadd eqAgg cut slc sslc strAt part app cpy putAt fresh lowered bump wrote addN lt ne fpAll fpApp brk yn rng mget mput mnew bytes clr:_}(hA:AP F ⟨call,head,arith,cmp,scmp,bnot,bsame,conv,neg,imax,imin,ofNat,slen,place,inR,nz,geZ,rd,wr,push,next,mkOK,nat,zeros,sadd,eqAgg,cut,slc,sslc,strAt,part,app,cpy,putAt,fresh,lowered,bump,wrote,addN,lt,ne,fpAll,fpApp,brk,yn,rng,mget,mput,mnew,bytes,clr⟩)
include hA
theorem strAt_ok{s:ByteArray}{i:Int}{C:Int->Prop}(h0:0<=i)(h1:i<s.size)(hC:∀c,c=sat s i->0<=c->c<256->C c):strAt s i C:=by
 rw[e_strAt hA];have hi:i.toNat<s.size:=by omega
 refine⟨h0,s[i.toNat],by simp[hi],?_⟩;refine hC _ (by unfold sat;simp[hi]) (by omega) ?_;have:=(s[i.toNat]).toNat_lt;omega
theorem rd_fld{h:AHeap}{b o:Nat}{i:Int}{es f m:Nat}{l:List Value}(hr:h.readG ⟨b,o+i.toNat*es+f,none⟩ m=some l):rd h b (addN (place o i es) f) m l:=by rw[e_rd hA,e_place hA,e_addN hA];exact hr
theorem rd_fld0{h:AHeap}{b o f m:Nat}{l:List Value}(hr:h.readG ⟨b,o+f,none⟩ m=some l):rd h b (addN o f) m l:=by rw[e_rd hA,e_addN hA];exact hr
end Go.Proofs.Ytdpbiegfljmhmaa
namespace Go.Proofs.Ytdpbiegfljmhmaa
open Go.Sim
variable{F:Prims}{call head arith cmp scmp bnot bsame conv neg imax imin ofNat slen place inR nz geZ rd wr push next mkOK nat zeros sadd eqAgg cut slc sslc strAt part app cpy putAt fresh lowered bump wrote addN lt ne fpAll fpApp brk yn rng mget mput mnew bytes clr:_}(hA:AP F ⟨call,head,arith,cmp,scmp,bnot,bsame,conv,neg,imax,imin,ofNat,slen,place,inR,nz,geZ,rd,wr,push,next,mkOK,nat,zeros,sadd,eqAgg,cut,slc,sslc,strAt,part,app,cpy,putAt,fresh,lowered,bump,wrote,addN,lt,ne,fpAll,fpApp,brk,yn,rng,mget,mput,mnew,bytes,clr⟩)
include hA
theorem wr_fld0{h h':AHeap}{b o f:Nat}{l:List Value}(hr:h.write b (o+f) l=some h'):wr h b (addN o f) l h':=by rw[e_wr hA,e_addN hA];exact hr
theorem brk_ok{f:Unit->Prop}(h:f ()):brk f:=by have:=hA.eq;injections;subst_vars;exact h
theorem ne_ok{a b:Nat}(h:a≠b):ne a b:=by rw[e_ne hA];exact h
