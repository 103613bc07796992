import Derived.Test.YtdpbiegfljmhmaaSeatA
import Derived.Test.YtdpbiegfljmhmaaSeatB
import Derived.Test.YtdpbiegfljmhmaaSeatC
import Derived.Test.YtdpbiegfljmhmaaSeatD
import Derived.Test.YtdpbiegfljmhmaaSeatE
import Derived.Test.YtdpbiegfljmhmaaSeatF
import Derived.Test.YtdpbiegfljmhmaaSeatG
import Derived.Test.YtdpbiegfljmhmaaSeatH
set_option linter.unusedSimpArgs false
set_option linter.unusedVariables false
namespace Go.Proofs.Ytdpbiegfljmhmaa
open Go.Sim
structure Bx(Q:Prop):Prop where o:Q
theorem zc{P Q:Prop}(k:Q)(h:Bx Q->P:=by intro q;(try (conv=>cbv));(repeat (refine uO hA ?_;(try (conv=>cbv))));exact q.o):P:=h ⟨k⟩
theorem zq{P Q:Prop}(k:Q)(h:Bx Q->P:=by intro q;((try (conv=>cbv));repeat ((first|refine uO hA ?_|refine⟨jh hA (by omega) (by omega),?_⟩|refine⟨_,_,rfl,jh hA (by omega) (by omega),?_⟩|refine⟨cY hA (by omega),?_⟩|refine⟨geZ_ok hA (by omega),?_⟩|refine⟨Fi hA (by omega),?_⟩|refine⟨wrote_no hA (by assumption),?_⟩|refine⟨wrote_no hA (.refl _),?_⟩|refine⟨_,‹rd _ _ _ _ _›,?_⟩|refine⟨_,_,‹rd _ _ _ _ _›,?_⟩|refine⟨_,_,_,‹rd _ _ _ _ _›,?_⟩|refine⟨_,_,_,_,‹rd _ _ _ _ _›,?_⟩|refine⟨_,‹wr _ _ _ _ _›,?_⟩);(try (conv=>cbv))));exact q.o):P:=h ⟨k⟩
structure AP(F:aM)(A:bj):Prop extends EF wu zH F A where
 alike:∀g args h,own g=false->F g args h=oX g args h
def K5(s:ByteArray)(i:Int):Int:=((s[i.toNat]?).getD 0).toNat
variable{F:aM}{a0 b0 arith cmp c0 bnot bsame conv neg imax imin ofNat d0 place inR nz e0 rd wr push next mkOK nat zeros f0 eqAgg cut g0 i0 strAt j0 app cpy putAt fresh lowered bump wrote addN lt ne fpAll fpApp brk yn k0 l0 m0 n0 o0 p0:_}(hA:AP F ⟨a0,b0,arith,cmp,c0,bnot,bsame,conv,neg,imax,imin,ofNat,d0,place,inR,nz,e0,rd,wr,push,next,mkOK,nat,zeros,f0,eqAgg,cut,g0,i0,strAt,j0,app,cpy,putAt,fresh,lowered,bump,wrote,addN,lt,ne,fpAll,fpApp,brk,yn,k0,l0,m0,n0,o0,p0⟩)
include hA
theorem CQ(k:IntKind)(a b:Int):arith .add k a b=k.wrap (a+b):=by have:=hA.eq;injections;subst_vars;rfl
theorem Hh(k:IntKind)(a b:Int):arith .sub k a b=k.wrap (a-b):=by have:=hA.eq;injections;subst_vars;rfl
theorem Fz(k:IntKind)(a b:Int):arith .mul k a b=k.wrap (a*b):=by have:=hA.eq;injections;subst_vars;rfl
theorem Aa(k:IntKind)(a b:Int):arith .quo k a b=k.wrap (a.tdiv b):=by have:=hA.eq;injections;subst_vars;rfl
theorem CH(k:IntKind)(a b:Int):arith .rem k a b=a.tmod b:=by have:=hA.eq;injections;subst_vars;rfl
theorem au(a b:Int):cmp .lss a b=decide (a<b):=by have:=hA.eq;injections;subst_vars;rfl
theorem iw(a b:Int):cmp .leq a b=decide (a<=b):=by have:=hA.eq;injections;subst_vars;rfl
theorem dc(a b:Int):cmp .gtr a b=decide (b<a):=by have:=hA.eq;injections;subst_vars;rfl
theorem bE(a b:Int):cmp .geq a b=decide (b<=a):=by have:=hA.eq;injections;subst_vars;rfl
theorem cJ(a b:Int):cmp .eql a b=decide (a=b):=by have:=hA.eq;injections;subst_vars;rfl
theorem bL(a b:Int):cmp .neq a b=decide (a≠b):=by
 have h:cmp .neq a b=(a != b):=by have:=hA.eq;injections;subst_vars;rfl
 rw[h];by_cases e:a=b<;>simp[e]
theorem aF(n:Nat):ofNat n=n:=by have:=hA.eq;injections;subst_vars;rfl
theorem dV(o:Nat)(i:Int)(n:Nat):place o i n=o+i.toNat*n:=by have:=hA.eq;injections;subst_vars;rfl
theorem KW(i:Int)(n:Nat):inR i n=(0<=i/\i<n):=by have:=hA.eq;injections;subst_vars;rfl
theorem Lk(b:Int):nz b=(b≠0):=by have:=hA.eq;injections;subst_vars;rfl
theorem wT(h:af)(b o n:Nat)(l:List Value):rd h b o n l=(h.readG ⟨b,o,none⟩ n=some l):=by have:=hA.eq;injections;subst_vars;rfl
theorem GG(h:af)(b o:Nat)(vs:List Value)(h':af):wr h b o vs h'=(h.write b o vs=some h'):=by have:=hA.eq;injections;subst_vars;rfl
theorem cM(h:af)(es:Nat)(cs:List Value):push h es cs=h.push es cs:=by have:=hA.eq;injections;subst_vars;rfl
theorem bV(h:af):next h=h.next:=by have:=hA.eq;injections;subst_vars;rfl
theorem JT(l c:Int):mkOK l c=(0<=l/\l<=c/\c<=1073741824):=by have:=hA.eq;injections;subst_vars;rfl
theorem CB(i:Int):nat i=i.toNat:=by have:=hA.eq;injections;subst_vars;rfl
theorem H1(z:List Value)(c:Int):zeros z c=aZ z c.toNat:=by have:=hA.eq;injections;subst_vars;rfl
theorem cI(b:Bool):bnot b = !b:=by have:=hA.eq;injections;subst_vars;rfl
theorem wY(a b:Bool):bsame a b=(a == b):=by have:=hA.eq;injections;subst_vars;rfl
theorem oS(k:IntKind)(n:Int):conv k n=k.wrap n:=by have:=hA.eq;injections;subst_vars;rfl
theorem rY(k:IntKind)(n:Int):neg k n=k.wrap (0-n):=by have:=hA.eq;injections;subst_vars;rfl
theorem G9(x y:Int):imax x y=if y>x then y else x:=by have:=hA.eq;injections;subst_vars;rfl
theorem JB(x y:Int):imin x y=if y<x then y else x:=by have:=hA.eq;injections;subst_vars;rfl
theorem oI(ts:List TypeId)(l:List Value)(h:af)(C:Option Addr->Nat->Nat->af->Prop):app ts l h C = ∃a n c h',bO Try.prog h ts l=some (.slice a n c,h')/\C a n c h':=by have:=hA.eq;injections;subst_vars;rfl
theorem CD(ts:List TypeId)(l:List Value)(h:af)(C:Int->af->Prop):cpy ts l h C = ∃n h',pE Try.prog h ts l=some (.int .i64 n,h')/\C n h':=by have:=hA.eq;injections;subst_vars;rfl
theorem EZ(c:Nat)(j:Int):cut c j=(0<=j/\j<=bW c):=by have:=hA.eq;injections;subst_vars;rfl
theorem qy(t:TypeId)(a b:Array Value)(C:Bool->Prop):eqAgg t a b C=(Try.prog.eqGuardType Try.prog.depth t=false/\∃r,mG Try.prog 30 t (.agg a) (.agg b)=some r/\C r):=by have:=hA.eq;injections;subst_vars;rfl
theorem HE(s:ByteArray)(i:Int)(C:Int->Prop):strAt s i C=(0<=i/\∃b:UInt8,s[i.toNat]?=some b/\C b.toNat):=by have:=hA.eq;injections;subst_vars;rfl
theorem De(h:af)(id es:Nat)(cs:List Value):putAt h id es cs=h.putAt id es cs:=by have:=hA.eq;injections;subst_vars;rfl
theorem fM(h:af):fresh h=h.freshed:=by have:=hA.eq;injections;subst_vars;rfl
theorem cT(h h':af):lowered h h'=h'.lowered h.low:=by have:=hA.eq;injections;subst_vars;rfl
theorem iY(h:af)(n:Nat):bump h n=h.bump n:=by have:=hA.eq;injections;subst_vars;rfl
theorem sU(h h':af):wrote h h'=Nat.blt h'.low h.next:=by have:=hA.eq;injections;subst_vars;rfl
theorem cB(a b:Nat):addN a b=a+b:=by have:=hA.eq;injections;subst_vars;rfl
theorem Lf(a b:Nat):ne a b=(a≠b):=by have:=hA.eq;injections;subst_vars;rfl
theorem CL(wx wy l:Bool)(b lim:Nat):fpAll wx wy l b lim=(wx=false/\wy=false/\(l=true\/b<lim)):=by have:=hA.eq;injections;subst_vars;rfl
theorem xK(wx wy l:Bool)(b lim c:Nat):fpApp wx wy l b lim c=(wx=false/\(wy=false\/b≠c)/\(l=true\/b<lim)):=by have:=hA.eq;injections;subst_vars;rfl
theorem GB{wy l:Bool}{b lim c:Nat}(h:b≠c)(hb:b<lim):fpApp false wy l b lim c:=by rw[xK hA];exact⟨rfl,.inr h,.inr hb⟩
theorem jh{i:Int}{n:Nat}(h0:0<=i)(h1:i<n):inR i n:=by rw[KW hA];exact⟨h0,h1⟩
theorem az{h:af}{b o:Nat}{i:Int}{es m:Nat}{l:List Value}(hr:h.readG ⟨b,o+i.toNat*es,none⟩ m=some l):rd h b (place o i es) m l:=by rw[wT hA,dV hA];exact hr
theorem gP{h:af}{b o m:Nat}{l:List Value}(hr:h.readG ⟨b,o,none⟩ m=some l):rd h b o m l:=by rw[wT hA];exact hr
theorem pZ{h h':af}{b o:Nat}{i:Int}{es:Nat}{l:List Value}(hr:h.write b (o+i.toNat*es) l=some h'):wr h b (place o i es) l h':=by rw[GG hA,dV hA];exact hr
theorem jd{h h':af}{b o:Nat}{l:List Value}(hr:h.write b o l=some h'):wr h b o l h':=by rw[GG hA];exact hr
theorem cY{b:Int}(h:b≠0):nz b:=by rw[Lk hA];exact h
theorem Ky{l c:Int}(h0:0<=l)(h1:l<=c)(h2:c<=1073741824):mkOK l c:=by rw[JT hA];exact⟨h0,h1,h2⟩
theorem aB{a b:Int}(h1:-9223372036854775808<=a+b)(h2:a+b<9223372036854775808):arith .add .i64 a b=a+b:=by rw[CQ hA,fX h1 h2]
theorem bD{a b:Int}(h1:-9223372036854775808<=a-b)(h2:a-b<9223372036854775808):arith .sub .i64 a b=a-b:=by rw[Hh hA,fX h1 h2]
theorem iq{a b:Int}(h1:-9223372036854775808<=a*b)(h2:a*b<9223372036854775808):arith .mul .i64 a b=a*b:=by rw[Fz hA,fX h1 h2]
theorem qE{a b:Int}(h0:0<=a)(h1:a<9223372036854775808)(hb:0<b):arith .quo .i64 a b=a / b:=by
 have h2:0<=a / b:=Int.ediv_nonneg h0 (by omega);have h3:a / b<=a:=Int.ediv_le_self _ h0;rw[Aa hA,Int.tdiv_eq_ediv_of_nonneg h0,fX (by omega) (by omega)]
theorem rH{a:Int}(h0:0<=a)(h1:a<256):conv .u8 a=a:=by rw[oS hA,K0 h0 h1]
theorem i6{a:Int}(h0:-9223372036854775808<=a)(h1:a<9223372036854775808):conv .i64 a=a:=by rw[oS hA,fX h0 h1]
theorem JL{h h':af}{b lim n:Nat}(hw:h'=(h.bump n).freshed)(hb:b<lim):fpAll false (wrote (bump h n) h') false b lim:=by
 rw[CL hA,sU hA,iY hA,hw];exact⟨rfl,oJ _,.inr hb⟩
theorem GQ{s:ByteArray}{i:Int}{C:Int->Prop}(h0:0<=i)(h1:i<s.size)(hC:∀c,c=K5 s i->0<=c->c<256->C c):strAt s i C:=by
 rw[HE hA];have hi:i.toNat<s.size:=by omega
 refine⟨h0,s[i.toNat],by simp[hi],?_⟩;refine hC _ (by unfold K5;simp[hi]) (by omega) ?_;have:=(s[i.toNat]).toNat_lt;omega
theorem He{h:af}{b o:Nat}{i:Int}{es f m:Nat}{l:List Value}(hr:h.readG ⟨b,o+i.toNat*es+f,none⟩ m=some l):rd h b (addN (place o i es) f) m l:=by rw[wT hA,dV hA,cB hA];exact hr
theorem IS{h:af}{b o f m:Nat}{l:List Value}(hr:h.readG ⟨b,o+f,none⟩ m=some l):rd h b (addN o f) m l:=by rw[wT hA,cB hA];exact hr
theorem HO{h h':af}{b o f:Nat}{l:List Value}(hr:h.write b (o+f) l=some h'):wr h b (addN o f) l h':=by rw[GG hA,cB hA];exact hr
theorem uO{f:Unit->Prop}(h:f ()):brk f:=by have:=hA.eq;injections;subst_vars;exact h
theorem Fi{a b:Nat}(h:a≠b):ne a b:=by rw[Lf hA];exact h
