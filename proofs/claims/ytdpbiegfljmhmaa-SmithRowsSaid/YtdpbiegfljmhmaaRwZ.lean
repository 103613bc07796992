import Derived.Test.YtdpbiegfljmhmaaRwF
import Derived.Test.YtdpbiegfljmhmaaLsZ
set_option linter.unusedSimpArgs false
set_option linter.unusedVariables false
namespace Go.Proofs.Ytdpbiegfljmhmaa
open Go.Sim
set_option maxRecDepth 100000
structure LD where
 es:Nat
 a:Option Addr
 n:Nat
 c:Nat
 cells:List Value
structure Lo(o:Nat->Nat)(k:Nat)(h0 h:af)(d:LD):Prop where
 apd:jw h d.es d.a d.n d.c d.cells
 fp:∀ad,d.a=some ad->o ad.block=k/\h0.next<=ad.block
def kQ(o:Nat->Nat)(N k:Nat):Nat->Nat:=fun j=>if j<N then o j else k
theorem aH{o:Nat->Nat}{N k j:Nat}(h:j<N):kQ o N k j=o j:=if_pos h
theorem wR{o:Nat->Nat}{N k j:Nat}(h:N<=j):kQ o N k j=k:=if_neg (by omega)
structure mH(o:Nat->Nat)(k:Nat)(h h':af):Prop where
 next:h.next<=h'.next
 keep:∀j,j<h.next->o j≠k->h'.m.get j=h.m.get j
theorem mH.of_ext{o:Nat->Nat}{k:Nat}{h h':af}(e:Ext h h'):mH o k h h':=⟨e.next,fun j hj _=>e.get j hj⟩
theorem Lo.keep{o o':Nat->Nat}{k q:Nat}{h0 h h':af}{d:LD}(t:Lo o k h0 h d)(s:mH o q h h')(ne:k≠q)(ho:∀j,j<h.next->o' j=o j):Lo o' k h0 h' d:=
 ⟨jw.of_get t.apd s.next (fun ad had hb=>s.keep _ hb (by rw[(t.fp ad had).1];exact ne)),fun ad had=>⟨by rw[ho _ (t.apd.lt ad had)];exact(t.fp ad had).1,(t.fp ad had).2⟩⟩
theorem Lo.ext{o o':Nat->Nat}{k:Nat}{h0 h h':af}{d:LD}(t:Lo o k h0 h d)(e:Ext h h')(ho:∀j,j<h.next->o' j=o j):Lo o' k h0 h' d:=
 ⟨t.apd.ext e,fun ad had=>⟨by rw[ho _ (t.apd.lt ad had)];exact(t.fp ad had).1,(t.fp ad had).2⟩⟩
theorem Lo.fresh{o:Nat->Nat}{k N:Nat}{h0 h':af}{es b n c:Nat}{cells:List Value}(p:jw h' es (some ⟨b,0,none⟩) n c cells)(hb:N<=b)(h0n:h0.next<=N):Lo (kQ o N k) k h0 h' ⟨es,some ⟨b,0,none⟩,n,c,cells⟩:=
 ⟨p,fun ad had=>by cases had;exact⟨wR hb,Nat.le_trans h0n hb⟩⟩
theorem Lo.nil(o:Nat->Nat)(k:Nat)(h0 h:af)(es:Nat):Lo o k h0 h ⟨es,none,0,0,[]⟩:=⟨.nil _ _,fun ad had=>by cases had⟩
structure Kk(o:Nat->Nat)(h0 h:af)(n:Nat)(bs:Nat->Nat)(R:Nat->List Int):Prop where
 own:∀r,r<n->bG h (bs r) 1 ((R r).flatMap nC)
 lt:∀r,r<n->bs r<h.next
 ge:∀r,r<n->h0.next<=bs r
 mrk:∀r,r<n->o (bs r)=6
 inj:∀r s,r<n->s<n->bs r=bs s->r=s
theorem Kk.keep{o o':Nat->Nat}{q n:Nat}{h0 h h':af}{bs:Nat->Nat}{R:Nat->List Int}(t:Kk o h0 h n bs R)(s:mH o q h h')(ne:6≠q)(ho:∀j,j<h.next->o' j=o j):Kk o' h0 h' n bs R:=
 ⟨fun r hr=>(t.own r hr).of_get (s.keep _ (t.lt r hr) (by rw[t.mrk r hr];exact ne)),fun r hr=>Nat.lt_of_lt_of_le (t.lt r hr) s.next,t.ge,fun r hr=>by rw[ho _ (t.lt r hr)];exact t.mrk r hr,t.inj⟩
theorem Kk.add{o:Nat->Nat}{n b:Nat}{h0 h h':af}{bs:Nat->Nat}{R:Nat->List Int}(t:Kk o h0 h n bs R)(e:Ext h h')(h0n:h0.next<=h.next)(p:bG h' b 1 ((R n).flatMap nC))(hb:h.next<=b)(hb':b<h'.next):Kk (kQ o h.next 6) h0 h' (n+1) (fun r=>if r<n then bs r else b) R:=by
 have hn:∀r,r<n+1->¬r<n->r=n:=fun r h1 h2=>by omega
 refine⟨fun r hr=>?_,fun r hr=>?_,fun r hr=>?_,fun r hr=>?_,fun r s hr hs e'=>?_⟩
 ·by_cases c:r<n
  ·rw[if_pos c];exact(t.own r c).ext e (t.lt r c)
  ·rw[if_neg c,hn r hr c];exact p
 ·by_cases c:r<n
  ·rw[if_pos c];have:=t.lt r c;have:=e.next;omega
  ·rw[if_neg c];exact hb'
 ·by_cases c:r<n
  ·rw[if_pos c];exact t.ge r c
  ·rw[if_neg c];omega
 ·by_cases c:r<n
  ·rw[if_pos c,aH (t.lt r c)];exact t.mrk r c
  ·rw[if_neg c,wR hb]
 ·by_cases c:r<n
  ·rw[if_pos c]at e'
   have:=t.lt r c;by_cases c2:s<n
   ·rw[if_pos c2]at e';exact t.inj r s c c2 e'
   ·rw[if_neg c2]at e';omega
  ·rw[if_neg c]at e'
   by_cases c2:s<n
   ·rw[if_pos c2]at e';have:=t.lt s c2;omega
   ·omega
structure BF(o:Nat->Nat)(h0 h:af)(n w:Nat)(ra:Nat->Option Addr)(R:Nat->List Int):Prop where
 row:∀r,r<n->Rows nC 1 h (ra r) w (R r)
 fp:∀r,r<n->∀ad,ra r=some ad->o ad.block=7/\h0.next<=ad.block
theorem BF.keep{o o':Nat->Nat}{q n w:Nat}{h0 h h':af}{ra:Nat->Option Addr}{R:Nat->List Int}(t:BF o h0 h n w ra R)(s:mH o q h h')(ne:7≠q)(ho:∀j,j<h.next->o' j=o j):BF o' h0 h' n w ra R:=
 ⟨fun r hr=>(t.row r hr).keep s.next (fun ad had=>s.keep _ ((t.row r hr).lt ad had) (by rw[(t.fp r hr ad had).1];exact ne)),fun r hr ad had=>⟨by rw[ho _ ((t.row r hr).lt ad had)];exact(t.fp r hr ad had).1,(t.fp r hr ad had).2⟩⟩
theorem BF.add{o:Nat->Nat}{n w:Nat}{h0 h h':af}{ra:Nat->Option Addr}{R:Nat->List Int}{a:Option Addr}(t:BF o h0 h n w ra R)(e:Ext h h')(h0n:h0.next<=h.next)(p:Rows nC 1 h' a w (R n))(hf:gf h.next a):BF (kQ o h.next 7) h0 h' (n+1) w (fun r=>if r<n then ra r else a) R:=by
 have hn:∀r,r<n+1->¬r<n->r=n:=fun r h1 h2=>by omega
 refine⟨fun r hr=>?_,fun r hr ad had=>?_⟩
 ·by_cases c:r<n
  ·rw[if_pos c];exact(t.row r c).ext e
  ·rw[if_neg c,hn r hr c];exact p
 ·by_cases c:r<n
  ·rw[if_pos c]at had;rw[aH ((t.row r c).lt ad had)];exact t.fp r c ad had
  ·rw[if_neg c]at had;rw[wR (hf ad had)];exact⟨rfl,Nat.le_trans h0n (hf ad had)⟩
structure jn(o:Nat->Nat)(h0 h:af)(d0 d1 d2 d3 d4 d5:LD)(n9:Nat)(bs:Nat->Nat)(R9:Nat->List Int)(n10 w:Nat)(ra:Nat->Option Addr)(R10:Nat->List Int):Prop where
 ext:Ext h0 h
 l0:Lo o 0 h0 h d0
 l1:Lo o 1 h0 h d1
 l2:Lo o 2 h0 h d2
 l3:Lo o 3 h0 h d3
 l4:Lo o 4 h0 h d4
 l5:Lo o 5 h0 h d5
 r9:Kk o h0 h n9 bs R9
 r10:BF o h0 h n10 w ra R10
section
variable{o:Nat->Nat}{h0 h h':af}{d0 d1 d2 d3 d4 d5 d:LD}{n9 n10 w:Nat}{bs:Nat->Nat}{R9 R10:Nat->List Int}{ra:Nat->Option Addr}
theorem jn.more(t:jn o h0 h d0 d1 d2 d3 d4 d5 n9 bs R9 n10 w ra R10)(e:Ext h h'):jn o h0 h' d0 d1 d2 d3 d4 d5 n9 bs R9 n10 w ra R10:=
 ⟨t.ext.trans e,t.l0.ext e (fun _ _=>rfl),t.l1.ext e (fun _ _=>rfl),t.l2.ext e (fun _ _=>rfl),t.l3.ext e (fun _ _=>rfl),t.l4.ext e (fun _ _=>rfl),t.l5.ext e (fun _ _=>rfl),t.r9.keep (q:=9) (.of_ext e) (by decide) (fun _ _=>rfl),t.r10.keep (q:=9) (.of_ext e) (by decide) (fun _ _=>rfl)⟩
theorem jn.row9{b:Nat}(t:jn o h0 h d0 d1 d2 d3 d4 d5 n9 bs R9 n10 w ra R10)(e:Ext h h')(p:bG h' b 1 ((R9 n9).flatMap nC))(hb:h.next<=b)(hb':b<h'.next):jn (kQ o h.next 6) h0 h' d0 d1 d2 d3 d4 d5 (n9+1) (fun r=>if r<n9 then bs r else b) R9 n10 w ra R10:=
 ⟨t.ext.trans e,t.l0.ext e (fun _ q=>aH q),t.l1.ext e (fun _ q=>aH q),t.l2.ext e (fun _ q=>aH q),t.l3.ext e (fun _ q=>aH q),t.l4.ext e (fun _ q=>aH q),t.l5.ext e (fun _ q=>aH q),t.r9.add e t.ext.next p hb hb',t.r10.keep (q:=9) (.of_ext e) (by decide) (fun _ q=>aH q)⟩
theorem jn.row10{a:Option Addr}(t:jn o h0 h d0 d1 d2 d3 d4 d5 n9 bs R9 n10 w ra R10)(e:Ext h h')(p:Rows nC 1 h' a w (R10 n10))(hf:gf h.next a):jn (kQ o h.next 7) h0 h' d0 d1 d2 d3 d4 d5 n9 bs R9 (n10+1) w (fun r=>if r<n10 then ra r else a) R10:=
 ⟨t.ext.trans e,t.l0.ext e (fun _ q=>aH q),t.l1.ext e (fun _ q=>aH q),t.l2.ext e (fun _ q=>aH q),t.l3.ext e (fun _ q=>aH q),t.l4.ext e (fun _ q=>aH q),t.l5.ext e (fun _ q=>aH q),t.r9.keep (q:=9) (.of_ext e) (by decide) (fun _ q=>aH q),t.r10.add e t.ext.next p hf⟩
theorem jn.app0(t:jn o h0 h d0 d1 d2 d3 d4 d5 n9 bs R9 n10 w ra R10)(s:mH o 0 h h')(e:Ext h0 h')(p:Lo (kQ o h.next 0) 0 h0 h' d):jn (kQ o h.next 0) h0 h' d d1 d2 d3 d4 d5 n9 bs R9 n10 w ra R10:=
 ⟨e,p,t.l1.keep s (by decide) (fun _ q=>aH q),t.l2.keep s (by decide) (fun _ q=>aH q),t.l3.keep s (by decide) (fun _ q=>aH q),t.l4.keep s (by decide) (fun _ q=>aH q),t.l5.keep s (by decide) (fun _ q=>aH q),t.r9.keep s (by decide) (fun _ q=>aH q),t.r10.keep s (by decide) (fun _ q=>aH q)⟩
theorem jn.app1(t:jn o h0 h d0 d1 d2 d3 d4 d5 n9 bs R9 n10 w ra R10)(s:mH o 1 h h')(e:Ext h0 h')(p:Lo (kQ o h.next 1) 1 h0 h' d):jn (kQ o h.next 1) h0 h' d0 d d2 d3 d4 d5 n9 bs R9 n10 w ra R10:=
 ⟨e,t.l0.keep s (by decide) (fun _ q=>aH q),p,t.l2.keep s (by decide) (fun _ q=>aH q),t.l3.keep s (by decide) (fun _ q=>aH q),t.l4.keep s (by decide) (fun _ q=>aH q),t.l5.keep s (by decide) (fun _ q=>aH q),t.r9.keep s (by decide) (fun _ q=>aH q),t.r10.keep s (by decide) (fun _ q=>aH q)⟩
theorem jn.app2(t:jn o h0 h d0 d1 d2 d3 d4 d5 n9 bs R9 n10 w ra R10)(s:mH o 2 h h')(e:Ext h0 h')(p:Lo (kQ o h.next 2) 2 h0 h' d):jn (kQ o h.next 2) h0 h' d0 d1 d d3 d4 d5 n9 bs R9 n10 w ra R10:=
 ⟨e,t.l0.keep s (by decide) (fun _ q=>aH q),t.l1.keep s (by decide) (fun _ q=>aH q),p,t.l3.keep s (by decide) (fun _ q=>aH q),t.l4.keep s (by decide) (fun _ q=>aH q),t.l5.keep s (by decide) (fun _ q=>aH q),t.r9.keep s (by decide) (fun _ q=>aH q),t.r10.keep s (by decide) (fun _ q=>aH q)⟩
theorem jn.app3(t:jn o h0 h d0 d1 d2 d3 d4 d5 n9 bs R9 n10 w ra R10)(s:mH o 3 h h')(e:Ext h0 h')(p:Lo (kQ o h.next 3) 3 h0 h' d):jn (kQ o h.next 3) h0 h' d0 d1 d2 d d4 d5 n9 bs R9 n10 w ra R10:=
 ⟨e,t.l0.keep s (by decide) (fun _ q=>aH q),t.l1.keep s (by decide) (fun _ q=>aH q),t.l2.keep s (by decide) (fun _ q=>aH q),p,t.l4.keep s (by decide) (fun _ q=>aH q),t.l5.keep s (by decide) (fun _ q=>aH q),t.r9.keep s (by decide) (fun _ q=>aH q),t.r10.keep s (by decide) (fun _ q=>aH q)⟩
theorem jn.app4(t:jn o h0 h d0 d1 d2 d3 d4 d5 n9 bs R9 n10 w ra R10)(s:mH o 4 h h')(e:Ext h0 h')(p:Lo (kQ o h.next 4) 4 h0 h' d):jn (kQ o h.next 4) h0 h' d0 d1 d2 d3 d d5 n9 bs R9 n10 w ra R10:=
 ⟨e,t.l0.keep s (by decide) (fun _ q=>aH q),t.l1.keep s (by decide) (fun _ q=>aH q),t.l2.keep s (by decide) (fun _ q=>aH q),t.l3.keep s (by decide) (fun _ q=>aH q),p,t.l5.keep s (by decide) (fun _ q=>aH q),t.r9.keep s (by decide) (fun _ q=>aH q),t.r10.keep s (by decide) (fun _ q=>aH q)⟩
theorem jn.app5(t:jn o h0 h d0 d1 d2 d3 d4 d5 n9 bs R9 n10 w ra R10)(s:mH o 5 h h')(e:Ext h0 h')(p:Lo (kQ o h.next 5) 5 h0 h' d):jn (kQ o h.next 5) h0 h' d0 d1 d2 d3 d4 d n9 bs R9 n10 w ra R10:=
 ⟨e,t.l0.keep s (by decide) (fun _ q=>aH q),t.l1.keep s (by decide) (fun _ q=>aH q),t.l2.keep s (by decide) (fun _ q=>aH q),t.l3.keep s (by decide) (fun _ q=>aH q),t.l4.keep s (by decide) (fun _ q=>aH q),p,t.r9.keep s (by decide) (fun _ q=>aH q),t.r10.keep s (by decide) (fun _ q=>aH q)⟩
end
def DR(n:Nat)(bs cs:Nat->Nat)(i:Nat):List Hd:=gn (fun r=>(⟨some ⟨bs r,0,none⟩,n,cs r⟩:Hd)) i
def wS(n:Nat)(ra:Nat->Option Addr)(rc:Nat->Nat)(i:Nat):List Hd:=gn (fun r=>(⟨ra r,n,rc r⟩:Hd)) i
def II(bY:List Hd)(m i:Nat):List Hd:=gn (fun r=>gt bY ((m:Int)-1-r)) i
def If(B:List Fc)(m i:Nat):List Fc:=gn (fun r=>gt B ((m:Int)-1-r)) i
def A5(B:List Fc)(i:Nat):List Fc:=gn (fun r=>gt B (r:Int)) i
theorem FA{bY:List Hd}{m i:Nat}{J:Int}(e:J=(m:Int)-1-i):II bY m (i+1)=II bY m i++[gt bY J]:=by unfold II;rw[gc,e]
theorem G1{B:List Fc}{m i:Nat}{J:Int}(e:J=(m:Int)-1-i):If B m (i+1)=If B m i++[gt B J]:=by unfold If;rw[gc,e]
theorem G8{B:List Fc}{i:Nat}{I:Int}(e:I=i):A5 B (i+1)=A5 B i++[gt B I]:=by unfold A5;rw[gc,e]
theorem Fv{n i b c:Nat}{bs cs:Nat->Nat}:DR n (fun r=>if r<i then bs r else b) (fun r=>if r<i then cs r else c) (i+1)=DR n bs cs i++[⟨some ⟨b,0,none⟩,n,c⟩]:=by
 unfold DR;rw[gc];simp only[];rw[if_neg (Nat.lt_irrefl i),if_neg (Nat.lt_irrefl i)]
 congr 1
 exact di (fun r hr=>by rw[if_pos hr,if_pos hr])
theorem Eu{n i c:Nat}{a:Option Addr}{ra:Nat->Option Addr}{rc:Nat->Nat}:wS n (fun r=>if r<i then ra r else a) (fun r=>if r<i then rc r else c) (i+1)=wS n ra rc i++[⟨a,n,c⟩]:=by
 unfold wS;rw[gc];simp only[];rw[if_neg (Nat.lt_irrefl i),if_neg (Nat.lt_irrefl i)]
 congr 1
 exact di (fun r hr=>by rw[if_pos hr,if_pos hr])
def Dl(g:List (List Int))(n:Nat)(r:Nat):List Int:=jU (gt g (r:Int)) n
def JP(g:List (List Int))(r:Nat):List Int:=gt g (r:Int)
theorem mH.of_wrote{o:Nat->Nat}{k b:Nat}{h h':af}(w:gL h h' b)(e:o b=k):mH o k h h':=⟨by rw[w.next];exact Nat.le_refl _,fun j hj ne=>w.get j (fun q=>ne (by rw[q];exact e))⟩
section
variable{o:Nat->Nat}{h0 h h':af}{d0 d1 d2 d3 d4 d5 d:LD}{n9 n10 w:Nat}{bs:Nat->Nat}{R9 R10:Nat->List Int}{ra:Nat->Option Addr}
theorem jn.write9{x:Nat}{l:List Int}(t:jn o h0 h d0 d1 d2 d3 d4 d5 n9 bs R9 n10 w ra R10)(hx:x<n9)(wr:gL h h' (bs x))(p:bG h' (bs x) 1 (l.flatMap nC)):jn o h0 h' d0 d1 d2 d3 d4 d5 n9 bs (fun r=>if r=x then l else R9 r) n10 w ra R10:=by
 have s:mH o 6 h h':=.of_wrote wr (t.r9.mrk x hx);refine⟨wr.ext t.ext (t.r9.ge x hx),t.l0.keep s (by decide) (fun _ _=>rfl),t.l1.keep s (by decide) (fun _ _=>rfl),t.l2.keep s (by decide) (fun _ _=>rfl),t.l3.keep s (by decide) (fun _ _=>rfl),t.l4.keep s (by decide) (fun _ _=>rfl),t.l5.keep s (by decide) (fun _ _=>rfl),⟨fun r hr=>?_,fun r hr=>by rw[wr.next];exact t.r9.lt r hr,t.r9.ge,t.r9.mrk,t.r9.inj⟩,t.r10.keep s (by decide) (fun _ _=>rfl)⟩;by_cases c:r=x
 ·subst c;rw[if_pos rfl];exact p
 ·rw[if_neg c];exact wr.own (t.r9.own r hr) (fun q=>c (t.r9.inj r x hr hx q))
theorem jn.r9_congr{R:Nat->List Int}(t:jn o h0 h d0 d1 d2 d3 d4 d5 n9 bs R9 n10 w ra R10)(e:∀r,r<n9->R r=R9 r):jn o h0 h d0 d1 d2 d3 d4 d5 n9 bs R n10 w ra R10:=
 ⟨t.ext,t.l0,t.l1,t.l2,t.l3,t.l4,t.l5,⟨fun r hr=>by rw[e r hr];exact t.r9.own r hr,t.r9.lt,t.r9.ge,t.r9.mrk,t.r9.inj⟩,t.r10⟩
theorem jn.writeB{b m c x:Nat}{l:List Fc}{f:Fc}(t:jn o h0 h d0 d1 d2 ⟨2,some ⟨b,0,none⟩,m,c,l.flatMap fC⟩ d4 d5 n9 bs R9 n10 w ra R10)(hx:x<l.length):∃h',h.write b (x*2) (fC f)=some h'/\Ext h0 h'/\gL h h' b/\jn o h0 h' d0 d1 d2 ⟨2,some ⟨b,0,none⟩,m,c,(l.set x f).flatMap fC⟩ d4 d5 n9 bs R9 n10 w ra R10:=by
 have f3:=t.l3.fp _ rfl;rcases t.l3.apd with ⟨q,_⟩|⟨b',e,ec,hb,hl,ho⟩
 ·cases q
 cases e;obtain⟨h',w1,w2,w3⟩:=bG.setRow ho jQ hx f;have s:mH o 3 h h':=.of_wrote w3 f3.1;have e0:=w3.ext t.ext f3.2;refine⟨h',w1,e0,w3,e0,t.l0.keep s (by decide) (fun _ _=>rfl),t.l1.keep s (by decide) (fun _ _=>rfl),t.l2.keep s (by decide) (fun _ _=>rfl),⟨.inr ⟨b,rfl,ec,by rw[w3.next];exact hb,?_,w2⟩,t.l3.fp⟩,t.l4.keep s (by decide) (fun _ _=>rfl),t.l5.keep s (by decide) (fun _ _=>rfl),t.r9.keep s (by decide) (fun _ _=>rfl),t.r10.keep s (by decide) (fun _ _=>rfl)⟩;show((l.set x f).flatMap fC).length=m*2;rw[cQ jQ,List.length_set,<-cQ jQ];exact hl
end
theorem jn.first{o:Nat->Nat}{h0 h:af}{m n c8 d8:Nat}{a8 b8 aa:Option Addr}{bY:List Hd}{g:List (List Int)}{B:List Fc}{d2 d3 d4 d5:LD}{n9 n10 w:Nat}{bs:Nat->Nat}{R9 R10:Nat->List Int}{ra:Nat->Option Addr}(hg:jX nC 1 h0 aa m bY g)(t:jn o h0 h ⟨1,a8,m,c8,(II bY m m).flatMap Hd.cells⟩ ⟨2,b8,m,d8,(If B m m).flatMap fC⟩ d2 d3 d4 d5 n9 bs R9 n10 w ra R10):jX nC 1 h a8 m (jU bY m) (jU g m)/\Rows fC 2 h b8 m (jU B m):=by
 refine⟨⟨⟨t.l0.apd.cells,dF,by omega⟩,aL _ _,fun y y0 y1=>?_⟩,⟨t.l1.apd.cells,jQ,by omega⟩⟩;obtain⟨k,rfl⟩:∃k:Nat,y=k:=⟨y.toNat,by omega⟩;rw[iu bY (by omega),iu g (by omega)];exact(hg.row _ (by omega) (by omega)).ext t.ext
theorem jn.third{o:Nat->Nat}{h0 h:af}{m n c10 d10:Nat}{a10 b10:Option Addr}{g:List (List Int)}{B:List Fc}{d0 d1 d2 d3:LD}{n9:Nat}{bs rc:Nat->Nat}{R9:Nat->List Int}{ra:Nat->Option Addr}(t:jn o h0 h d0 d1 d2 d3 ⟨1,a10,m,c10,(wS n ra rc m).flatMap Hd.cells⟩ ⟨2,b10,m,d10,(A5 B m).flatMap fC⟩ n9 bs R9 m n ra (Dl g n)):jX nC 1 h a10 m (wS n ra rc m) (qF g m n)/\Rows fC 2 h b10 m (A5 B m):=by
 refine⟨⟨⟨t.l4.apd.cells,dF,by omega⟩,aL _ _,fun y y0 y1=>?_⟩,⟨t.l5.apd.cells,jQ,by omega⟩⟩;obtain⟨k,rfl⟩:∃k:Nat,y=k:=⟨y.toNat,by omega⟩;have e1:gt (wS n ra rc m) (k:Int)=⟨ra k,n,rc k⟩:=cO _ (by omega);have e2:gt (qF g m n) (k:Int)=Dl g n k:=cO _ (by omega);rw[e1,e2];exact t.r10.row k (by omega)
theorem jn.second{o:Nat->Nat}{h0 h:af}{m n c9 d9:Nat}{a9 b9:Option Addr}{l:List Fc}{d0 d1 d4 d5:LD}{n10 w:Nat}{bs cs:Nat->Nat}{R9 R10:Nat->List Int}{ra:Nat->Option Addr}(t:jn o h0 h d0 d1 ⟨1,a9,m,c9,(DR n bs cs m).flatMap Hd.cells⟩ ⟨2,b9,m,d9,l.flatMap fC⟩ d4 d5 m bs R9 n10 w ra R10)(hw:∀r,r<m->(R9 r).length=n):jX nC 1 h a9 m (DR n bs cs m) (gn R9 m)/\Rows fC 2 h b9 m l:=by
 refine⟨⟨⟨t.l2.apd.cells,dF,by omega⟩,aL _ _,fun y y0 y1=>?_⟩,⟨t.l3.apd.cells,jQ,by omega⟩⟩;obtain⟨k,rfl⟩:∃k:Nat,y=k:=⟨y.toNat,by omega⟩;have e1:gt (DR n bs cs m) (k:Int)=⟨some ⟨bs k,0,none⟩,n,cs k⟩:=cO _ (by omega);have e2:gt (gn R9 m) (k:Int)=R9 k:=cO _ (by omega);rw[e1,e2];have:=bG.rows (enc:=nC) (es:=1) (t.r9.own k (by omega)) df (by omega) (t.r9.lt k (by omega));rw[hw k (by omega)]at this;exact this
def vx(g:List (List Int))(n x y c:Nat):List Int:=gn (fun j=>if j<c then Ext.el g x j+Ext.el g y j else Ext.el g x j) n
theorem Gj{g:List (List Int)}{n x y c:Nat}:(vx g n x y c).set c (Ext.el g x c+Ext.el g y c)=vx g n x y (c+1):=by
 unfold vx;rw[pJ];refine di (fun j hj=>?_);by_cases e:j=c
 ·subst e;rw[if_pos rfl,if_pos (by omega)]
 ·rw[if_neg e]
  by_cases q:j<c
  ·rw[if_pos q,if_pos (by omega)]
  ·rw[if_neg q,if_neg (by omega)]
def DC(g:List (List Int))(n x y c:Nat)(r:Nat):List Int:=if r=x then vx g n x y c else gt g (r:Int)
theorem DI{g:List (List Int)}{m n x y:Nat}(hM:kT g m n)(hx:x<m):∀r,r<m->DC g n x y 0 r=JP g r:=fun r hr=>by
 unfold DC JP;by_cases c:r=x
 ·subst c
  rw[if_pos rfl];have e:(gt g (r:Int)).length=n:=hM.row _ (by omega) (by omega);have e2:=EP (gt g (r:Int));rw[e]at e2;rw[e2];unfold vx;exact di (fun j hj=>by rw[if_neg (by omega)];rfl)
 ·rw[if_neg c]
theorem jn.start(h:af)(bY:List Hd)(g:List (List Int))(B:List Fc)(m n:Nat):jn (fun _=>0) h h ⟨1,none,0,0,(II bY m 0).flatMap Hd.cells⟩ ⟨2,none,0,0,(If B m 0).flatMap fC⟩ ⟨1,none,0,0,(DR n (fun _=>0) (fun _=>0) 0).flatMap Hd.cells⟩ ⟨2,none,0,0,(A5 B 0).flatMap fC⟩ ⟨1,none,0,0,(wS n (fun _=>none) (fun _=>0) 0).flatMap Hd.cells⟩ ⟨2,none,0,0,(A5 B 0).flatMap fC⟩ 0 (fun _=>0) (JP g) 0 n (fun _=>none) (Dl g n):=
 ⟨.refl h,Lo.nil _ _ _ _ _,Lo.nil _ _ _ _ _,Lo.nil _ _ _ _ _,Lo.nil _ _ _ _ _,Lo.nil _ _ _ _ _,Lo.nil _ _ _ _ _,⟨fun r hr=>by omega,fun r hr=>by omega,fun r hr=>by omega,fun r hr=>by omega,fun r s hr=>by omega⟩,⟨fun r hr=>by omega,fun r hr=>by omega⟩⟩
theorem rV(l:List Fc){k:Nat}(v:Fc)(hk:k<l.length)(j:Nat):gt (l.set k v) (j:Int)=if j=k then v else gt l (j:Int):=by
 unfold gt;rw[List.getD_eq_getElem?_getD,List.getD_eq_getElem?_getD,show((j:Int)).toNat=j from rfl,List.getElem?_set];by_cases c:k=j
 ·subst c;simp[hk]
 ·rw[if_neg c,if_neg (fun q=>c q.symm)]
variable{F:aM}{call head arith cmp a0 bnot b0 c0 f0 g0 k0 ofNat n0 place o0 nz p0 rd wr q0 next s0 t0 z0 t1 z1 n2 z2 i3 j3 part app m3 putAt fresh lowered bump wrote addN lt ne o3 fpApp z3 yn e4 i4 j4 o4 u4 z4:_}(hA:AP F ⟨call,head,arith,cmp,a0,bnot,b0,c0,f0,g0,k0,ofNat,n0,place,o0,nz,p0,rd,wr,q0,next,s0,t0,z0,t1,z1,n2,z2,i3,j3,part,app,m3,putAt,fresh,lowered,bump,wrote,addN,lt,ne,o3,fpApp,z3,yn,e4,i4,j4,o4,u4,z4⟩)
include hA
theorem HI{t e es:Nat}(hT:dB Try.prog t e es){α:Type}{enc:α->List Value}(he:∀x,(enc x).length=es)(hp0:0<es)(hok:∀x,(enc x).all aA=true){X:af}{a a2:Option Addr}{n c:Nat}{l:List α}{v:α}(hp:jw X es a n c (l.flatMap enc))(hs:cD X a2 1 es (enc v))(hn:n<=100000){C:Option Addr->Nat->Nat->af->Prop}
  (hC:∀b' h',jw (lowered X h') es (some ⟨b',0,none⟩) (n+1) (ar es (n+1)) ((l++[v]).flatMap enc)->X.next<=b'->X.next<=(lowered X h').next->(∀j,j<X.next->(∀ad,a=some ad->ad.block≠j)->(lowered X h').m.get j=X.m.get j)->(∀h0,Ext h0 X->h0.low<=h0.next->gf h0.next a->Ext h0 (lowered X h'))->(a=none->wrote X h'=false)->C (some ⟨b',0,none⟩) (n+1) (ar es (n+1)) h') :
  app [t,t] [.slice a n c,.slice a2 1 1] (fresh X) C:=by
 simp only[cT hA]at hC;rw[fM hA,oI hA];have hp1:jw X.freshed es a n c (l.flatMap enc):=jw.of_get hp (Nat.le_refl _) (fun ad had _=>rfl);have hs1:cD X.freshed a2 1 es (enc v):=hs.ext (Ext.freshed X);obtain⟨a',c',h',h1,h2,h3,h4,h5,h6⟩:=nl hT hT.und (c2:=1) hp1 hs1 (jP hok l) (hok v) (by omega) (by omega);rcases h2 with ⟨_,w,_⟩|⟨b',rfl,rfl,w1,w2,w3⟩
 ·omega
 refine⟨_,n+1,_,h',h1,hC b' h' (.inr ⟨b',rfl,rfl,w1,by rw[cQ he];simp only[List.length_append,List.length_cons,List.length_nil];have:=hp.cells.length;rw[cQ he]at this;rw[Nat.eq_of_mul_eq_mul_right hp0 this],?_⟩) (h5 _ rfl) h4 (fun j j0 j2=>h6 j j0 j2) (fun h0 x l0 x2=>?_) (fun q=>wrote_no hA (by rw[fM hA];exact(h3 _ (Ext.refl _) (by rw[q];exact gf.none _)).1))⟩
 ·have w4:bG (h'.lowered X.low) b' es (l.flatMap enc++enc v):=w3
  simpa using w4
 ·exact Ext.lower' (h3 h0 (x.trans (Ext.freshed _)) x2).1 x l0
def K8(fpApp:Bool->Bool->Bool->Nat->Nat->Nat->Prop)(w:Bool)(v:Value)(a:Option Addr):Prop:=∀b lim,b<lim->(∀ad,a=some ad->b≠ad.block)->fpApp false w false b lim (wo (some v))
theorem nP{t e es:Nat}(hT:dB Try.prog t e es){α:Type}{enc:α->List Value}(he:∀x,(enc x).length=es)(hp0:0<es)(hok:∀x,(enc x).all aA=true){o:Nat->Nat}{k:Nat}{h0 X:af}(hl0:h0.low<=h0.next)(x0:Ext h0 X){a a2:Option Addr}{n n1 c:Nat}{l:List α}{v:α}(hp:Lo o k h0 X ⟨es,a,n,c,l.flatMap enc⟩)(hs:cD X a2 1 es (enc v))(hn:n<=100000)(hn1:n1=n+1){C:Option Addr->Nat->Nat->af->Prop}
  (hC:∀b' c' h',mH o k X (lowered X h')->Lo (kQ o X.next k) k h0 (lowered X h') ⟨es,some ⟨b',0,none⟩,n1,c',(l++[v]).flatMap enc⟩->Ext h0 (lowered X h')->(∀j,j<X.next->(∀ad,a=some ad->ad.block≠j)->(lowered X h').m.get j=X.m.get j)->K8 fpApp (wrote X h') (.slice a n c) a->C (some ⟨b',0,none⟩) n1 c' h') :
  app [t,t] [.slice a n c,.slice a2 1 1] (fresh X) C:=by
 subst hn1;refine HI hA hT he hp0 hok (v:=v) hp.apd hs hn (fun b' h' p1 p2 p3 p4 p5 p6=>hC b' _ h' ⟨p3,fun j hj ne=>p4 j hj (fun ad had q=>ne (by rw[<-q];exact(hp.fp ad had).1))⟩ (Lo.fresh p1 p2 x0.next) (p5 h0 x0 hl0 (fun ad had=>(hp.fp ad had).2)) p4 (fun b lim hb hne=>?_));cases a with
 |none=>rw[xK hA];exact⟨rfl,.inl (p6 rfl),.inr hb⟩
 |some ad=>rw[xK hA];exact⟨rfl,.inr (hne ad rfl),.inr hb⟩
theorem HB{h0:af}(hl0:h0.low<=h0.next){m n ac:Nat}{aa:Option Addr}{bY:List Hd}{g:List (List Int)}(hM:kT g m n)(hg:jX nC 1 h0 aa m bY g){i:Nat}(ci:i<m){I:Int}(eI:I=i){x y:Int}{v8 v9 v10:Value}{k0b:Value}{p1 p2 p3 p4 p5 p6 p7:List Value}{Q:Exit->SS->Prop}
  (hQ:∀h a c,jw h 1 a n c ((Dl g n i).flatMap nC)->gf h0.next a->Ext h0 h->
   Q (.exit 2) ⟨[(1,.int .i64 x),(2,.int .i64 y),(3,.pointer (some ⟨0,0,some 0⟩)),(7,.bool true),(8,v8),(9,v9),(10,v10),(11,.int .i64 I),(12,.slice a n c)],60,[(2,p1),(2,p2),(1,p3),(1,p4),(0,[.slice aa m ac,k0b]),(1,p5),(2,p6),(3,p7)],h⟩) :
  ∀(d j:Nat) (J:Int) (h:af) (a:Option Addr) (c:Nat),n-j<=d->j<=n->J=(n:Int)-1-j->jw h 1 a j c ((gn (fun q=>gt (gt g (i:Int)) ((n:Int)-1-q)) j).flatMap nC)->gf h0.next a->Ext h0 h->
   head 5 12 60 ⟨[(1,.int .i64 x),(2,.int .i64 y),(3,.pointer (some ⟨0,0,some 0⟩)),(7,.bool true),(8,v8),(9,v9),(10,v10),(11,.int .i64 I),(12,.slice a j c),(13,.int .i64 J)],60,[(2,p1),(2,p2),(1,p3),(1,p4),(0,[.slice aa m ac,k0b]),(1,p5),(2,p6),(3,p7)],h⟩ Q:=by
 intro d;have m4:=hM.m4;have n4:=hM.n4
 induction d with
 |zero=>
  intro j J h a c hd hj eJ t fo e;refine hA.roundR Try.func5 r5_ok (zc ?_);refine zq ?_;refine br (J≥0) (by rw[bE hA]) (fun q=>by omega) (fun _=>?_)<;>refine zc ?_;obtain rfl:j=n:=by omega
  exact hQ h a c t fo e
 |succ d ih=>
 intro j J h a c hd hj eJ t fo e;by_cases cj:j<n
 rotate_left
 ·refine hA.roundR Try.func5 r5_ok (zc ?_)
  refine zq ?_;refine br (J≥0) (by rw[bE hA]) (fun q=>by omega) (fun _=>?_)<;>refine zc ?_;obtain rfl:j=n:=by omega
  exact hQ h a c t fo e
 obtain⟨ab,ao,rfl,hab,w1⟩:=(hg.ext e).hdAt (i:=I) (by omega) (by omega);have row:=(hg.ext e).row I (by omega) (by omega);have hln:(gt g I).length=n:=hM.row I (by omega) (by omega);have hn2:=row.len;rw[hln]at hn2;rw[<-hn2]at w1 row;obtain⟨xa,exa⟩:∃z,z=(gt bY I).a:=⟨_,rfl⟩;obtain⟨xc,exc⟩:∃z,z=(gt bY I).c:=⟨_,rfl⟩;rw[<-exa,<-exc]at w1;rw[<-exa]at row;have r1:rd h ab (place ao I 1) 1 [.slice xa n xc]:=az hA w1;obtain⟨xb,xo,rfl,hxb,w2⟩:=row.at (i:=J) (by omega) (by omega);have w2:=w2 0 1 (by omega) (by omega);obtain⟨v,ev⟩:∃z,z=gt (gt g I) J:=⟨_,rfl⟩;rw[<-ev]at w2;have r2:rd h xb (place xo J 1) 1 [.int .i64 v]:=az hA w2;have es:gn (fun q=>gt (gt g (i:Int)) ((n:Int)-1-q)) (j+1)=gn (fun q=>gt (gt g (i:Int)) ((n:Int)-1-q)) j++[v]:=by
  rw[gc,ev,eI,eJ]
 obtain⟨L,eL⟩:∃L,L=gn (fun q=>gt (gt g (i:Int)) ((n:Int)-1-q)) j:=⟨_,rfl⟩;rw[<-eL]at t es;obtain⟨j1,ej1⟩:∃z,z=j+1:=⟨_,rfl⟩;refine hA.roundR Try.func5 r5_ok (zc ?_);refine zq ?_;refine br (J≥0) (by rw[bE hA]) (fun _=>?_) (fun q=>by omega)<;>refine zc ?_;refine zq ?_;refine Dc hA Hx df (by omega) uG (v:=v) t (by omega) (fun a' c' h2 t2 x2=>?_);obtain⟨x3,f3⟩:=x2 h0 e fo;rw[<-ej1]at t2 ⊢;rw[<-es,<-ej1]at t2;refine zq ?_;rw[bD hA (by omega) (by omega)];exact ih j1 (J-1) h2 a' c' (by omega) (by omega) (by omega) t2 f3 x3
set_option maxHeartbeats 2000000 in
theorem HG{h0:af}(hl0:h0.low<=h0.next){m n ac bc:Nat}{aa ba:Option Addr}{bY:List Hd}{g:List (List Int)}{B:List Fc}(hM:kT g m n)(hg:jX nC 1 h0 aa m bY g)(hB:Rows fC 2 h0 ba m B){x y:Int}{Q:Exit->SS->Prop}
  (hQ:∀h o a8 c8 b8 d8 a9 c9 b9 d9 a10 c10 b10 d10 bs cs ra rc,jn o h0 h ⟨1,a8,m,c8,(II bY m m).flatMap Hd.cells⟩ ⟨2,b8,m,d8,(If B m m).flatMap fC⟩ ⟨1,a9,m,c9,(DR n bs cs m).flatMap Hd.cells⟩ ⟨2,b9,m,d9,(A5 B m).flatMap fC⟩ ⟨1,a10,m,c10,(wS n ra rc m).flatMap Hd.cells⟩ ⟨2,b10,m,d10,(A5 B m).flatMap fC⟩ m bs (JP g) m n ra (Dl g n)->
   Q (.exit 0) ⟨[(1,.int .i64 x),(2,.int .i64 y),(3,.pointer (some ⟨0,0,some 0⟩)),(7,.bool true),(8,.pointer (some ⟨1,0,some 0⟩)),(9,.pointer (some ⟨2,0,some 0⟩)),(10,.pointer (some ⟨3,0,some 0⟩))],4,[(0,[.slice aa m ac,.slice ba m bc]),(1,[.slice a8 m c8,.slice b8 m d8]),(2,[.slice a9 m c9,.slice b9 m d9]),(3,[.slice a10 m c10,.slice b10 m d10])],h⟩) :
  ∀(d i:Nat) (I:Int) (h:af) o a8 c8 b8 d8 a9 c9 b9 d9 a10 c10 b10 d10 bs cs ra rc,m-i<=d->i<=m->I=i->
   jn o h0 h ⟨1,a8,i,c8,(II bY m i).flatMap Hd.cells⟩ ⟨2,b8,i,d8,(If B m i).flatMap fC⟩ ⟨1,a9,i,c9,(DR n bs cs i).flatMap Hd.cells⟩ ⟨2,b9,i,d9,(A5 B i).flatMap fC⟩ ⟨1,a10,i,c10,(wS n ra rc i).flatMap Hd.cells⟩ ⟨2,b10,i,d10,(A5 B i).flatMap fC⟩ i bs (JP g) i n ra (Dl g n)->
   head 5 6 4 ⟨[(1,.int .i64 x),(2,.int .i64 y),(3,.pointer (some ⟨0,0,some 0⟩)),(7,.bool true),(8,.pointer (some ⟨1,0,some 0⟩)),(9,.pointer (some ⟨2,0,some 0⟩)),(10,.pointer (some ⟨3,0,some 0⟩)),(11,.int .i64 I)],4,[(0,[.slice aa m ac,.slice ba m bc]),(1,[.slice a8 i c8,.slice b8 i d8]),(2,[.slice a9 i c9,.slice b9 i d9]),(3,[.slice a10 i c10,.slice b10 i d10])],h⟩ Q:=by
 intro d;have m4:=hM.m4;have n4:=hM.n4;have n1:=hM.n1;obtain⟨M,eM⟩:∃z:Int,z=m:=⟨_,rfl⟩;have e0:ofNat m=M:=by rw[eM];exact aF hA m
 induction d with
 |zero=>
  intro i I h o a8 c8 b8 d8 a9 c9 b9 d9 a10 c10 b10 d10 bs cs ra rc hd hi eI t;refine hA.roundR Try.func5 r5_ok (zc ?_)
  (refine zq ?_;repeat ((first|rw[e0]);refine zq ?_))
  refine br (I<M) (by rw[au hA]) (fun q=>by omega) (fun _=>?_)<;>refine zc ?_;obtain rfl:i=m:=by omega
  exact hQ h o a8 c8 b8 d8 a9 c9 b9 d9 a10 c10 b10 d10 bs cs ra rc t
 |succ d ih=>
 intro i I h o a8 c8 b8 d8 a9 c9 b9 d9 a10 c10 b10 d10 bs cs ra rc hd hi eI t;by_cases ci:i<m
 rotate_left
 ·refine hA.roundR Try.func5 r5_ok (zc ?_)
  (refine zq ?_;repeat ((first|rw[e0]);refine zq ?_))
  refine br (I<M) (by rw[au hA]) (fun q=>by omega) (fun _=>?_)<;>refine zc ?_;obtain rfl:i=m:=by omega
  exact hQ h o a8 c8 b8 d8 a9 c9 b9 d9 a10 c10 b10 d10 bs cs ra rc t
 have I0:0<=I:=by omega
 have I1:I<m:=by omega
 have hlow:=t.ext.lowOK hl0;obtain⟨J,eJ⟩:∃z,z=M-1-I:=⟨_,rfl⟩;obtain⟨M1,eM1⟩:∃z,z=M-1:=⟨_,rfl⟩;have m0:arith .sub .i64 M 1=M1:=by rw[eM1];exact bD hA (by omega) (by omega)
 have m1:arith .sub .i64 M1 I=J:=by rw[eJ,eM1];exact bD hA (by omega) (by omega)
 obtain⟨X,eX⟩:∃z,z=bump h 32:=⟨_,rfl⟩;have xX:Ext h X:=by rw[eX];exact aq hA _ _
 have tX:=t.more xX;obtain⟨ab,ao,rfl,hab,w1⟩:=(hg.ext tX.ext).hdAt (i:=J) (by omega) (by omega);obtain⟨xa,exa⟩:∃z,z=(gt bY J).a:=⟨_,rfl⟩;obtain⟨xn,exn⟩:∃z,z=(gt bY J).n:=⟨_,rfl⟩;obtain⟨xc,exc⟩:∃z,z=(gt bY J).c:=⟨_,rfl⟩;rw[<-exa,<-exn,<-exc]at w1;have r1:rd X ab (place ao J 1) 1 [.slice xa xn xc]:=az hA w1;have nX:X.next=h.next+32:=by rw[eX,iY hA];rfl
 have ei:∀k,addN (next h) k=h.next+k:=fun k=>by rw[cB hA,bV hA]
 obtain⟨i1,ei1⟩:∃z,z=addN (next h) 12:=⟨_,rfl⟩;have hi1:=ei 12;rw[<-ei1]at hi1;obtain⟨X1,eX1⟩:∃z,z=putAt X i1 1 [.slice xa xn xc]:=⟨_,rfl⟩;obtain⟨q1,q2,q3,q4⟩:=lr hA xX (i:=i1) (es:=1) (by omega) [.slice xa xn xc];rw[<-eX1]at q1 q2 q3 q4;obtain⟨fb,fo,rfl,hfb,w2⟩:=(hB.ext (t.ext.trans q1)).at (i:=J) (by omega) (by omega);obtain⟨bn,bd,ebf⟩:∃x y,gt B J=⟨x,y⟩:=⟨_,_,rfl⟩;have w2:=w2 0 2 (by omega) (by omega);rw[ebf]at w2;have r2:rd X1 fb (place fo J 2) 2 [.int .i64 bn,.int .i64 bd]:=az hA w2;obtain⟨i2,ei2⟩:∃z,z=addN (next h) 25:=⟨_,rfl⟩;have hi2:=ei 25;rw[<-ei2]at hi2;obtain⟨X2,eX2⟩:∃z,z=putAt X1 i2 2 [.int .i64 bn,.int .i64 bd]:=⟨_,rfl⟩;obtain⟨s1,s2,s3,s4⟩:=lr hA q1 (i:=i2) (es:=2) (by omega) [.int .i64 bn,.int .i64 bd];rw[<-eX2]at s1 s2 s3 s4;have t2:=t.more s1;refine hA.roundR Try.func5 r5_ok (zc ?_)
 (refine zq ?_;repeat ((first|rw[e0]);refine zq ?_))
 refine br (I<M) (by rw[au hA]) (fun _=>?_) (fun q=>by omega)<;>refine zc ?_
 (refine zq ?_;repeat ((first|rw[e0]|rw[m0]|rw[m1]);refine zq ?_))
 rw[<-eX]
 (refine zq ?_;repeat ((first|rw[e0]|rw[m0]|rw[m1]);refine zq ?_))
 rw[<-ei1,<-eX1]
 (refine zq ?_;repeat ((first|rw[e0]|rw[m0]|rw[m1]);refine zq ?_))
 rw[<-ei2,<-eX2];obtain⟨i',ei'⟩:∃z,z=i+1:=⟨_,rfl⟩;have lt8:=t.l0.apd.lt;have cl1:cD X2 (some ⟨i1,0,none⟩) 1 1 (Hd.cells ⟨xa,xn,xc⟩):=⟨rfl,by show i1<_;omega,by rw[(q2.of_get (s4 i1 (by omega))).readG (Nat.le_refl 1)];rfl⟩;refine nP hA vp dF (by omega) uL (v:=(⟨xa,xn,xc⟩:Hd)) hl0 t2.ext t2.l0 cl1 (by omega) ei' (fun b1 c1 h3 p1 p2 p3 p4 f1=>?_);have t3:=t2.app0 p1 p3 p2;obtain⟨Z1,eZ1⟩:∃z,z=lowered X2 h3:=⟨_,rfl⟩;rw[<-eZ1]at p1 p2 p3 p4 t3;have g3:bG Z1 i2 2 [.int .i64 bn,.int .i64 bd]:=s2.of_get (p4 i2 (by omega) (fun ad had=>by have:=lt8 ad had;omega))
 (refine zq ?_;repeat ((first|rw[e0]|rw[m0]|rw[m1]);refine zq ?_))
 rw[<-eZ1];have n3:=p1.next;have cl2:cD Z1 (some ⟨i2,0,none⟩) 1 2 (fC ⟨bn,bd⟩):=⟨rfl,by show i2<_;omega,by rw[g3.readG (Nat.le_refl 2)];rfl⟩;refine nP hA K4 jQ (by omega) Cj (v:=(⟨bn,bd⟩:Fc)) hl0 t3.ext t3.l1 cl2 (by omega) ei' (fun b2 c2 h4 p5 p6 p7 _ f2=>?_);have t4:=t3.app1 p5 p7 p6;obtain⟨Z2,eZ2⟩:∃z,z=lowered Z1 h4:=⟨_,rfl⟩;rw[<-eZ2]at p5 p6 p7 t4;have nz2:=p5.next;have e32:=ei 32;have lf:fb<h0.next:=hB.lt _ rfl;have la:ab<h0.next:=hg.hd.lt _ rfl;have hh0:=t.ext.next
 (refine zq ?_;repeat ((first|rw[e0]|rw[m0]|rw[m1]);refine zq ?_))
 refine⟨f1 _ _ (by omega) (fun ad had=>by have:=(t.l0.fp ad had).2;omega),f1 _ _ (by omega) (fun ad had=>by have:=lt8 ad had;omega),uO hA ?_⟩;obtain⟨Y,eY⟩:∃z,z=bump Z2 24:=⟨_,rfl⟩;have xY:Ext Z2 Y:=by rw[eY];exact aq hA _ _
 have nY:Y.next=Z2.next+24:=by rw[eY,iY hA];rfl
 have tY:=t4.more xY;have ej:∀k,addN (next Z2) k=Z2.next+k:=fun k=>by rw[cB hA,bV hA]
 obtain⟨u1,eu1⟩:∃z,z=addN (next Z2) 2:=⟨_,rfl⟩;have hu1:=ej 2;rw[<-eu1]at hu1;obtain⟨Y1,eY1⟩:∃z,z=putAt Y u1 1 []:=⟨_,rfl⟩;obtain⟨v1,v2,v3,v4⟩:=lr hA xY (i:=u1) (es:=1) (by omega) [];rw[<-eY1]at v1 v2 v3 v4;obtain⟨ab',ao',ea',_,w3⟩:=(hg.ext (t4.ext.trans v1)).hdAt (i:=I) I0 I1;cases ea';have hln:(gt g I).length=n:=hM.row I (by omega) (by omega);have row:=hg.row I I0 I1;have hn2:=row.len;rw[hln]at hn2;obtain⟨ya,eya⟩:∃z,z=(gt bY I).a:=⟨_,rfl⟩;obtain⟨yc,eyc⟩:∃z,z=(gt bY I).c:=⟨_,rfl⟩;rw[<-hn2,<-eya,<-eyc]at w3;rw[<-hn2,<-eya]at row;have r3:rd Y1 ab (place ao I 1) 1 [.slice ya n yc]:=az hA w3;obtain⟨fb',fo',ef',_,w4⟩:=(hB.ext (t4.ext.trans v1)).at (i:=I) (by omega) (by omega);cases ef';obtain⟨cn,cd,ecf⟩:∃x y,gt B I=⟨x,y⟩:=⟨_,_,rfl⟩;have w4:=w4 0 2 (by omega) (by omega);rw[ecf]at w4;have r4:rd Y1 fb (place fo I 2) 2 [.int .i64 cn,.int .i64 cd]:=az hA w4;obtain⟨u2,eu2⟩:∃z,z=addN (next Z2) 15:=⟨_,rfl⟩;have hu2:=ej 15;rw[<-eu2]at hu2;obtain⟨Y2,eY2⟩:∃z,z=putAt Y1 u2 2 [.int .i64 cn,.int .i64 cd]:=⟨_,rfl⟩;obtain⟨w5,w6,w7,w8⟩:=lr hA v1 (i:=u2) (es:=2) (by omega) [.int .i64 cn,.int .i64 cd];rw[<-eY2]at w5 w6 w7 w8;have tY2:=t4.more w5
 (refine zq ?_;repeat ((first|rw[e0]|rw[m0]|rw[m1]);refine zq ?_))
 rw[<-eZ2,<-eY,<-eu1,<-eY1]
 (refine zq ?_;repeat ((first|rw[e0]|rw[m0]|rw[m1]);refine zq ?_))
 rw[<-eu2,<-eY2];have lZ2:=t4.ext.lowOK hl0;refine zu hA Hx uG lZ2 w5 (i:=u1) (by omega) (by omega) (v2.of_get (w8 u1 (by omega))) (row.ext (t4.ext.trans w5)) (by omega) (fun b3 c3 h5 k1 k2 k3 k4 k5 k6 k7 k8=>?_);obtain⟨Z3,eZ3⟩:∃z,z=lowered Y2 h5:=⟨_,rfl⟩;rw[<-eZ3]at k1 k2 k5 k6 k7;have k8:=k8 (by omega);obtain⟨u3,eu3⟩:∃z,z=addN (next Z2) 17:=⟨_,rfl⟩;have hu3:=ej 17;rw[<-eu3]at hu3;obtain⟨Z4,eZ4⟩:∃z,z=putAt Z3 u3 1 [.slice (some ⟨b3,0,none⟩) n c3]:=⟨_,rfl⟩;obtain⟨y1,y2,y3,y4⟩:=lr hA k7 (i:=u3) (es:=1) (by omega) [.slice (some ⟨b3,0,none⟩) n c3];rw[<-eZ4]at y1 y2 y3 y4;have nb3:b3≠u3:=by rcases k4 with q|q<;>omega
 have t5:=t4.row9 y1 (b:=b3) (by rw[show JP g i=gt g I by unfold JP;rw[eI]];exact k1.of_get (y4 b3 nb3)) k3 (by omega);have cl3:cD Z4 (some ⟨u3,0,none⟩) 1 1 (Hd.cells ⟨some ⟨b3,0,none⟩,n,c3⟩):=⟨rfl,by show u3<_;omega,by rw[y2.readG (Nat.le_refl 1)];rfl⟩;have lt9:=t.l2.apd.lt
 (refine zq ?_;repeat ((first|rw[e0]|rw[m0]|rw[m1]);refine zq ?_))
 rw[<-eZ3,<-eu3,<-eZ4];refine nP hA vp dF (by omega) uL (v:=(⟨some ⟨b3,0,none⟩,n,c3⟩:Hd)) hl0 t5.ext t5.l2 cl3 (by omega) ei' (fun b4 c4 h6 p1 p2 p3 p4 f3=>?_);have t6:=t5.app2 p1 p3 p2;obtain⟨Z5,eZ5⟩:∃z,z=lowered Z4 h6:=⟨_,rfl⟩;rw[<-eZ5]at p1 p2 p3 p4 t6;have n5:=p1.next;have g4:bG Z5 u2 2 [.int .i64 cn,.int .i64 cd]:=((w6.of_get (k6 u2 (by omega) (by omega))).of_get (y4 u2 (by omega))).of_get (p4 u2 (by omega) (fun ad had=>by have:=lt9 ad had;omega));have cl4:cD Z5 (some ⟨u2,0,none⟩) 1 2 (fC ⟨cn,cd⟩):=⟨rfl,by show u2<_;omega,by rw[g4.readG (Nat.le_refl 2)];rfl⟩
 (refine zq ?_;repeat ((first|rw[e0]|rw[m0]|rw[m1]);refine zq ?_))
 rw[<-eZ5];refine nP hA K4 jQ (by omega) Cj (v:=(⟨cn,cd⟩:Fc)) hl0 t6.ext t6.l3 cl4 (by omega) ei' (fun b5 c5 h7 p5 p6 p7 _ f4=>?_);have t7:=t6.app3 p5 p7 p6;obtain⟨Z6,eZ6⟩:∃z,z=lowered Z5 h7:=⟨_,rfl⟩;rw[<-eZ6]at p5 p6 p7 t7;have e24:=ej 24;have a9f:∀ad,a9=some ad->h0.next<=ad.block/\ad.block<h.next:=fun ad had=>⟨(t.l2.fp ad had).2,lt9 ad had⟩
 (refine zq ?_;repeat ((first|rw[e0]|rw[m0]|rw[m1]);refine zq ?_))
 refine⟨GB hA (by omega) (by omega),Fi hA (by omega),f3 _ _ (by omega) (fun ad had=>by have:=a9f ad had;omega),GB hA (by omega) (by omega),Fi hA (by omega),f3 _ _ (by omega) (fun ad had=>by have:=a9f ad had;omega),uO hA ?_⟩;obtain⟨NI,eNI⟩:∃z:Int,z=n:=⟨_,rfl⟩;have e1:ofNat n=NI:=by rw[eNI];exact aF hA n
 obtain⟨ab',ao',ea',_,w9⟩:=(hg.ext t7.ext).hdAt (i:=I) I0 I1;cases ea';rw[<-hn2,<-eya,<-eyc]at w9;have r5:rd Z6 ab (place ao I 1) 1 [.slice ya n yc]:=az hA w9;have m2:arith .sub .i64 NI 1=NI-1:=bD hA (by omega) (by omega)
 (refine zq ?_;repeat ((first|rw[e0]|rw[e1]|rw[m0]|rw[m1]);refine zq ?_))
 rw[<-eZ6]
 (refine zq ?_;repeat ((first|rw[e0]|rw[e1]|rw[m0]|rw[m1]);refine zq ?_))
 rw[m2];refine HB hA (t7.ext.lowOK hl0) hM (hg.ext t7.ext) ci eI (fun W ra1 rc1 g1 g2 g3=>?_) n 0 (NI-1) Z6 none 0 (by omega) (by omega) (by omega) (.nil _ _) (.none _) (.refl _);have t8:=t7.row10 g3 (a:=ra1) ⟨g1.cells,df,by omega⟩ g2;obtain⟨V,eV⟩:∃z,z=bump W 18:=⟨_,rfl⟩;have xV:Ext W V:=by rw[eV];exact aq hA _ _
 have nV:V.next=W.next+18:=by rw[eV,iY hA];rfl
 have ek:∀k,addN (next W) k=W.next+k:=fun k=>by rw[cB hA,bV hA]
 obtain⟨o1,eo1⟩:∃z,z=addN (next W) 3:=⟨_,rfl⟩;have ho1:=ek 3;rw[<-eo1]at ho1;obtain⟨V1,eV1⟩:∃z,z=putAt V o1 1 [.slice ra1 n rc1]:=⟨_,rfl⟩;obtain⟨a1,a2,a3,a4⟩:=lr hA xV (i:=o1) (es:=1) (by omega) [.slice ra1 n rc1];rw[<-eV1]at a1 a2 a3 a4;obtain⟨fb',fo',ef',_,w10⟩:=(hB.ext (t8.ext.trans a1)).at (i:=I) I0 I1;cases ef';have w10:=w10 0 2 (by omega) (by omega);rw[ecf]at w10;have r6:rd V1 fb (place fo I 2) 2 [.int .i64 cn,.int .i64 cd]:=az hA w10;obtain⟨o2,eo2⟩:∃z,z=addN (next W) 11:=⟨_,rfl⟩;have ho2:=ek 11;rw[<-eo2]at ho2;obtain⟨V2,eV2⟩:∃z,z=putAt V1 o2 2 [.int .i64 cn,.int .i64 cd]:=⟨_,rfl⟩;obtain⟨h1,h2,h3',h4'⟩:=lr hA a1 (i:=o2) (es:=2) (by omega) [.int .i64 cn,.int .i64 cd];rw[<-eV2]at h1 h2 h3' h4';have t9:=t8.more h1;have cl5:cD V2 (some ⟨o1,0,none⟩) 1 1 (Hd.cells ⟨ra1,n,rc1⟩):=⟨rfl,by show o1<_;omega,by rw[(a2.of_get (h4' o1 (by omega))).readG (Nat.le_refl 1)];rfl⟩;have lt10:=t.l4.apd.lt;have ew:=g3.next;have ex:=p5.next;have nw:h.next<=W.next:=by omega
 clear ew ex
 (refine zq ?_;repeat ((first|rw[e0]|rw[e1]|rw[m0]|rw[m1]);refine zq ?_))
 rw[<-eV,<-eo1,<-eV1]
 (refine zq ?_;repeat ((first|rw[e0]|rw[e1]|rw[m0]|rw[m1]);refine zq ?_))
 rw[<-eo2,<-eV2];refine nP hA vp dF (by omega) uL (v:=(⟨ra1,n,rc1⟩:Hd)) hl0 t9.ext t9.l4 cl5 (by omega) ei' (fun b6 c6 h8 p1 p2 p3 p4 f5=>?_);have t10:=t9.app4 p1 p3 p2;obtain⟨V3,eV3⟩:∃z,z=lowered V2 h8:=⟨_,rfl⟩;rw[<-eV3]at p1 p2 p3 p4 t10;have n6:=p1.next;have g6:bG V3 o2 2 [.int .i64 cn,.int .i64 cd]:=h2.of_get (p4 o2 (by omega) (fun ad had=>by have:=lt10 ad had;omega));have cl6:cD V3 (some ⟨o2,0,none⟩) 1 2 (fC ⟨cn,cd⟩):=⟨rfl,by show o2<_;omega,by rw[g6.readG (Nat.le_refl 2)];rfl⟩
 (refine zq ?_;repeat ((first|rw[e0]|rw[e1]|rw[m0]|rw[m1]);refine zq ?_))
 rw[<-eV3];refine nP hA K4 jQ (by omega) Cj (v:=(⟨cn,cd⟩:Fc)) hl0 t10.ext t10.l5 cl6 (by omega) ei' (fun b7 c7 h9 p5 p6 p7 _ f6=>?_);have t11:=t10.app5 p5 p7 p6;obtain⟨V4,eV4⟩:∃z,z=lowered V3 h9:=⟨_,rfl⟩;rw[<-eV4]at p5 p6 p7 t11;have e18:=ek 18;have a10f:∀ad,a10=some ad->h0.next<=ad.block/\ad.block<h.next:=fun ad had=>⟨(t.l4.fp ad had).2,lt10 ad had⟩
 (refine zq ?_;repeat ((first|rw[e0]|rw[e1]|rw[m0]|rw[m1]);refine zq ?_))
 refine⟨f5 _ _ (by omega) (fun ad had=>by have:=a10f ad had;omega),f5 _ _ (by omega) (fun ad had=>by have:=a10f ad had;omega),uO hA ?_⟩
 (refine zq ?_;repeat ((first|rw[e0]|rw[e1]|rw[m0]|rw[m1]);refine zq ?_))
 rw[<-eV4,aB hA (by omega) (by omega)];have eA:II bY m i++[(⟨xa,xn,xc⟩:Hd)]=II bY m i':=by rw[ei',FA (J:=J) (by omega),exa,exn,exc]
 have eB:If B m i++[(⟨bn,bd⟩:Fc)]=If B m i':=by rw[ei',G1 (J:=J) (by omega),ebf]
 have eC:A5 B i++[(⟨cn,cd⟩:Fc)]=A5 B i':=by rw[ei',G8 eI,ecf]
 rw[eA,eB,eC,<-Fv,<-Eu,<-ei']at t11;exact ih i' (I+1) V4 _ _ _ _ _ _ _ _ _ _ _ _ _ _ _ _ _ (by omega) (by omega) (by omega) t11
set_option maxHeartbeats 1000000 in
theorem IE{h0:af}(hl0:h0.low<=h0.next){m n ac bc:Nat}{aa ba:Option Addr}{bY:List Hd}{g:List (List Int)}{B:List Fc}(hM:kT g m n)(hg:jX nC 1 h0 aa m bY g){x y:Nat}(hx:x<m)(hy:y<m){X Y:Int}(eX:X=x)(eY:Y=y){o:Nat->Nat}{a9 a8 b8 b9 a10 b10:Option Addr}{c9 c8 d8 d9 c10 d10:Nat}{d0 d1 d3 d4 d5:LD}{bs cs:Nat->Nat}{n10 w:Nat}{ra:Nat->Option Addr}{R10:Nat->List Int}{Q:Exit->SS->Prop}
  (hQ:∀h,jn o h0 h d0 d1 ⟨1,a9,m,c9,(DR n bs cs m).flatMap Hd.cells⟩ d3 d4 d5 m bs (DC g n x y n) n10 w ra R10->
   Q (.exit 4) ⟨[(1,.int .i64 X),(2,.int .i64 Y),(3,.pointer (some ⟨0,0,some 0⟩)),(7,.bool true),(8,.pointer (some ⟨1,0,some 0⟩)),(9,.pointer (some ⟨2,0,some 0⟩)),(10,.pointer (some ⟨3,0,some 0⟩))],4,[(0,[.slice aa m ac,.slice ba m bc]),(1,[.slice a8 m c8,.slice b8 m d8]),(2,[.slice a9 m c9,.slice b9 m d9]),(3,[.slice a10 m c10,.slice b10 m d10])],h⟩) :
  ∀(d c:Nat) (C:Int) (h:af),n-c<=d->c<=n->C=c->
   jn o h0 h d0 d1 ⟨1,a9,m,c9,(DR n bs cs m).flatMap Hd.cells⟩ d3 d4 d5 m bs (DC g n x y c) n10 w ra R10->
   head 5 17 4 ⟨[(1,.int .i64 X),(2,.int .i64 Y),(3,.pointer (some ⟨0,0,some 0⟩)),(7,.bool true),(8,.pointer (some ⟨1,0,some 0⟩)),(9,.pointer (some ⟨2,0,some 0⟩)),(10,.pointer (some ⟨3,0,some 0⟩)),(14,.int .i64 C)],4,[(0,[.slice aa m ac,.slice ba m bc]),(1,[.slice a8 m c8,.slice b8 m d8]),(2,[.slice a9 m c9,.slice b9 m d9]),(3,[.slice a10 m c10,.slice b10 m d10])],h⟩ Q:=by
 intro d;have m4:=hM.m4;have n4:=hM.n4;have n1:=hM.n1;obtain⟨NI,eNI⟩:∃z:Int,z=n:=⟨_,rfl⟩;have e1:ofNat n=NI:=by rw[eNI];exact aF hA n
 have hln0:(gt g 0).length=n:=hM.row 0 (by omega) (by omega);have row0:=(hg.row 0 (by omega) (by omega)).len;rw[hln0]at row0
 induction d with
 |zero=>
  intro c C h hd hc eC t;obtain⟨ab,ao,rfl,_,w0⟩:=(hg.ext t.ext).hdAt (i:=0) (by omega) (by omega);rw[<-row0]at w0;have r0:rd h ab (place ao 0 1) 1 [.slice (gt bY 0).a n (gt bY 0).c]:=az hA w0;refine hA.roundR Try.func5 r5_ok (zc ?_)
  (refine zq ?_;repeat ((first|rw[e1]);refine zq ?_))
  refine br (C<NI) (by rw[au hA]) (fun q=>by omega) (fun _=>?_)<;>refine zc ?_;obtain rfl:c=n:=by omega
  exact hQ h t
 |succ d ih=>
 intro c C h hd hc eC t;obtain⟨ab,ao,rfl,hab,w0⟩:=(hg.ext t.ext).hdAt (i:=0) (by omega) (by omega);rw[<-row0]at w0;have r0:rd h ab (place ao 0 1) 1 [.slice (gt bY 0).a n (gt bY 0).c]:=az hA w0;by_cases cc:c<n
 rotate_left
 ·refine hA.roundR Try.func5 r5_ok (zc ?_)
  (refine zq ?_;repeat ((first|rw[e1]);refine zq ?_))
  refine br (C<NI) (by rw[au hA]) (fun q=>by omega) (fun _=>?_)<;>refine zc ?_;obtain rfl:c=n:=by omega
  exact hQ h t
 have X0:0<=X:=by omega
 have X1:X<m:=by omega
 have Y0:0<=Y:=by omega
 have Y1:Y<m:=by omega
 have C0:0<=C:=by omega
 have C1:C<n:=by omega
 obtain⟨H,eH⟩:∃z,z=bump h 19:=⟨_,rfl⟩;have xH:Ext h H:=by rw[eH];exact aq hA _ _
 have tH:=t.more xH;have R9h:Rows Hd.cells 1 H a9 m (DR n bs cs m):=⟨tH.l2.apd.cells,dF,by omega⟩;obtain⟨qb,qo,rfl,hqb,w1⟩:=R9h.at (i:=X) X0 X1;have w1:=w1 0 1 (by omega) (by omega);have eh:gt (DR n bs cs m) X=⟨some ⟨bs x,0,none⟩,n,cs x⟩:=by rw[eX];exact cO _ hx
 rw[eh]at w1;have r1:rd H qb (place qo X 1) 1 [.slice (some ⟨bs x,0,none⟩) n (cs x)]:=az hA w1;have own:=tH.r9.own x hx;have er:DC g n x y c x=vx g n x y c:=if_pos rfl;rw[er]at own;have la:(vx g n x y c).length=n:=aL _ _;have rowx:=bG.rows own df (by omega) (tH.r9.lt x hx);rw[la]at rowx;obtain⟨_,_,ee,_,w2⟩:=rowx.at (i:=C) C0 C1;cases ee;have w2:=w2 0 1 (by omega) (by omega);obtain⟨u,eu⟩:∃z,z=Ext.el g x c:=⟨_,rfl⟩;have eg:gt (vx g n x y c) C=u:=by rw[eC,eu];unfold vx;rw[cO _ cc,if_neg (Nat.lt_irrefl c)]
 rw[eg]at w2;have r2:rd H (bs x) (place 0 C 1) 1 [.int .i64 u]:=az hA w2;obtain⟨ab',ao',ea',_,w3⟩:=(hg.ext tH.ext).hdAt (i:=Y) Y0 Y1;cases ea';have hlnY:(gt g Y).length=n:=hM.row Y Y0 Y1;have rowY:=(hg.ext tH.ext).row Y Y0 Y1;have rowY2:=rowY.len;rw[hlnY]at rowY2;rw[<-rowY2]at w3 rowY;obtain⟨ya,eya⟩:∃z,z=(gt bY Y).a:=⟨_,rfl⟩;obtain⟨yc,eyc⟩:∃z,z=(gt bY Y).c:=⟨_,rfl⟩;rw[<-eya,<-eyc]at w3;rw[<-eya]at rowY;have r3:rd H ab (place ao Y 1) 1 [.slice ya n yc]:=az hA w3;obtain⟨yb,yo,rfl,_,w4⟩:=rowY.at (i:=C) C0 C1;have w4:=w4 0 1 (by omega) (by omega);obtain⟨v,ev⟩:∃z,z=Ext.el g y c:=⟨_,rfl⟩;have eg2:gt (gt g Y) C=v:=by rw[eC,eY,ev];rfl
 rw[eg2]at w4;have r4:rd H yb (place yo C 1) 1 [.int .i64 v]:=az hA w4;have bu:=hM.nine x c;have bv:=hM.nine y c;have bu:u.natAbs<=9:=by rw[eu];exact bu
 have bv:v.natAbs<=9:=by rw[ev];exact bv
 obtain⟨s,es⟩:∃z,z=u+v:=⟨_,rfl⟩;have m1:arith .add .i64 u v=s:=by rw[es];exact aB hA (by omega) (by omega)
 obtain⟨h2,wr1,wr2,wr3⟩:=bG.setRow own df (i:=c) (by omega) s;rw[es,eu,ev,Gj]at wr2;have wr1:wr H (bs x) (place 0 C 1) [.int .i64 s] h2:=pZ hA (by rw[eC,Nat.zero_add];exact wr1);have t2:=(tH.write9 hx wr3 wr2).r9_congr (R:=DC g n x y (c+1)) (fun r hr=>by
  unfold DC;by_cases q:r=x
  ·rw[if_pos q,if_pos q]
  ·rw[if_neg q,if_neg q,if_neg q])
 refine hA.roundR Try.func5 r5_ok (zc ?_)
 (refine zq ?_;repeat ((first|rw[e1]);refine zq ?_))
 refine br (C<NI) (by rw[au hA]) (fun _=>?_) (fun q=>by omega)<;>refine zc ?_;rw[<-eH]
 (refine zq ?_;repeat ((first|rw[e1]|rw[m1]);refine zq ?_))
 rw[aB hA (by omega) (by omega)];exact ih (c+1) (C+1) h2 (by omega) (by omega) (by omega) t2
set_option maxHeartbeats 2000000 in
theorem Gi(hF:∀h,F 16 [] h=some (.bool true,h))(hI:ph F){h:af}(hlow:h.low<=h.next){m ac k bc:Nat}{aa ba:Option Addr}{bY:List Hd}{g:List (List Int)}{B:List Fc}{x y:Int}(hg:vv nC 1 h aa m bY g)(hB:Rows fC 2 h ba k B)(hm:m<=maxLen)(hk:k<=maxLen)(hi:∀i:Int,0<=i->i<k->i64 (gt B i).n/\i64 (gt B i).d){Q:Value->af->Prop}
  (hQ:∀h',Ext h h'->Q (.bool true) h'):call 5 [.agg #[.slice aa m ac,.slice ba k bc],.int .i64 x,.int .i64 y] h Q:=by
 obtain⟨M,eM⟩:∃z:Int,z=m:=⟨_,rfl⟩;have e0:ofNat m=M:=by rw[eM];exact aF hA m
 refine hA.bodyR Try.func5 r5_ok (hA.alike _ _ _ rfl) hlow (zc ?_);refine zq ?_;refine hA.prim (hF h) ⟨_,rfl,?_⟩;refine zq ?_;refine wH hA hlow hg hB hi (fun e h1 he x1=>⟨e,rfl,?_⟩)
 (refine zq ?_;repeat ((first|rw[e0]);refine zq ?_))
 by_cases ez:e=0
 rotate_left
 ·rw[show cmp .neq e 0=true by rw[bL hA];simp[ez]]
  (refine zq ?_;repeat ((first|rw[e0]);refine zq ?_))
  exact hQ h1 x1
 subst ez;rw[show cmp .neq (0:Int) 0=false by rw[bL hA];rfl]
 (refine zq ?_;repeat ((first|rw[e0]);refine zq ?_))
 by_cases x0:x<0
 ·rw[show cmp .lss x 0=true by rw[au hA];simp[x0]]
  (refine zq ?_;repeat ((first|rw[e0]);refine zq ?_))
  exact hQ h1 x1
 rw[show cmp .lss x 0=false by rw[au hA];simp[x0]]
 (refine zq ?_;repeat ((first|rw[e0]);refine zq ?_))
 by_cases y0:y<0
 ·rw[show cmp .lss y 0=true by rw[au hA];simp[y0]]
  (refine zq ?_;repeat ((first|rw[e0]);refine zq ?_))
  exact hQ h1 x1
 rw[show cmp .lss y 0=false by rw[au hA];simp[y0]]
 (refine zq ?_;repeat ((first|rw[e0]);refine zq ?_))
 by_cases xm:x≥M
 ·rw[show cmp .geq x M=true by rw[bE hA];simp[xm]]
  (refine zq ?_;repeat ((first|rw[e0]);refine zq ?_))
  exact hQ h1 x1
 rw[show cmp .geq x M=false by rw[bE hA];simp[xm]]
 (refine zq ?_;repeat ((first|rw[e0]);refine zq ?_))
 by_cases ym:y≥M
 ·rw[show cmp .geq y M=true by rw[bE hA];simp[ym]]
  (refine zq ?_;repeat ((first|rw[e0]);refine zq ?_))
  exact hQ h1 x1
 rw[show cmp .geq y M=false by rw[bE hA];simp[ym]]
 (refine zq ?_;repeat ((first|rw[e0]);refine zq ?_))
 by_cases xy:x=y
 ·rw[show cmp .eql x y=true by rw[cJ hA];simp[xy]]
  (refine zq ?_;repeat ((first|rw[e0]);refine zq ?_))
  exact hQ h1 x1
 rw[show cmp .eql x y=false by rw[cJ hA];simp[xy]]
 (refine zq ?_;repeat ((first|rw[e0]);refine zq ?_))
 rw[show bnot true=false by rw[cI hA];rfl];obtain⟨gd,nm⟩:=he.good;obtain⟨m',n,hM⟩:=gd.mat nm;obtain rfl:m=m':=by have:=hg.len;have:=hM.len;omega
 have hgf:=hg.full (fun y y0 y1=>by rw[hM.row y y0 y1];exact hM.n1);have hkm:k=m:=by have:=gd.len;have:=hB.len;have:=hg.len;omega
 subst hkm;have ht:∀i:Int,0<=i->i<k->bQ (gt B i)/\(gt B i).d<=60:=fun i i0 i1=>gd.turn i i0 (by have:=hB.len;omega)
 obtain⟨xN,exN⟩:∃z:Nat,x=z:=⟨x.toNat,by omega⟩;obtain⟨yN,eyN⟩:∃z:Nat,y=z:=⟨y.toNat,by omega⟩;have hxN:xN<k:=by omega
 have hyN:yN<k:=by omega
 have neN:xN≠yN:=by omega
 have l1:=x1.lowOK hlow
 (refine zq ?_;repeat ((first|rw[e0]);refine zq ?_))
 refine HG hA l1 hM (hgf.ext x1) (hB.ext x1) (fun h2 o a8 c8 b8 d8 a9 c9 b9 d9 a10 c10 b10 d10 bs cs ra rc t=>?_) k 0 0 h1 (fun _=>0) none 0 none 0 none 0 none 0 none 0 none 0 (fun _=>0) (fun _=>0) (fun _=>none) (fun _=>0) (by omega) (by omega) rfl (jn.start h1 bY g B k n)
 (refine zq ?_;repeat ((first|rw[e0]);refine zq ?_))
 refine IE hA l1 (B:=B) hM (hgf.ext x1) hxN hyN exN eyN (fun h3 t3=>?_) n 0 0 h2 (by omega) (by omega) rfl (t.r9_congr (DI hM hxN));obtain⟨W,w⟩:=oP.ex (k:=k) (B:=B) ht;have wp:=w.pos;have w4:=w.few hM.m4;obtain⟨H,eH⟩:∃z,z=bump h3 17:=⟨_,rfl⟩;have xH:Ext h3 H:=by rw[eH];exact aq hA _ _
 have tH:=t3.more xH;have lH:=tH.ext.lowOK l1;have hBH:=hB.ext (x1.trans tH.ext);obtain⟨fb,fo,rfl,hfb,wr1⟩:=hBH.at (i:=x) (by omega) (by omega);obtain⟨_,_,ee,_,wr2⟩:=hBH.at (i:=y) (by omega) (by omega);cases ee;have wr1:=wr1 0 2 (by omega) (by omega);have wr2:=wr2 0 2 (by omega) (by omega);obtain⟨un,ud,eu⟩:∃a b,gt B x=⟨a,b⟩:=⟨_,_,rfl⟩;obtain⟨vn,vd,ev⟩:∃a b,gt B y=⟨a,b⟩:=⟨_,_,rfl⟩;rw[eu]at wr1;rw[ev]at wr2;have r1:rd H fb (place fo x 2) 2 [.int .i64 un,.int .i64 ud]:=az hA wr1;have r2:rd H fb (place fo y 2) 2 [.int .i64 vn,.int .i64 vd]:=az hA wr2;obtain⟨pu,epu⟩:∃z,z=prt B W xN:=⟨_,rfl⟩;obtain⟨pv,epv⟩:∃z,z=prt B W yN:=⟨_,rfl⟩;have qu:gS un ud (rq pu W)/\0<=pu/\pu<W:=by
  obtain⟨q1,q2,q3,_⟩:=w.part ht hxN;rw[<-exN,eu]at q1 q2 q3;rw[epu];unfold prt;rw[<-exN,eu];exact⟨q1,q2,q3⟩
 have qv:gS vn vd (rq pv W)/\0<=pv/\pv<W:=by
  obtain⟨q1,q2,q3,_⟩:=w.part ht hyN;rw[<-eyN,ev]at q1 q2 q3;rw[epv];unfold prt;rw[<-eyN,ev];exact⟨q1,q2,q3⟩
 obtain⟨qu,u0,u1⟩:=qu;obtain⟨qv,v0,v1⟩:=qv
 (refine zq ?_;repeat ((first|rw[e0]);refine zq ?_))
 rw[<-eH]
 (refine zq ?_;repeat ((first|rw[e0]);refine zq ?_))
 refine yj hA (aw hA H) qu.i64n qu.i64d qv.i64n qv.i64d (fun a b r q h4 x4=>⟨_,_,_,rfl,?_⟩);have eadd:rq pu W+rq pv W=rq (pu+pv) W:=qJ (by omega);obtain⟨q1,rfl⟩:=Cy qu qv (f:=(· + ·)) (by show fits (rq pu W+rq pv W);rw[eadd];exact sT (by omega) (by omega) (by omega)) q
 replace q1:gS a b (rq pu W+rq pv W):=q1
 rw[eadd]at q1;obtain⟨H2,eH2⟩:∃z,z=lowered H h4:=⟨_,rfl⟩;have y2:Ext H H2:=by rw[eH2];exact bP hA lH (.refl H) x4
 have elim:addN (next h3) 17=H.next:=by rw[cB hA,bV hA,eH,iY hA];rfl
 have nw:=wrote_no hA x4;have t4:=tH.more y2;obtain⟨H3,eH3⟩:∃z,z=bump H2 7:=⟨_,rfl⟩;have x3:Ext H2 H3:=by rw[eH3];exact aq hA _ _
 have t5:=t4.more x3;have l5:=t5.ext.lowOK l1
 (refine zq ?_;repeat ((first|rw[e0]);refine zq ?_))
 rw[<-eH2,<-eH3];refine HK hA (aw hA H3) q1 wp (by omega) (fun mn md h5 q5 x5=>⟨_,_,rfl,?_⟩);obtain⟨H4,eH4⟩:∃z,z=lowered H3 h5:=⟨_,rfl⟩;have y4:Ext H3 H4:=by rw[eH4];exact bP hA l5 (.refl H3) x5
 have t6:=t5.more y4;have nw5:=wrote_no hA x5;rcases t6.l3.apd with ⟨_,q,_⟩|⟨b9b,eb9,_⟩
 ·have q:k=0:=q
  have:=hM.m1;omega
 have eb9:b9=some ⟨b9b,0,none⟩:=eb9;subst eb9;obtain⟨h6,wr3,x6,_,t7⟩:=t6.writeB (x:=xN) (f:=⟨mn,md⟩) (by unfold A5;rw[aL];exact hxN);have wr3:wr H4 b9b (place 0 x 2) [.int .i64 mn,.int .i64 md] h6:=pZ hA (by rw[exN,Nat.zero_add];exact wr3)
 (refine zq ?_;repeat ((first|rw[e0]);refine zq ?_))
 rw[<-eH4]
 (refine zq ?_;repeat ((first|rw[e0]);refine zq ?_))
 have hi':∀i:Int,0<=i->i<k->i64 (gt B i).n/\i64 (gt B i).d:=hi;have eBk:A5 B k=B:=by have:=EP B;rw[hB.len]at this;exact this.symm
 have tf:=t7.first (n:=n) (hgf.ext x1);have tt:=t7.third;have ts:=t7.second (fun r hr=>by
  unfold DC;by_cases q:r=xN
  ·rw[if_pos q];exact aL _ _
  ·rw[if_neg q];exact hM.row _ (by omega) (by omega))
 rw[eBk]at tt ts;have l6:=x6.lowOK l1;have rv:=dy.rev g B k n;have ur:=dy.unrev g B k n;have ht8:∀i:Int,0<=i->i<k->bQ (gt (jU B k) i)/\(gt (jU B k) i).d<=60:=fun i i0 i1=>by
  obtain⟨j,rfl⟩:∃j:Nat,i=j:=⟨i.toNat,by omega⟩;rw[iu B (by omega)];exact ht _ (by omega) (by omega)
 have hi8:∀i:Int,0<=i->i<k->i64 (gt (jU B k) i).n/\i64 (gt (jU B k) i).d:=fun i i0 i1=>by
  obtain⟨j,rfl⟩:∃j:Nat,i=j:=⟨i.toNat,by omega⟩;rw[iu B (by omega)];exact hi _ (by omega) (by omega)
 have ck8:=hM.rev.chk (aL _ _) ht8;have ck10:=hM.col.chk hB.len ht;refine oO hA l6 (hg.ext (x1.trans x6)) (hB.ext (x1.trans x6)) hi (fun e' h' c' ne _=>absurd (he.uniq c').symm ne) (fun h7 n' r qa qc c' hM' x7 ir ap=>⟨_,_,_,_,rfl,?_⟩);obtain⟨_,rfl⟩:=hM.uniq hM';have rp:Rows nC 1 h7 qa r (vF g k n r):=⟨ap.cells,df,by omega⟩;have l7:=x7.lowOK l6
 (refine zq ?_;repeat ((first|rw[e0]);refine zq ?_))
 refine um hA l7 ck8 hM.rev ir (fun j hj=>rv.dv hj ur) (tf.1.ext x7) (tf.2.ext x7) hi8 (fun h8 ia8 ic8 rp8 x8=>⟨_,_,_,_,rfl,?_⟩);have l8:=x8.lowOK l7
 (refine zq ?_;repeat ((first|rw[e0]);refine zq ?_))
 refine um hA l8 ck10 hM.col ir (fun j hj=>IA hj) (tt.1.ext (x7.trans x8)) (tt.2.ext (x7.trans x8)) hi (fun h9 ia10 ic10 rp10 x9=>⟨_,_,_,_,rfl,?_⟩);have l9:=x9.lowOK l8;have x79:=(x7.trans x8).trans x9;have hgp:=(hgf.ext (x1.trans x6)).ext x79;have hBp:=(hB.ext (x1.trans x6)).ext x79
 (refine zq ?_;repeat ((first|rw[e0]);refine zq ?_))
 refine C4 hA hI l9 he hM hgp hBp hi (fun ea L hs h10 N1 la1 lc1 lh1 av xs1 L1=>⟨_,_,_,_,rfl,?_⟩);have x10:=xs1.trans L1.ext;have l10:=x10.lowOK l9;have av8:=av.to hM.n4 hM.m4 rv ur ht ht8
 (refine zq ?_;repeat ((first|rw[e0]);refine zq ?_))
 refine zA hA hI l10 ck8 hM.rev av8 (tf.1.ext (x79.trans x10)) (tf.2.ext (x79.trans x10)) hi8 (fun hs2 h11 N2 la2 lc2 lh2 xs2 L2=>⟨_,_,_,_,rfl,?_⟩);have x11:=xs2.trans L2.ext;have l11:=x11.lowOK l10;have z11:=x79.trans (x10.trans x11)
 (refine zq ?_;repeat ((first|rw[e0]);refine zq ?_))
 have cn:cmp .neq (0:Int) 0=false:=by rw[bL hA];rfl
 have ce:cmp .neq ea ea=false:=by rw[bL hA];simp
 have bt:bnot true=false:=by rw[cI hA];rfl
 rw[cn]
 (refine zq ?_;repeat ((first|rw[e0]|rw[cn]);refine zq ?_))
 have rlim:r<=1000:=by have:=ir.lm;have:=hM.m4;omega
 refine kA hA l11 (rp.ext (((x8.trans x9).trans x10).trans x11)) (rp8.ext ((x9.trans x10).trans x11)) rlim (fun h12 x12=>⟨_,rfl,?_⟩);have l12:=x12.lowOK l11
 (refine zq ?_;repeat ((first|rw[e0]|rw[cn]|rw[bt]);refine zq ?_))
 refine kA hA l12 (rp.ext ((((x8.trans x9).trans x10).trans x11).trans x12)) (rp10.ext ((x10.trans x11).trans x12)) rlim (fun h13 x13=>⟨_,rfl,?_⟩);have l13:=x13.lowOK l12
 (refine zq ?_;repeat ((first|rw[e0]|rw[cn]|rw[bt]|rw[ce]);refine zq ?_))
 refine wa hA l13 hM.n4 av L1 L2 ((x11.trans x12).trans x13) (x12.trans x13) (fun h14 x14=>⟨_,rfl,?_⟩);have l14:=x14.lowOK l13;have z14:=((z11.trans x12).trans x13).trans x14
 (refine zq ?_;repeat ((first|rw[e0]|rw[cn]|rw[bt]|rw[ce]);refine zq ?_))
 obtain⟨g9,eg9⟩:∃z,z=gn (DC g n xN yN n) k:=⟨_,rfl⟩;obtain⟨B9,eB9⟩:∃z,z=B.set xN ⟨mn,md⟩:=⟨_,rfl⟩;rw[<-eg9,<-eB9]at ts;have b9x:gt B9 (xN:Int)=⟨mn,md⟩:=by rw[eB9,rV B _ (by rw[hB.len];exact hxN),if_pos rfl]
 have b9o:∀i:Nat,i<k->i≠xN->gt B9 (i:Int)=gt B (i:Int):=fun i hi ne=>by rw[eB9,rV B _ (by rw[hB.len];exact hxN),if_neg ne]
 have hi9:∀i:Int,0<=i->i<k->i64 (gt B9 i).n/\i64 (gt B9 i).d:=fun i i0 i1=>by
  obtain⟨j,rfl⟩:∃j:Nat,i=j:=⟨i.toNat,by omega⟩;by_cases q:j=xN
  ·rw[q,b9x];exact⟨q5.i64n,q5.i64d⟩
  ·rw[b9o j (by omega) q];exact hi _ i0 i1
 have l9b:(gn (DC g n xN yN n) k).length=k:=aL _ _;refine wH hA l14 (ts.1.ext z14).weak (ts.2.ext z14) hi9 (fun e9 h15 he9 x15=>⟨_,rfl,?_⟩);have l15:=x15.lowOK l14;have zz:Ext h h15:=((x1.trans x6).trans z14).trans x15
 (refine zq ?_;repeat ((first|rw[e0]|rw[bt]);refine zq ?_))
 by_cases ez9:e9=0
 rotate_left
 ·rw[show cmp .neq e9 0=true by rw[bL hA];simp[ez9]]
  (refine zq ?_;repeat ((first|rw[e0]|rw[cn]|rw[bt]|rw[ce]);refine zq ?_))
  exact hQ h15 zz
 subst ez9;rw[cn];obtain⟨gd9,nm9⟩:=he9.good;obtain⟨m9,n9,hM9'⟩:=gd9.mat nm9;have em9:m9=k:=by rw[<-hM9'.len,eg9];exact aL _ _
 have eg90:gt g9 ((0:Nat):Int)=DC g n xN yN n 0:=by rw[eg9];exact cO _ (by omega)
 have en9:n9=n:=by
  have q1:=hM9'.row 0 (by omega) (by have:=hM.m1;omega);rw[<-q1];show(gt g9 ((0:Nat):Int)).length=n;rw[eg90];unfold DC;by_cases q:0=xN
  ·rw[if_pos q];exact aL _ _
  ·rw[if_neg q];exact hM.row _ (by omega) (by have:=hM.m1;omega)
 subst em9 en9;have ht9:∀i:Int,0<=i->i<m9->bQ (gt B9 i)/\(gt B9 i).d<=60:=fun i i0 i1=>gd9.turn i i0 (by rw[eB9,List.length_set,hB.len];exact i1)
 have both:=dy.both (g:=g) (g':=g9) (B:=B) (B':=B9) (n:=n9) hxN hyN neN (fun i hi' j hj=>by
  unfold Ext.el;rw[eg9,cO _ hi'];unfold DC;by_cases q:i=xN
  ·rw[if_pos q,if_pos q];unfold vx;rw[cO _ hj,if_pos hj];rfl
  ·rw[if_neg q,if_neg q]) b9o ⟨(pu+pv) / W,by
   have e1:vq (gt B (xN:Int))=rq pu W:=by rw[<-exN,eu];exact qu.rq
   have e2:vq (gt B (yN:Int))=rq pv W:=by rw[<-eyN,ev];exact qv.rq
   have e3:vq (gt B9 (xN:Int))=rq ((pu+pv) % W) W:=by rw[b9x];exact q5.rq
   rw[e1,e2,e3,eadd,lJ (l:=(pu+pv) / W) (show W≠0 by omega),qJ (show W≠0 by omega)]
   congr 1
   have:=Int.emod_add_mul_ediv (pu+pv) W;rw[Int.mul_comm W]at this;exact this.symm⟩
 (refine zq ?_;repeat ((first|rw[e0]|rw[cn]|rw[bt]|rw[ce]);refine zq ?_))
 refine um hA l15 he9 hM9' ir (fun j hj=>both.1.dv hj both.2) (ts.1.ext (z14.trans x15)) (ts.2.ext (z14.trans x15)) hi9 (fun h16 ia9 ic9 rp9 x16=>⟨_,_,_,_,rfl,?_⟩);have l16:=x16.lowOK l15
 (refine zq ?_;repeat ((first|rw[e0]|rw[cn]|rw[bt]|rw[ce]);refine zq ?_))
 have av9:=av.to hM.n4 hM.m4 both.1 both.2 ht ht9;refine zA hA hI l16 he9 hM9' av9 (ts.1.ext ((z14.trans x15).trans x16)) (ts.2.ext ((z14.trans x15).trans x16)) hi9 (fun hs3 h17 N3 la3 lc3 lh3 xs3 L3=>⟨_,_,_,_,rfl,?_⟩);have x17:=xs3.trans L3.ext;have l17:=x17.lowOK l16;have z17:=(x15.trans x16).trans x17;have c1:cmp .eql (0:Int) 0=true:=by rw[cJ hA];rfl
 have c2:cmp .eql ea ea=true:=by rw[cJ hA];simp
 (refine zq ?_;repeat ((first|rw[e0]|rw[cn]|rw[bt]|rw[ce]|rw[c1]|rw[c2]);refine zq ?_))
 refine kA hA l17 (rp.ext (((((((x8.trans x9).trans x10).trans x11).trans x12).trans x13).trans x14).trans z17)) (rp9.ext x17) rlim (fun h18 x18=>⟨_,rfl,?_⟩);have l18:=x18.lowOK l17
 (refine zq ?_;repeat ((first|rw[e0]|rw[cn]|rw[bt]|rw[ce]|rw[c1]|rw[c2]);refine zq ?_))
 refine wa hA l18 hM.n4 av L1 L3 ((((x11.trans x12).trans x13).trans x14).trans (z17.trans x18)) x18 (fun h19 x19=>⟨_,rfl,?_⟩)
 (refine zq ?_;repeat ((first|rw[e0]|rw[cn]|rw[bt]|rw[ce]|rw[c1]|rw[c2]);refine zq ?_))
 exact hQ h19 ((((x1.trans x6).trans z14).trans z17).trans (x18.trans x19))
