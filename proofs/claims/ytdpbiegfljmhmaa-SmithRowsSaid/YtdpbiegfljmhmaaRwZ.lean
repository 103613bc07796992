import Derived.Test.YtdpbiegfljmhmaaRwF
set_option linter.unusedSimpArgs false
set_option linter.unusedVariables false
namespace Go.Proofs.Ytdpbiegfljmhmaa
open Go.cY
set_option maxRecDepth 100000
structure LD where
 es:Nat
 a:Option Addr
 n:Nat
 c:Nat
 cells:List Value
structure Lo(o:Nat->Nat)(k:Nat)(h0 h:af)(d:LD):Prop where
 kA:lE h d.es d.a d.n d.c d.cells
 fp:∀ad,d.a=some ad->o ad.block=k/\h0.next<=ad.block
def nZ(o:Nat->Nat)(N k:Nat):Nat->Nat:=fun j=>if j<N then o j else k
theorem aO{o:Nat->Nat}{N k j:Nat}(h:j<N):nZ o N k j=o j:=if_pos h
theorem C7{o:Nat->Nat}{N k j:Nat}(h:N<=j):nZ o N k j=k:=if_neg om
structure pJ(o:Nat->Nat)(k:Nat)(h h':af):Prop where
 next:h.next<=h'.next
 bj:∀j,j<h.next->o j≠k->h'.m.get j=h.m.get j
theorem pJ.C8{o:Nat->Nat}{k:Nat}{h h':af}(e:Ext h h'):pJ o k h h':=⟨e.next,fun j hj _=>e.get j hj⟩
theorem Lo.bj{o o':Nat->Nat}{k q:Nat}{h0 h h':af}{d:LD}(t:Lo o k h0 h d)(s:pJ o q h h')(ne:k≠q)(ho:∀j,j<h.next->o' j=o j):Lo o' k h0 h' d:=
 ⟨lE.dj t.kA s.next (fun ad bQ hb=>s.bj _ hb (by rw[(t.fp ad bQ).1];exact ne)),fun ad bQ=>⟨by rw[ho _ (t.kA.lt ad bQ)];exact(t.fp ad bQ).1,(t.fp ad bQ).2⟩⟩
theorem Lo.ext{o o':Nat->Nat}{k:Nat}{h0 h h':af}{d:LD}(t:Lo o k h0 h d)(e:Ext h h')(ho:∀j,j<h.next->o' j=o j):Lo o' k h0 h' d:=
 ⟨t.kA.ext e,fun ad bQ=>⟨by rw[ho _ (t.kA.lt ad bQ)];exact(t.fp ad bQ).1,(t.fp ad bQ).2⟩⟩
theorem Lo.fresh{o:Nat->Nat}{k N:Nat}{h0 h':af}{es b n c:Nat}{cells:List Value}(p:lE h' es (some ⟨b,0,none⟩) n c cells)(hb:N<=b)(XE:h0.next<=N):Lo (nZ o N k) k h0 h' ⟨es,some ⟨b,0,none⟩,n,c,cells⟩:=
 ⟨p,fun ad bQ=>by cases bQ;exact⟨C7 hb,Nat.le_trans XE hb⟩⟩
theorem Lo.nil(o:Nat->Nat)(k:Nat)(h0 h:af)(es:Nat):Lo o k h0 h ⟨es,none,0,0,[]⟩:=⟨.nil _ _,fun ad bQ=>by cases bQ⟩
structure UT(o:Nat->Nat)(h0 h:af)(n:Nat)(bs:Nat->Nat)(R:Nat->List Int):Prop where
 own:∀r,r<n->bW h (bs r) 1 ((R r).flatMap nC)
 lt:∀r,r<n->bs r<h.next
 ge:∀r,r<n->h0.next<=bs r
 VJ:∀r,r<n->o (bs r)=6
 inj:∀r s,r<n->s<n->bs r=bs s->r=s
theorem UT.bj{o o':Nat->Nat}{q n:Nat}{h0 h h':af}{bs:Nat->Nat}{R:Nat->List Int}(t:UT o h0 h n bs R)(s:pJ o q h h')(ne:6≠q)(ho:∀j,j<h.next->o' j=o j):UT o' h0 h' n bs R:=
 ⟨fun r hr=>(t.own r hr).dj (s.bj _ (t.lt r hr) (by rw[t.VJ r hr];exact ne)),fun r hr=>Nat.lt_of_lt_of_le (t.lt r hr) s.next,t.ge,fun r hr=>by rw[ho _ (t.lt r hr)];exact t.VJ r hr,t.inj⟩
theorem UT.add{o:Nat->Nat}{n b:Nat}{h0 h h':af}{bs:Nat->Nat}{R:Nat->List Int}(t:UT o h0 h n bs R)(e:Ext h h')(XE:h0.next<=h.next)(p:bW h' b 1 ((R n).flatMap nC))(hb:h.next<=b)(uX:b<h'.next):UT (nZ o h.next 6) h0 h' (n+1) (fun r=>if r<n then bs r else b) R:=by
 have hn:∀r,r<n+1->¬r<n->r=n:=fun r h1 h2=>om
 refine⟨fun r hr=>?_,fun r hr=>?_,fun r hr=>?_,fun r hr=>?_,fun r s hr hs e'=>?_⟩
 ·by_cases c:r<n
  ·rw[if_pos c];exact(t.own r c).ext e (t.lt r c)
  ·rw[if_neg c,hn r hr c];exact p
 ·by_cases c:r<n
  ·rw[if_pos c];have:=t.lt r c;have:=e.next;omega
  ·rw[if_neg c];exact uX
 ·by_cases c:r<n
  ·rw[if_pos c];exact t.ge r c
  ·rw[if_neg c];omega
 ·by_cases c:r<n
  ·rw[if_pos c,aO (t.lt r c)];exact t.VJ r c
  ·rw[if_neg c,C7 hb]
 ·by_cases c:r<n
  ·rw[if_pos c]at e'
   have:=t.lt r c;by_cases c2:s<n
   ·rw[if_pos c2]at e';exact t.inj r s c c2 e'
   ·rw[if_neg c2]at e';omega
  ·rw[if_neg c]at e'
   by_cases c2:s<n
   ·rw[if_pos c2]at e';have:=t.lt s c2;omega
   ·omega
structure HL(o:Nat->Nat)(h0 h:af)(n w:Nat)(ra:Nat->Option Addr)(R:Nat->List Int):Prop where
 row:∀r,r<n->Rows nC 1 h (ra r) w (R r)
 fp:∀r,r<n->∀ad,ra r=some ad->o ad.block=7/\h0.next<=ad.block
theorem HL.bj{o o':Nat->Nat}{q n w:Nat}{h0 h h':af}{ra:Nat->Option Addr}{R:Nat->List Int}(t:HL o h0 h n w ra R)(s:pJ o q h h')(ne:7≠q)(ho:∀j,j<h.next->o' j=o j):HL o' h0 h' n w ra R:=
 ⟨fun r hr=>(t.row r hr).bj s.next (fun ad bQ=>s.bj _ ((t.row r hr).lt ad bQ) (by rw[(t.fp r hr ad bQ).1];exact ne)),fun r hr ad bQ=>⟨by rw[ho _ ((t.row r hr).lt ad bQ)];exact(t.fp r hr ad bQ).1,(t.fp r hr ad bQ).2⟩⟩
theorem HL.add{o:Nat->Nat}{n w:Nat}{h0 h h':af}{ra:Nat->Option Addr}{R:Nat->List Int}{a:Option Addr}(t:HL o h0 h n w ra R)(e:Ext h h')(XE:h0.next<=h.next)(p:Rows nC 1 h' a w (R n))(hf:iJ h.next a):HL (nZ o h.next 7) h0 h' (n+1) w (fun r=>if r<n then ra r else a) R:=by
 have hn:∀r,r<n+1->¬r<n->r=n:=fun r h1 h2=>om
 refine⟨fun r hr=>?_,fun r hr ad bQ=>?_⟩
 ·by_cases c:r<n
  ·rw[if_pos c];exact(t.row r c).ext e
  ·rw[if_neg c,hn r hr c];exact p
 ·by_cases c:r<n
  ·rw[if_pos c]at bQ;rw[aO ((t.row r c).lt ad bQ)];exact t.fp r c ad bQ
  ·rw[if_neg c]at bQ;rw[C7 (hf ad bQ)];exact⟨rfl,Nat.le_trans XE (hf ad bQ)⟩
structure lj(o:Nat->Nat)(h0 h:af)(d0 d1 d2 d3 d4 d5:LD)(n9:Nat)(bs:Nat->Nat)(R9:Nat->List Int)(pM w:Nat)(ra:Nat->Option Addr)(qY:Nat->List Int):Prop where
 ext:Ext h0 h
 l0:Lo o 0 h0 h d0
 l1:Lo o 1 h0 h d1
 l2:Lo o 2 h0 h d2
 l3:Lo o 3 h0 h d3
 l4:Lo o 4 h0 h d4
 l5:Lo o 5 h0 h d5
 r9:UT o h0 h n9 bs R9
 FT:HL o h0 h pM w ra qY
section
variable{o:Nat->Nat}{h0 h h':af}{d0 d1 d2 d3 d4 d5 d:LD}{n9 pM w:Nat}{bs:Nat->Nat}{R9 qY:Nat->List Int}{ra:Nat->Option Addr}
theorem lj.more(t:lj o h0 h d0 d1 d2 d3 d4 d5 n9 bs R9 pM w ra qY)(e:Ext h h'):lj o h0 h' d0 d1 d2 d3 d4 d5 n9 bs R9 pM w ra qY:=
 ⟨t.ext.trans e,t.l0.ext e (fun _ _=>rfl),t.l1.ext e (fun _ _=>rfl),t.l2.ext e (fun _ _=>rfl),t.l3.ext e (fun _ _=>rfl),t.l4.ext e (fun _ _=>rfl),t.l5.ext e (fun _ _=>rfl),t.r9.bj (q:=9) (.C8 e) (by decide) (fun _ _=>rfl),t.FT.bj (q:=9) (.C8 e) (by decide) (fun _ _=>rfl)⟩
theorem lj.aa6{b:Nat}(t:lj o h0 h d0 d1 d2 d3 d4 d5 n9 bs R9 pM w ra qY)(e:Ext h h')(p:bW h' b 1 ((R9 n9).flatMap nC))(hb:h.next<=b)(uX:b<h'.next):lj (nZ o h.next 6) h0 h' d0 d1 d2 d3 d4 d5 (n9+1) (fun r=>if r<n9 then bs r else b) R9 pM w ra qY:=
 ⟨t.ext.trans e,t.l0.ext e (fun _ q=>aO q),t.l1.ext e (fun _ q=>aO q),t.l2.ext e (fun _ q=>aO q),t.l3.ext e (fun _ q=>aO q),t.l4.ext e (fun _ q=>aO q),t.l5.ext e (fun _ q=>aO q),t.r9.add e t.ext.next p hb uX,t.FT.bj (q:=9) (.C8 e) (by decide) (fun _ q=>aO q)⟩
theorem lj.Yw{a:Option Addr}(t:lj o h0 h d0 d1 d2 d3 d4 d5 n9 bs R9 pM w ra qY)(e:Ext h h')(p:Rows nC 1 h' a w (qY pM))(hf:iJ h.next a):lj (nZ o h.next 7) h0 h' d0 d1 d2 d3 d4 d5 n9 bs R9 (pM+1) w (fun r=>if r<pM then ra r else a) qY:=
 ⟨t.ext.trans e,t.l0.ext e (fun _ q=>aO q),t.l1.ext e (fun _ q=>aO q),t.l2.ext e (fun _ q=>aO q),t.l3.ext e (fun _ q=>aO q),t.l4.ext e (fun _ q=>aO q),t.l5.ext e (fun _ q=>aO q),t.r9.bj (q:=9) (.C8 e) (by decide) (fun _ q=>aO q),t.FT.add e t.ext.next p hf⟩
theorem lj.aa7(t:lj o h0 h d0 d1 d2 d3 d4 d5 n9 bs R9 pM w ra qY)(s:pJ o 0 h h')(e:Ext h0 h')(p:Lo (nZ o h.next 0) 0 h0 h' d):lj (nZ o h.next 0) h0 h' d d1 d2 d3 d4 d5 n9 bs R9 pM w ra qY:=
 ⟨e,p,t.l1.bj s (by decide) (fun _ q=>aO q),t.l2.bj s (by decide) (fun _ q=>aO q),t.l3.bj s (by decide) (fun _ q=>aO q),t.l4.bj s (by decide) (fun _ q=>aO q),t.l5.bj s (by decide) (fun _ q=>aO q),t.r9.bj s (by decide) (fun _ q=>aO q),t.FT.bj s (by decide) (fun _ q=>aO q)⟩
theorem lj.aa8(t:lj o h0 h d0 d1 d2 d3 d4 d5 n9 bs R9 pM w ra qY)(s:pJ o 1 h h')(e:Ext h0 h')(p:Lo (nZ o h.next 1) 1 h0 h' d):lj (nZ o h.next 1) h0 h' d0 d d2 d3 d4 d5 n9 bs R9 pM w ra qY:=
 ⟨e,t.l0.bj s (by decide) (fun _ q=>aO q),p,t.l2.bj s (by decide) (fun _ q=>aO q),t.l3.bj s (by decide) (fun _ q=>aO q),t.l4.bj s (by decide) (fun _ q=>aO q),t.l5.bj s (by decide) (fun _ q=>aO q),t.r9.bj s (by decide) (fun _ q=>aO q),t.FT.bj s (by decide) (fun _ q=>aO q)⟩
theorem lj.aa9(t:lj o h0 h d0 d1 d2 d3 d4 d5 n9 bs R9 pM w ra qY)(s:pJ o 2 h h')(e:Ext h0 h')(p:Lo (nZ o h.next 2) 2 h0 h' d):lj (nZ o h.next 2) h0 h' d0 d1 d d3 d4 d5 n9 bs R9 pM w ra qY:=
 ⟨e,t.l0.bj s (by decide) (fun _ q=>aO q),t.l1.bj s (by decide) (fun _ q=>aO q),p,t.l3.bj s (by decide) (fun _ q=>aO q),t.l4.bj s (by decide) (fun _ q=>aO q),t.l5.bj s (by decide) (fun _ q=>aO q),t.r9.bj s (by decide) (fun _ q=>aO q),t.FT.bj s (by decide) (fun _ q=>aO q)⟩
theorem lj.aba(t:lj o h0 h d0 d1 d2 d3 d4 d5 n9 bs R9 pM w ra qY)(s:pJ o 3 h h')(e:Ext h0 h')(p:Lo (nZ o h.next 3) 3 h0 h' d):lj (nZ o h.next 3) h0 h' d0 d1 d2 d d4 d5 n9 bs R9 pM w ra qY:=
 ⟨e,t.l0.bj s (by decide) (fun _ q=>aO q),t.l1.bj s (by decide) (fun _ q=>aO q),t.l2.bj s (by decide) (fun _ q=>aO q),p,t.l4.bj s (by decide) (fun _ q=>aO q),t.l5.bj s (by decide) (fun _ q=>aO q),t.r9.bj s (by decide) (fun _ q=>aO q),t.FT.bj s (by decide) (fun _ q=>aO q)⟩
theorem lj.abb(t:lj o h0 h d0 d1 d2 d3 d4 d5 n9 bs R9 pM w ra qY)(s:pJ o 4 h h')(e:Ext h0 h')(p:Lo (nZ o h.next 4) 4 h0 h' d):lj (nZ o h.next 4) h0 h' d0 d1 d2 d3 d d5 n9 bs R9 pM w ra qY:=
 ⟨e,t.l0.bj s (by decide) (fun _ q=>aO q),t.l1.bj s (by decide) (fun _ q=>aO q),t.l2.bj s (by decide) (fun _ q=>aO q),t.l3.bj s (by decide) (fun _ q=>aO q),p,t.l5.bj s (by decide) (fun _ q=>aO q),t.r9.bj s (by decide) (fun _ q=>aO q),t.FT.bj s (by decide) (fun _ q=>aO q)⟩
theorem lj.abc(t:lj o h0 h d0 d1 d2 d3 d4 d5 n9 bs R9 pM w ra qY)(s:pJ o 5 h h')(e:Ext h0 h')(p:Lo (nZ o h.next 5) 5 h0 h' d):lj (nZ o h.next 5) h0 h' d0 d1 d2 d3 d4 d n9 bs R9 pM w ra qY:=
 ⟨e,t.l0.bj s (by decide) (fun _ q=>aO q),t.l1.bj s (by decide) (fun _ q=>aO q),t.l2.bj s (by decide) (fun _ q=>aO q),t.l3.bj s (by decide) (fun _ q=>aO q),t.l4.bj s (by decide) (fun _ q=>aO q),p,t.r9.bj s (by decide) (fun _ q=>aO q),t.FT.bj s (by decide) (fun _ q=>aO q)⟩
end
def KW(n:Nat)(bs cs:Nat->Nat)(i:Nat):List Hd:=iK (fun r=>(⟨some ⟨bs r,0,none⟩,n,cs r⟩:Hd)) i
def C9(n:Nat)(ra:Nat->Option Addr)(rc:Nat->Nat)(i:Nat):List Hd:=iK (fun r=>(⟨ra r,n,rc r⟩:Hd)) i
def Rq(cT:List Hd)(m i:Nat):List Hd:=iK (fun r=>gt cT ((m:Int)-1-r)) i
def Rr(B:List Fc)(m i:Nat):List Fc:=iK (fun r=>gt B ((m:Int)-1-r)) i
def HM(B:List Fc)(i:Nat):List Fc:=iK (fun r=>gt B (r:Int)) i
theorem OU{cT:List Hd}{m i:Nat}{J:Int}(e:J=(m:Int)-1-i):Rq cT m (i+1)=Rq cT m i++[gt cT J]:=by unfold Rq;rw[iM,e]
theorem OV{B:List Fc}{m i:Nat}{J:Int}(e:J=(m:Int)-1-i):Rr B m (i+1)=Rr B m i++[gt B J]:=by unfold Rr;rw[iM,e]
theorem OW{B:List Fc}{i:Nat}{I:Int}(e:I=i):HM B (i+1)=HM B i++[gt B I]:=by unfold HM;rw[iM,e]
theorem OX{n i b c:Nat}{bs cs:Nat->Nat}:KW n (fun r=>if r<i then bs r else b) (fun r=>if r<i then cs r else c) (i+1)=KW n bs cs i++[⟨some ⟨b,0,none⟩,n,c⟩]:=by
 unfold KW;rw[iM];simp only[];rw[if_neg (Nat.lt_irrefl i),if_neg (Nat.lt_irrefl i)]
 congr 1
 exact dX (fun r hr=>by rw[if_pos hr,if_pos hr])
theorem KX{n i c:Nat}{a:Option Addr}{ra:Nat->Option Addr}{rc:Nat->Nat}:C9 n (fun r=>if r<i then ra r else a) (fun r=>if r<i then rc r else c) (i+1)=C9 n ra rc i++[⟨a,n,c⟩]:=by
 unfold C9;rw[iM];simp only[];rw[if_neg (Nat.lt_irrefl i),if_neg (Nat.lt_irrefl i)]
 congr 1
 exact dX (fun r hr=>by rw[if_pos hr,if_pos hr])
def KY(g:List (List Int))(n:Nat)(r:Nat):List Int:=mD (gt g (r:Int)) n
def UU(g:List (List Int))(r:Nat):List Int:=gt g (r:Int)
theorem pJ.Fy{o:Nat->Nat}{k b:Nat}{h h':af}(w:jf h h' b)(e:o b=k):pJ o k h h':=⟨by rw[w.next];exact Nat.le_refl _,fun j hj ne=>w.get j (fun q=>ne (by rw[q];exact e))⟩
section
variable{o:Nat->Nat}{h0 h h':af}{d0 d1 d2 d3 d4 d5 d:LD}{n9 pM w:Nat}{bs:Nat->Nat}{R9 qY:Nat->List Int}{ra:Nat->Option Addr}
theorem lj.UW{x:Nat}{l:List Int}(t:lj o h0 h d0 d1 d2 d3 d4 d5 n9 bs R9 pM w ra qY)(hx:x<n9)(wr:jf h h' (bs x))(p:bW h' (bs x) 1 (l.flatMap nC)):lj o h0 h' d0 d1 d2 d3 d4 d5 n9 bs (fun r=>if r=x then l else R9 r) pM w ra qY:=by
 have s:pJ o 6 h h':=.Fy wr (t.r9.VJ x hx);refine⟨wr.ext t.ext (t.r9.ge x hx),t.l0.bj s (by decide) (fun _ _=>rfl),t.l1.bj s (by decide) (fun _ _=>rfl),t.l2.bj s (by decide) (fun _ _=>rfl),t.l3.bj s (by decide) (fun _ _=>rfl),t.l4.bj s (by decide) (fun _ _=>rfl),t.l5.bj s (by decide) (fun _ _=>rfl),⟨fun r hr=>?_,fun r hr=>by rw[wr.next];exact t.r9.lt r hr,t.r9.ge,t.r9.VJ,t.r9.inj⟩,t.FT.bj s (by decide) (fun _ _=>rfl)⟩;by_cases c:r=x
 ·subst c;rw[if_pos rfl];exact p
 ·rw[if_neg c];exact wr.own (t.r9.own r hr) (fun q=>c (t.r9.inj r x hr hx q))
theorem lj.Fz{R:Nat->List Int}(t:lj o h0 h d0 d1 d2 d3 d4 d5 n9 bs R9 pM w ra qY)(e:∀r,r<n9->R r=R9 r):lj o h0 h d0 d1 d2 d3 d4 d5 n9 bs R pM w ra qY:=
 ⟨t.ext,t.l0,t.l1,t.l2,t.l3,t.l4,t.l5,⟨fun r hr=>by rw[e r hr];exact t.r9.own r hr,t.r9.lt,t.r9.ge,t.r9.VJ,t.r9.inj⟩,t.FT⟩
theorem lj.UX{b m c x:Nat}{l:List Fc}{f:Fc}(t:lj o h0 h d0 d1 d2 ⟨2,some ⟨b,0,none⟩,m,c,l.flatMap fC⟩ d4 d5 n9 bs R9 pM w ra qY)(hx:x<l.length):∃h',h.write b (x*2) (fC f)=some h'/\Ext h0 h'/\jf h h' b/\lj o h0 h' d0 d1 d2 ⟨2,some ⟨b,0,none⟩,m,c,(l.set x f).flatMap fC⟩ d4 d5 n9 bs R9 pM w ra qY:=by
 have f3:=t.l3.fp _ rfl;rcases t.l3.kA with ⟨q,_⟩|⟨b',e,ec,hb,hl,ho⟩
 ·cases q
 cases e;obtain⟨h',w1,w2,w3⟩:=bW.setRow ho mq hx f;have s:pJ o 3 h h':=.Fy w3 f3.1;have e0:=w3.ext t.ext f3.2;refine⟨h',w1,e0,w3,e0,t.l0.bj s (by decide) (fun _ _=>rfl),t.l1.bj s (by decide) (fun _ _=>rfl),t.l2.bj s (by decide) (fun _ _=>rfl),⟨.inr ⟨b,rfl,ec,by rw[w3.next];exact hb,?_,w2⟩,t.l3.fp⟩,t.l4.bj s (by decide) (fun _ _=>rfl),t.l5.bj s (by decide) (fun _ _=>rfl),t.r9.bj s (by decide) (fun _ _=>rfl),t.FT.bj s (by decide) (fun _ _=>rfl)⟩;show((l.set x f).flatMap fC).length=m*2;rw[dG mq,List.length_set,<-dG mq];exact hl
end
theorem lj.first{o:Nat->Nat}{h0 h:af}{m n c8 d8:Nat}{a8 b8 aa:Option Addr}{cT:List Hd}{g:List (List Int)}{B:List Fc}{d2 d3 d4 d5:LD}{n9 pM w:Nat}{bs:Nat->Nat}{R9 qY:Nat->List Int}{ra:Nat->Option Addr}(hg:mP nC 1 h0 aa m cT g)(t:lj o h0 h ⟨1,a8,m,c8,(Rq cT m m).flatMap Hd.cells⟩ ⟨2,b8,m,d8,(Rr B m m).flatMap fC⟩ d2 d3 d4 d5 n9 bs R9 pM w ra qY):mP nC 1 h a8 m (mD cT m) (mD g m)/\Rows fC 2 h b8 m (mD B m):=by
 refine⟨⟨⟨t.l0.kA.cells,fM,om⟩,aW _ _,fun y y0 y1=>?_⟩,⟨t.l1.kA.cells,mq,om⟩⟩;obtain⟨k,rfl⟩:∃k:Nat,y=k:=⟨y.toNat,om⟩;rw[jL cT om,jL g om];exact(hg.row _ om om).ext t.ext
theorem lj.Yx{o:Nat->Nat}{h0 h:af}{m n HN d10:Nat}{FA F5:Option Addr}{g:List (List Int)}{B:List Fc}{d0 d1 d2 d3:LD}{n9:Nat}{bs rc:Nat->Nat}{R9:Nat->List Int}{ra:Nat->Option Addr}(t:lj o h0 h d0 d1 d2 d3 ⟨1,FA,m,HN,(C9 n ra rc m).flatMap Hd.cells⟩ ⟨2,F5,m,d10,(HM B m).flatMap fC⟩ n9 bs R9 m n ra (KY g n)):mP nC 1 h FA m (C9 n ra rc m) (vy g m n)/\Rows fC 2 h F5 m (HM B m):=by
 refine⟨⟨⟨t.l4.kA.cells,fM,om⟩,aW _ _,fun y y0 y1=>?_⟩,⟨t.l5.kA.cells,mq,om⟩⟩;obtain⟨k,rfl⟩:∃k:Nat,y=k:=⟨y.toNat,om⟩;have e1:gt (C9 n ra rc m) (k:Int)=⟨ra k,n,rc k⟩:=dC _ om;have e2:gt (vy g m n) (k:Int)=KY g n k:=dC _ om;rw[e1,e2];exact t.FT.row k om
theorem lj.second{o:Nat->Nat}{h0 h:af}{m n c9 d9:Nat}{a9 b9:Option Addr}{l:List Fc}{d0 d1 d4 d5:LD}{pM w:Nat}{bs cs:Nat->Nat}{R9 qY:Nat->List Int}{ra:Nat->Option Addr}(t:lj o h0 h d0 d1 ⟨1,a9,m,c9,(KW n bs cs m).flatMap Hd.cells⟩ ⟨2,b9,m,d9,l.flatMap fC⟩ d4 d5 m bs R9 pM w ra qY)(hw:∀r,r<m->(R9 r).length=n):mP nC 1 h a9 m (KW n bs cs m) (iK R9 m)/\Rows fC 2 h b9 m l:=by
 refine⟨⟨⟨t.l2.kA.cells,fM,om⟩,aW _ _,fun y y0 y1=>?_⟩,⟨t.l3.kA.cells,mq,om⟩⟩;obtain⟨k,rfl⟩:∃k:Nat,y=k:=⟨y.toNat,om⟩;have e1:gt (KW n bs cs m) (k:Int)=⟨some ⟨bs k,0,none⟩,n,cs k⟩:=dC _ om;have e2:gt (iK R9 m) (k:Int)=R9 k:=dC _ om;rw[e1,e2];have:=bW.rows (enc:=nC) (es:=1) (t.r9.own k om) dQ om (t.r9.lt k om);rw[hw k om]at this;exact this
def AO(g:List (List Int))(n x y c:Nat):List Int:=iK (fun j=>if j<c then Ext.el g x j+Ext.el g y j else Ext.el g x j) n
theorem OY{g:List (List Int)}{n x y c:Nat}:(AO g n x y c).set c (Ext.el g x c+Ext.el g y c)=AO g n x y (c+1):=by
 unfold AO;rw[tW];refine dX (fun j hj=>?_);by_cases e:j=c
 ·subst e;rw[if_pos rfl,if_pos om]
 ·rw[if_neg e]
  by_cases q:j<c
  ·rw[if_pos q,if_pos om]
  ·rw[if_neg q,if_neg om]
def KZ(g:List (List Int))(n x y c:Nat)(r:Nat):List Int:=if r=x then AO g n x y c else gt g (r:Int)
theorem K0{g:List (List Int)}{m n x y:Nat}(hM:nR g m n)(hx:x<m):∀r,r<m->KZ g n x y 0 r=UU g r:=fun r hr=>by
 unfold KZ UU;by_cases c:r=x
 ·subst c
  rw[if_pos rfl];have e:(gt g (r:Int)).length=n:=hM.row _ om om;have e2:=OZ (gt g (r:Int));rw[e]at e2;rw[e2];unfold AO;exact dX (fun j hj=>by rw[if_neg om];rfl)
 ·rw[if_neg c]
theorem lj.start(h:af)(cT:List Hd)(g:List (List Int))(B:List Fc)(m n:Nat):lj (fun _=>0) h h ⟨1,none,0,0,(Rq cT m 0).flatMap Hd.cells⟩ ⟨2,none,0,0,(Rr B m 0).flatMap fC⟩ ⟨1,none,0,0,(KW n (fun _=>0) (fun _=>0) 0).flatMap Hd.cells⟩ ⟨2,none,0,0,(HM B 0).flatMap fC⟩ ⟨1,none,0,0,(C9 n (fun _=>none) (fun _=>0) 0).flatMap Hd.cells⟩ ⟨2,none,0,0,(HM B 0).flatMap fC⟩ 0 (fun _=>0) (UU g) 0 n (fun _=>none) (KY g n):=
 ⟨.refl h,Lo.nil _ _ _ _ _,Lo.nil _ _ _ _ _,Lo.nil _ _ _ _ _,Lo.nil _ _ _ _ _,Lo.nil _ _ _ _ _,Lo.nil _ _ _ _ _,⟨fun r hr=>om,fun r hr=>om,fun r hr=>om,fun r hr=>om,fun r s hr=>om⟩,⟨fun r hr=>om,fun r hr=>om⟩⟩
theorem wi(l:List Fc){k:Nat}(v:Fc)(hk:k<l.length)(j:Nat):gt (l.set k v) (j:Int)=if j=k then v else gt l (j:Int):=by
 unfold gt;rw[List.getD_eq_getElem?_getD,List.getD_eq_getElem?_getD,show((j:Int)).toNat=j from rfl,List.getElem?_set];by_cases c:k=j
 ·subst c;simp[hk]
 ·rw[if_neg c,if_neg (fun q=>c q.symm)]
variable{F:bk}{call head arith cmp a0 gM b0 c0 f0 g0 k0 ofNat n0 place o0 nz p0 rd wr q0 next s0 t0 z0 t1 z1 n2 z2 i3 j3 part app m3 putAt fresh aw aG wrote bT lt ne o3 pt z3 yn e4 i4 j4 o4 u4 z4:_}(hA:AP F ⟨call,head,arith,cmp,a0,gM,b0,c0,f0,g0,k0,ofNat,n0,place,o0,nz,p0,rd,wr,q0,next,s0,t0,z0,t1,z1,n2,z2,i3,j3,part,app,m3,putAt,fresh,aw,aG,wrote,bT,lt,ne,o3,pt,z3,yn,e4,i4,j4,o4,u4,z4⟩)
include hA
theorem Rs{t e es:Nat}(hT:fx Try.prog t e es){α:Type}{enc:α->List Value}(he:∀x,(enc x).length=es)(GA:0<es)(fD:∀x,(enc x).all aE=true){X:af}{a a2:Option Addr}{n c:Nat}{l:List α}{v:α}(hp:lE X es a n c (l.flatMap enc))(hs:Cells X a2 1 es (enc v))(hn:n<=100000){C:Option Addr->Nat->Nat->af->Prop}
  (hC:∀b' h',lE (aw X h') es (some ⟨b',0,none⟩) (n+1) (az es (n+1)) ((l++[v]).flatMap enc)->X.next<=b'->X.next<=(aw X h').next->(∀j,j<X.next->(∀ad,a=some ad->ad.block≠j)->(aw X h').m.get j=X.m.get j)->(∀h0,Ext h0 X->h0.low<=h0.next->iJ h0.next a->Ext h0 (aw X h'))->(a=none->wrote X h'=false)->C (some ⟨b',0,none⟩) (n+1) (az es (n+1)) h') :
  app [t,t] [.slice a n c,.slice a2 1 1] (fresh X) C:=by
 simp only[dH hA]at hC;rw[iq hA,sz hA];have uw:lE X.cP es a n c (l.flatMap enc):=lE.dj hp (Nat.le_refl _) (fun ad bQ _=>rfl);have gm:Cells X.cP a2 1 es (enc v):=hs.ext (Ext.cP X);obtain⟨a',c',h',h1,h2,h3,h4,h5,h6⟩:=qE hT hT.vR (c2:=1) uw gm (mc fD l) (fD v) om om;rcases h2 with ⟨_,w,_⟩|⟨b',rfl,rfl,w1,w2,w3⟩
 ·omega
 refine⟨_,n+1,_,h',h1,hC b' h' (.inr ⟨b',rfl,rfl,w1,by rw[dG he];simp only[List.length_append,List.length_cons,List.length_nil];have:=hp.cells.length;rw[dG he]at this;rw[Nat.eq_of_mul_eq_mul_right GA this],?_⟩) (h5 _ rfl) h4 (fun j j0 j2=>h6 j j0 j2) (fun h0 x l0 x2=>?_) (fun q=>qS hA (by rw[iq hA];exact(h3 _ (Ext.refl _) (by rw[q];exact iJ.none _)).1))⟩
 ·have w4:bW (h'.aw X.low) b' es (l.flatMap enc++enc v):=w3
  simpa using w4
 ·exact Ext.vk (h3 h0 (x.trans (Ext.cP _)) x2).1 x l0
def abd(pt:Bool->Bool->Bool->Nat->Nat->Nat->Prop)(w:Bool)(v:Value)(a:Option Addr):Prop:=∀b dI,b<dI->(∀ad,a=some ad->b≠ad.block)->pt false w false b dI (AS (some v))
theorem rR{t e es:Nat}(hT:fx Try.prog t e es){α:Type}{enc:α->List Value}(he:∀x,(enc x).length=es)(GA:0<es)(fD:∀x,(enc x).all aE=true){o:Nat->Nat}{k:Nat}{h0 X:af}(fF:h0.low<=h0.next)(x0:Ext h0 X){a a2:Option Addr}{n n1 c:Nat}{l:List α}{v:α}(hp:Lo o k h0 X ⟨es,a,n,c,l.flatMap enc⟩)(hs:Cells X a2 1 es (enc v))(hn:n<=100000)(YY:n1=n+1){C:Option Addr->Nat->Nat->af->Prop}
  (hC:∀b' c' h',pJ o k X (aw X h')->Lo (nZ o X.next k) k h0 (aw X h') ⟨es,some ⟨b',0,none⟩,n1,c',(l++[v]).flatMap enc⟩->Ext h0 (aw X h')->(∀j,j<X.next->(∀ad,a=some ad->ad.block≠j)->(aw X h').m.get j=X.m.get j)->abd pt (wrote X h') (.slice a n c) a->C (some ⟨b',0,none⟩) n1 c' h') :
  app [t,t] [.slice a n c,.slice a2 1 1] (fresh X) C:=by
 subst YY;refine Rs hA hT he GA fD (v:=v) hp.kA hs hn (fun b' h' p1 p2 p3 p4 p5 p6=>hC b' _ h' ⟨p3,fun j hj ne=>p4 j hj (fun ad bQ q=>ne (by rw[<-q];exact(hp.fp ad bQ).1))⟩ (Lo.fresh p1 p2 x0.next) (p5 h0 x0 fF (fun ad bQ=>(hp.fp ad bQ).2)) p4 (fun b dI hb ff=>?_));cases a with
 |none=>rw[CL hA];exact⟨rfl,.inl (p6 rfl),.inr hb⟩
 |some ad=>rw[CL hA];exact⟨rfl,.inr (ff ad rfl),.inr hb⟩
theorem Rt{h0:af}(fF:h0.low<=h0.next){m n ac:Nat}{aa:Option Addr}{cT:List Hd}{g:List (List Int)}(hM:nR g m n)(hg:mP nC 1 h0 aa m cT g){i:Nat}(ci:i<m){I:Int}(eI:I=i){x y:Int}{v8 v9 v10:Value}{k0b:Value}{p1 p2 p3 p4 p5 p6 p7:List Value}{Q:Exit->SS->Prop}
  (hQ:∀h a c,lE h 1 a n c ((KY g n i).flatMap nC)->iJ h0.next a->Ext h0 h->
   Q (.exit 2) ⟨[(1,.int .i64 x),(2,.int .i64 y),(3,.pointer (some ⟨0,0,some 0⟩)),(7,.bool true),(8,v8),(9,v9),(10,v10),(11,.int .i64 I),(12,.slice a n c)],60,[(2,p1),(2,p2),(1,p3),(1,p4),(0,[.slice aa m ac,k0b]),(1,p5),(2,p6),(3,p7)],h⟩) :
  ∀(d j:Nat) (J:Int) (h:af) (a:Option Addr) (c:Nat),n-j<=d->j<=n->J=(n:Int)-1-j->lE h 1 a j c ((iK (fun q=>gt (gt g (i:Int)) ((n:Int)-1-q)) j).flatMap nC)->iJ h0.next a->Ext h0 h->
   head 5 12 60 ⟨[(1,.int .i64 x),(2,.int .i64 y),(3,.pointer (some ⟨0,0,some 0⟩)),(7,.bool true),(8,v8),(9,v9),(10,v10),(11,.int .i64 I),(12,.slice a j c),(13,.int .i64 J)],60,[(2,p1),(2,p2),(1,p3),(1,p4),(0,[.slice aa m ac,k0b]),(1,p5),(2,p6),(3,p7)],h⟩ Q:=by
 intro d;have m4:=hM.m4;have n4:=hM.n4
 induction d with
 |zero=>
  intro j J h a c hd hj eJ t fo e;refine hA.ar Try.func5 su (zc ?_);refine zq ?_;refine br (J≥0) (by rw[bR hA]) (fun q=>om) (fun _=>?_)<;>refine zc ?_;obtain rfl:j=n:=om
  exact hQ h a c t fo e
 |succ d ih=>
 intro j J h a c hd hj eJ t fo e;by_cases cj:j<n
 rotate_left
 ·refine hA.ar Try.func5 su (zc ?_)
  refine zq ?_;refine br (J≥0) (by rw[bR hA]) (fun q=>om) (fun _=>?_)<;>refine zc ?_;obtain rfl:j=n:=om
  exact hQ h a c t fo e
 obtain⟨ab,ao,rfl,MD,w1⟩:=(hg.ext e).mj (i:=I) om om;have row:=(hg.ext e).row I om om;have KD:(gt g I).length=n:=hM.row I om om;have tM:=row.len;rw[KD]at tM;rw[<-tM]at w1 row;obtain⟨xa,UM⟩:∃z,z=(gt cT I).a:=⟨_,rfl⟩;obtain⟨xc,VF⟩:∃z,z=(gt cT I).c:=⟨_,rfl⟩;rw[<-UM,<-VF]at w1;rw[<-UM]at row;have r1:rd h ab (place ao I 1) 1 [.slice xa n xc]:=aC hA w1;obtain⟨xb,xo,rfl,hxb,w2⟩:=row.at (i:=J) om om;have w2:=w2 0 1 om om;obtain⟨v,ev⟩:∃z,z=gt (gt g I) J:=⟨_,rfl⟩;rw[<-ev]at w2;have r2:rd h xb (place xo J 1) 1 [.int .i64 v]:=aC hA w2;have es:iK (fun q=>gt (gt g (i:Int)) ((n:Int)-1-q)) (j+1)=iK (fun q=>gt (gt g (i:Int)) ((n:Int)-1-q)) j++[v]:=by
  rw[iM,ev,eI,eJ]
 obtain⟨L,eL⟩:∃L,L=iK (fun q=>gt (gt g (i:Int)) ((n:Int)-1-q)) j:=⟨_,rfl⟩;rw[<-eL]at t es;obtain⟨j1,ej1⟩:∃z,z=j+1:=⟨_,rfl⟩;refine hA.ar Try.func5 su (zc ?_);refine zq ?_;refine br (J≥0) (by rw[bR hA]) (fun _=>?_) (fun q=>om)<;>refine zc ?_;refine zq ?_;refine Iq hA Pq dQ om zl (v:=v) t om (fun a' c' h2 t2 x2=>?_);obtain⟨x3,f3⟩:=x2 h0 e fo;rw[<-ej1]at t2 ⊢;rw[<-es,<-ej1]at t2;refine zq ?_;rw[bO hA om om];exact ih j1 (J-1) h2 a' c' om om om t2 f3 x3
set_option maxHeartbeats 2000000 in
theorem Ru{h0:af}(fF:h0.low<=h0.next){m n ac bc:Nat}{aa ba:Option Addr}{cT:List Hd}{g:List (List Int)}{B:List Fc}(hM:nR g m n)(hg:mP nC 1 h0 aa m cT g)(hB:Rows fC 2 h0 ba m B){x y:Int}{Q:Exit->SS->Prop}
  (hQ:∀h o a8 c8 b8 d8 a9 c9 b9 d9 FA HN F5 d10 bs cs ra rc,lj o h0 h ⟨1,a8,m,c8,(Rq cT m m).flatMap Hd.cells⟩ ⟨2,b8,m,d8,(Rr B m m).flatMap fC⟩ ⟨1,a9,m,c9,(KW n bs cs m).flatMap Hd.cells⟩ ⟨2,b9,m,d9,(HM B m).flatMap fC⟩ ⟨1,FA,m,HN,(C9 n ra rc m).flatMap Hd.cells⟩ ⟨2,F5,m,d10,(HM B m).flatMap fC⟩ m bs (UU g) m n ra (KY g n)->
   Q (.exit 0) ⟨[(1,.int .i64 x),(2,.int .i64 y),(3,.pointer (some ⟨0,0,some 0⟩)),(7,.bool true),(8,.pointer (some ⟨1,0,some 0⟩)),(9,.pointer (some ⟨2,0,some 0⟩)),(10,.pointer (some ⟨3,0,some 0⟩))],4,[(0,[.slice aa m ac,.slice ba m bc]),(1,[.slice a8 m c8,.slice b8 m d8]),(2,[.slice a9 m c9,.slice b9 m d9]),(3,[.slice FA m HN,.slice F5 m d10])],h⟩) :
  ∀(d i:Nat) (I:Int) (h:af) o a8 c8 b8 d8 a9 c9 b9 d9 FA HN F5 d10 bs cs ra rc,m-i<=d->i<=m->I=i->
   lj o h0 h ⟨1,a8,i,c8,(Rq cT m i).flatMap Hd.cells⟩ ⟨2,b8,i,d8,(Rr B m i).flatMap fC⟩ ⟨1,a9,i,c9,(KW n bs cs i).flatMap Hd.cells⟩ ⟨2,b9,i,d9,(HM B i).flatMap fC⟩ ⟨1,FA,i,HN,(C9 n ra rc i).flatMap Hd.cells⟩ ⟨2,F5,i,d10,(HM B i).flatMap fC⟩ i bs (UU g) i n ra (KY g n)->
   head 5 6 4 ⟨[(1,.int .i64 x),(2,.int .i64 y),(3,.pointer (some ⟨0,0,some 0⟩)),(7,.bool true),(8,.pointer (some ⟨1,0,some 0⟩)),(9,.pointer (some ⟨2,0,some 0⟩)),(10,.pointer (some ⟨3,0,some 0⟩)),(11,.int .i64 I)],4,[(0,[.slice aa m ac,.slice ba m bc]),(1,[.slice a8 i c8,.slice b8 i d8]),(2,[.slice a9 i c9,.slice b9 i d9]),(3,[.slice FA i HN,.slice F5 i d10])],h⟩ Q:=by
 intro d;have m4:=hM.m4;have n4:=hM.n4;have n1:=hM.n1;obtain⟨M,eM⟩:∃z:Int,z=m:=⟨_,rfl⟩;have e0:ofNat m=M:=by rw[eM];exact aL hA m
 induction d with
 |zero=>
  intro i I h o a8 c8 b8 d8 a9 c9 b9 d9 FA HN F5 d10 bs cs ra rc hd hi eI t;refine hA.ar Try.func5 su (zc ?_)
  (refine zq ?_;repeat ((first|rw[e0]);refine zq ?_))
  refine br (I<M) (by rw[aA hA]) (fun q=>om) (fun _=>?_)<;>refine zc ?_;obtain rfl:i=m:=om
  exact hQ h o a8 c8 b8 d8 a9 c9 b9 d9 FA HN F5 d10 bs cs ra rc t
 |succ d ih=>
 intro i I h o a8 c8 b8 d8 a9 c9 b9 d9 FA HN F5 d10 bs cs ra rc hd hi eI t;by_cases ci:i<m
 rotate_left
 ·refine hA.ar Try.func5 su (zc ?_)
  (refine zq ?_;repeat ((first|rw[e0]);refine zq ?_))
  refine br (I<M) (by rw[aA hA]) (fun q=>om) (fun _=>?_)<;>refine zc ?_;obtain rfl:i=m:=om
  exact hQ h o a8 c8 b8 d8 a9 c9 b9 d9 FA HN F5 d10 bs cs ra rc t
 have I0:0<=I:=om
 have I1:I<m:=om
 have aq:=t.ext.aD fF;obtain⟨J,eJ⟩:∃z,z=M-1-I:=⟨_,rfl⟩;obtain⟨M1,eM1⟩:∃z,z=M-1:=⟨_,rfl⟩;have m0:arith .sub .i64 M 1=M1:=by rw[eM1];exact bO hA om om
 have m1:arith .sub .i64 M1 I=J:=by rw[eJ,eM1];exact bO hA om om
 obtain⟨X,eX⟩:∃z,z=aG h 32:=⟨_,rfl⟩;have xX:Ext h X:=by rw[eX];exact au hA _ _
 have tX:=t.more xX;obtain⟨ab,ao,rfl,MD,w1⟩:=(hg.ext tX.ext).mj (i:=J) om om;obtain⟨xa,UM⟩:∃z,z=(gt cT J).a:=⟨_,rfl⟩;obtain⟨xn,exn⟩:∃z,z=(gt cT J).n:=⟨_,rfl⟩;obtain⟨xc,VF⟩:∃z,z=(gt cT J).c:=⟨_,rfl⟩;rw[<-UM,<-exn,<-VF]at w1;have r1:rd X ab (place ao J 1) 1 [.slice xa xn xc]:=aC hA w1;have nX:X.next=h.next+32:=by rw[eX,kI hA];rfl
 have ei:∀k,bT (next h) k=h.next+k:=fun k=>by rw[cZ hA,cQ hA]
 obtain⟨i1,Iy⟩:∃z,z=bT (next h) 12:=⟨_,rfl⟩;have hi1:=ei 12;rw[<-Iy]at hi1;obtain⟨X1,eX1⟩:∃z,z=putAt X i1 1 [.slice xa xn xc]:=⟨_,rfl⟩;obtain⟨q1,q2,q3,q4⟩:=oZ hA xX (i:=i1) (es:=1) om [.slice xa xn xc];rw[<-eX1]at q1 q2 q3 q4;obtain⟨fb,fo,rfl,hfb,w2⟩:=(hB.ext (t.ext.trans q1)).at (i:=J) om om;obtain⟨bn,bd,ebf⟩:∃x y,gt B J=⟨x,y⟩:=⟨_,_,rfl⟩;have w2:=w2 0 2 om om;rw[ebf]at w2;have r2:rd X1 fb (place fo J 2) 2 [.int .i64 bn,.int .i64 bd]:=aC hA w2;obtain⟨i2,ei2⟩:∃z,z=bT (next h) 25:=⟨_,rfl⟩;have Cn:=ei 25;rw[<-ei2]at Cn;obtain⟨X2,XQ⟩:∃z,z=putAt X1 i2 2 [.int .i64 bn,.int .i64 bd]:=⟨_,rfl⟩;obtain⟨s1,s2,s3,s4⟩:=oZ hA q1 (i:=i2) (es:=2) om [.int .i64 bn,.int .i64 bd];rw[<-XQ]at s1 s2 s3 s4;have t2:=t.more s1;refine hA.ar Try.func5 su (zc ?_)
 (refine zq ?_;repeat ((first|rw[e0]);refine zq ?_))
 refine br (I<M) (by rw[aA hA]) (fun _=>?_) (fun q=>om)<;>refine zc ?_
 (refine zq ?_;repeat ((first|rw[e0]|rw[m0]|rw[m1]);refine zq ?_))
 rw[<-eX]
 (refine zq ?_;repeat ((first|rw[e0]|rw[m0]|rw[m1]);refine zq ?_))
 rw[<-Iy,<-eX1]
 (refine zq ?_;repeat ((first|rw[e0]|rw[m0]|rw[m1]);refine zq ?_))
 rw[<-ei2,<-XQ];obtain⟨i',Pw⟩:∃z,z=i+1:=⟨_,rfl⟩;have lt8:=t.l0.kA.lt;have cl1:Cells X2 (some ⟨i1,0,none⟩) 1 1 (Hd.cells ⟨xa,xn,xc⟩):=⟨rfl,by show i1<_;omega,by rw[(q2.dj (s4 i1 om)).aM (Nat.le_refl 1)];rfl⟩;refine rR hA zf fM om zM (v:=(⟨xa,xn,xc⟩:Hd)) fF t2.ext t2.l0 cl1 om Pw (fun b1 c1 h3 p1 p2 p3 p4 f1=>?_);have t3:=t2.aa7 p1 p3 p2;obtain⟨Z1,eZ1⟩:∃z,z=aw X2 h3:=⟨_,rfl⟩;rw[<-eZ1]at p1 p2 p3 p4 t3;have g3:bW Z1 i2 2 [.int .i64 bn,.int .i64 bd]:=s2.dj (p4 i2 om (fun ad bQ=>by have:=lt8 ad bQ;omega))
 (refine zq ?_;repeat ((first|rw[e0]|rw[m0]|rw[m1]);refine zq ?_))
 rw[<-eZ1];have n3:=p1.next;have cl2:Cells Z1 (some ⟨i2,0,none⟩) 1 2 (fC ⟨bn,bd⟩):=⟨rfl,by show i2<_;omega,by rw[g3.aM (Nat.le_refl 2)];rfl⟩;refine rR hA ZJ mq om Jj (v:=(⟨bn,bd⟩:Fc)) fF t3.ext t3.l1 cl2 om Pw (fun b2 c2 h4 p5 p6 p7 _ f2=>?_);have t4:=t3.aa8 p5 p7 p6;obtain⟨Z2,eZ2⟩:∃z,z=aw Z1 h4:=⟨_,rfl⟩;rw[<-eZ2]at p5 p6 p7 t4;have nz2:=p5.next;have e32:=ei 32;have lf:fb<h0.next:=hB.lt _ rfl;have la:ab<h0.next:=hg.hd.lt _ rfl;have hh0:=t.ext.next
 (refine zq ?_;repeat ((first|rw[e0]|rw[m0]|rw[m1]);refine zq ?_))
 refine⟨f1 _ _ om (fun ad bQ=>by have:=(t.l0.fp ad bQ).2;omega),f1 _ _ om (fun ad bQ=>by have:=lt8 ad bQ;omega),zG hA ?_⟩;obtain⟨Y,eY⟩:∃z,z=aG Z2 24:=⟨_,rfl⟩;have xY:Ext Z2 Y:=by rw[eY];exact au hA _ _
 have nY:Y.next=Z2.next+24:=by rw[eY,kI hA];rfl
 have tY:=t4.more xY;have ej:∀k,bT (next Z2) k=Z2.next+k:=fun k=>by rw[cZ hA,cQ hA]
 obtain⟨u1,Zr⟩:∃z,z=bT (next Z2) 2:=⟨_,rfl⟩;have SY:=ej 2;rw[<-Zr]at SY;obtain⟨Y1,eY1⟩:∃z,z=putAt Y u1 1 []:=⟨_,rfl⟩;obtain⟨v1,v2,v3,v4⟩:=oZ hA xY (i:=u1) (es:=1) om [];rw[<-eY1]at v1 v2 v3 v4;obtain⟨ab',ao',Yy,_,w3⟩:=(hg.ext (t4.ext.trans v1)).mj (i:=I) I0 I1;cases Yy;have KD:(gt g I).length=n:=hM.row I om om;have row:=hg.row I I0 I1;have tM:=row.len;rw[KD]at tM;obtain⟨ya,VK⟩:∃z,z=(gt cT I).a:=⟨_,rfl⟩;obtain⟨yc,ZK⟩:∃z,z=(gt cT I).c:=⟨_,rfl⟩;rw[<-tM,<-VK,<-ZK]at w3;rw[<-tM,<-VK]at row;have r3:rd Y1 ab (place ao I 1) 1 [.slice ya n yc]:=aC hA w3;obtain⟨fb',fo',ef',_,w4⟩:=(hB.ext (t4.ext.trans v1)).at (i:=I) om om;cases ef';obtain⟨cn,cd,ecf⟩:∃x y,gt B I=⟨x,y⟩:=⟨_,_,rfl⟩;have w4:=w4 0 2 om om;rw[ecf]at w4;have r4:rd Y1 fb (place fo I 2) 2 [.int .i64 cn,.int .i64 cd]:=aC hA w4;obtain⟨u2,XW⟩:∃z,z=bT (next Z2) 15:=⟨_,rfl⟩;have JH:=ej 15;rw[<-XW]at JH;obtain⟨Y2,eY2⟩:∃z,z=putAt Y1 u2 2 [.int .i64 cn,.int .i64 cd]:=⟨_,rfl⟩;obtain⟨w5,w6,w7,w8⟩:=oZ hA v1 (i:=u2) (es:=2) om [.int .i64 cn,.int .i64 cd];rw[<-eY2]at w5 w6 w7 w8;have tY2:=t4.more w5
 (refine zq ?_;repeat ((first|rw[e0]|rw[m0]|rw[m1]);refine zq ?_))
 rw[<-eZ2,<-eY,<-Zr,<-eY1]
 (refine zq ?_;repeat ((first|rw[e0]|rw[m0]|rw[m1]);refine zq ?_))
 rw[<-XW,<-eY2];have lZ2:=t4.ext.aD fF;refine FB hA Pq zl lZ2 w5 (i:=u1) om om (v2.dj (w8 u1 om)) (row.ext (t4.ext.trans w5)) om (fun b3 c3 h5 k1 k2 k3 k4 k5 k6 k7 k8=>?_);obtain⟨Z3,eZ3⟩:∃z,z=aw Y2 h5:=⟨_,rfl⟩;rw[<-eZ3]at k1 k2 k5 k6 k7;have k8:=k8 om;obtain⟨u3,ZC⟩:∃z,z=bT (next Z2) 17:=⟨_,rfl⟩;have hu3:=ej 17;rw[<-ZC]at hu3;obtain⟨Z4,eZ4⟩:∃z,z=putAt Z3 u3 1 [.slice (some ⟨b3,0,none⟩) n c3]:=⟨_,rfl⟩;obtain⟨y1,y2,y3,y4⟩:=oZ hA k7 (i:=u3) (es:=1) om [.slice (some ⟨b3,0,none⟩) n c3];rw[<-eZ4]at y1 y2 y3 y4;have nb3:b3≠u3:=by rcases k4 with q|q<;>omega
 have t5:=t4.aa6 y1 (b:=b3) (by rw[show UU g i=gt g I by unfold UU;rw[eI]];exact k1.dj (y4 b3 nb3)) k3 om;have cl3:Cells Z4 (some ⟨u3,0,none⟩) 1 1 (Hd.cells ⟨some ⟨b3,0,none⟩,n,c3⟩):=⟨rfl,by show u3<_;omega,by rw[y2.aM (Nat.le_refl 1)];rfl⟩;have lt9:=t.l2.kA.lt
 (refine zq ?_;repeat ((first|rw[e0]|rw[m0]|rw[m1]);refine zq ?_))
 rw[<-eZ3,<-ZC,<-eZ4];refine rR hA zf fM om zM (v:=(⟨some ⟨b3,0,none⟩,n,c3⟩:Hd)) fF t5.ext t5.l2 cl3 om Pw (fun b4 c4 h6 p1 p2 p3 p4 f3=>?_);have t6:=t5.aa9 p1 p3 p2;obtain⟨Z5,eZ5⟩:∃z,z=aw Z4 h6:=⟨_,rfl⟩;rw[<-eZ5]at p1 p2 p3 p4 t6;have n5:=p1.next;have g4:bW Z5 u2 2 [.int .i64 cn,.int .i64 cd]:=((w6.dj (k6 u2 om om)).dj (y4 u2 om)).dj (p4 u2 om (fun ad bQ=>by have:=lt9 ad bQ;omega));have cl4:Cells Z5 (some ⟨u2,0,none⟩) 1 2 (fC ⟨cn,cd⟩):=⟨rfl,by show u2<_;omega,by rw[g4.aM (Nat.le_refl 2)];rfl⟩
 (refine zq ?_;repeat ((first|rw[e0]|rw[m0]|rw[m1]);refine zq ?_))
 rw[<-eZ5];refine rR hA ZJ mq om Jj (v:=(⟨cn,cd⟩:Fc)) fF t6.ext t6.l3 cl4 om Pw (fun b5 c5 h7 p5 p6 p7 _ f4=>?_);have t7:=t6.aba p5 p7 p6;obtain⟨Z6,eZ6⟩:∃z,z=aw Z5 h7:=⟨_,rfl⟩;rw[<-eZ6]at p5 p6 p7 t7;have e24:=ej 24;have a9f:∀ad,a9=some ad->h0.next<=ad.block/\ad.block<h.next:=fun ad bQ=>⟨(t.l2.fp ad bQ).2,lt9 ad bQ⟩
 (refine zq ?_;repeat ((first|rw[e0]|rw[m0]|rw[m1]);refine zq ?_))
 refine⟨NM hA om om,NG hA om,f3 _ _ om (fun ad bQ=>by have:=a9f ad bQ;omega),NM hA om om,NG hA om,f3 _ _ om (fun ad bQ=>by have:=a9f ad bQ;omega),zG hA ?_⟩;obtain⟨NI,VH⟩:∃z:Int,z=n:=⟨_,rfl⟩;have e1:ofNat n=NI:=by rw[VH];exact aL hA n
 obtain⟨ab',ao',Yy,_,w9⟩:=(hg.ext t7.ext).mj (i:=I) I0 I1;cases Yy;rw[<-tM,<-VK,<-ZK]at w9;have r5:rd Z6 ab (place ao I 1) 1 [.slice ya n yc]:=aC hA w9;have m2:arith .sub .i64 NI 1=NI-1:=bO hA om om
 (refine zq ?_;repeat ((first|rw[e0]|rw[e1]|rw[m0]|rw[m1]);refine zq ?_))
 rw[<-eZ6]
 (refine zq ?_;repeat ((first|rw[e0]|rw[e1]|rw[m0]|rw[m1]);refine zq ?_))
 rw[m2];refine Rt hA (t7.ext.aD fF) hM (hg.ext t7.ext) ci eI (fun W Yz ZL g1 g2 g3=>?_) n 0 (NI-1) Z6 none 0 om om om (.nil _ _) (.none _) (.refl _);have t8:=t7.Yw g3 (a:=Yz) ⟨g1.cells,dQ,om⟩ g2;obtain⟨V,eV⟩:∃z,z=aG W 18:=⟨_,rfl⟩;have xV:Ext W V:=by rw[eV];exact au hA _ _
 have nV:V.next=W.next+18:=by rw[eV,kI hA];rfl
 have ek:∀k,bT (next W) k=W.next+k:=fun k=>by rw[cZ hA,cQ hA]
 obtain⟨o1,eo1⟩:∃z,z=bT (next W) 3:=⟨_,rfl⟩;have ho1:=ek 3;rw[<-eo1]at ho1;obtain⟨V1,eV1⟩:∃z,z=putAt V o1 1 [.slice Yz n ZL]:=⟨_,rfl⟩;obtain⟨a1,a2,a3,a4⟩:=oZ hA xV (i:=o1) (es:=1) om [.slice Yz n ZL];rw[<-eV1]at a1 a2 a3 a4;obtain⟨fb',fo',ef',_,ZM⟩:=(hB.ext (t8.ext.trans a1)).at (i:=I) I0 I1;cases ef';have ZM:=ZM 0 2 om om;rw[ecf]at ZM;have r6:rd V1 fb (place fo I 2) 2 [.int .i64 cn,.int .i64 cd]:=aC hA ZM;obtain⟨o2,eo2⟩:∃z,z=bT (next W) 11:=⟨_,rfl⟩;have My:=ek 11;rw[<-eo2]at My;obtain⟨V2,eV2⟩:∃z,z=putAt V1 o2 2 [.int .i64 cn,.int .i64 cd]:=⟨_,rfl⟩;obtain⟨h1,h2,h3',h4'⟩:=oZ hA a1 (i:=o2) (es:=2) om [.int .i64 cn,.int .i64 cd];rw[<-eV2]at h1 h2 h3' h4';have t9:=t8.more h1;have cl5:Cells V2 (some ⟨o1,0,none⟩) 1 1 (Hd.cells ⟨Yz,n,ZL⟩):=⟨rfl,by show o1<_;omega,by rw[(a2.dj (h4' o1 om)).aM (Nat.le_refl 1)];rfl⟩;have YA:=t.l4.kA.lt;have ew:=g3.next;have ex:=p5.next;have nw:h.next<=W.next:=om
 clear ew ex
 (refine zq ?_;repeat ((first|rw[e0]|rw[e1]|rw[m0]|rw[m1]);refine zq ?_))
 rw[<-eV,<-eo1,<-eV1]
 (refine zq ?_;repeat ((first|rw[e0]|rw[e1]|rw[m0]|rw[m1]);refine zq ?_))
 rw[<-eo2,<-eV2];refine rR hA zf fM om zM (v:=(⟨Yz,n,ZL⟩:Hd)) fF t9.ext t9.l4 cl5 om Pw (fun b6 c6 h8 p1 p2 p3 p4 f5=>?_);have t10:=t9.abb p1 p3 p2;obtain⟨V3,eV3⟩:∃z,z=aw V2 h8:=⟨_,rfl⟩;rw[<-eV3]at p1 p2 p3 p4 t10;have n6:=p1.next;have g6:bW V3 o2 2 [.int .i64 cn,.int .i64 cd]:=h2.dj (p4 o2 om (fun ad bQ=>by have:=YA ad bQ;omega));have cl6:Cells V3 (some ⟨o2,0,none⟩) 1 2 (fC ⟨cn,cd⟩):=⟨rfl,by show o2<_;omega,by rw[g6.aM (Nat.le_refl 2)];rfl⟩
 (refine zq ?_;repeat ((first|rw[e0]|rw[e1]|rw[m0]|rw[m1]);refine zq ?_))
 rw[<-eV3];refine rR hA ZJ mq om Jj (v:=(⟨cn,cd⟩:Fc)) fF t10.ext t10.l5 cl6 om Pw (fun b7 c7 h9 p5 p6 p7 _ f6=>?_);have t11:=t10.abc p5 p7 p6;obtain⟨V4,eV4⟩:∃z,z=aw V3 h9:=⟨_,rfl⟩;rw[<-eV4]at p5 p6 p7 t11;have e18:=ek 18;have YB:∀ad,FA=some ad->h0.next<=ad.block/\ad.block<h.next:=fun ad bQ=>⟨(t.l4.fp ad bQ).2,YA ad bQ⟩
 (refine zq ?_;repeat ((first|rw[e0]|rw[e1]|rw[m0]|rw[m1]);refine zq ?_))
 refine⟨f5 _ _ om (fun ad bQ=>by have:=YB ad bQ;omega),f5 _ _ om (fun ad bQ=>by have:=YB ad bQ;omega),zG hA ?_⟩
 (refine zq ?_;repeat ((first|rw[e0]|rw[e1]|rw[m0]|rw[m1]);refine zq ?_))
 rw[<-eV4,aH hA om om];have eA:Rq cT m i++[(⟨xa,xn,xc⟩:Hd)]=Rq cT m i':=by rw[Pw,OU (J:=J) om,UM,exn,VF]
 have eB:Rr B m i++[(⟨bn,bd⟩:Fc)]=Rr B m i':=by rw[Pw,OV (J:=J) om,ebf]
 have eC:HM B i++[(⟨cn,cd⟩:Fc)]=HM B i':=by rw[Pw,OW eI,ecf]
 rw[eA,eB,eC,<-OX,<-KX,<-Pw]at t11;exact ih i' (I+1) V4 _ _ _ _ _ _ _ _ _ _ _ _ _ _ _ _ _ om om om t11
set_option maxHeartbeats 1000000 in
theorem Rv{h0:af}(fF:h0.low<=h0.next){m n ac bc:Nat}{aa ba:Option Addr}{cT:List Hd}{g:List (List Int)}{B:List Fc}(hM:nR g m n)(hg:mP nC 1 h0 aa m cT g){x y:Nat}(hx:x<m)(hy:y<m){X Y:Int}(eX:X=x)(eY:Y=y){o:Nat->Nat}{a9 a8 b8 b9 FA F5:Option Addr}{c9 c8 d8 d9 HN d10:Nat}{d0 d1 d3 d4 d5:LD}{bs cs:Nat->Nat}{pM w:Nat}{ra:Nat->Option Addr}{qY:Nat->List Int}{Q:Exit->SS->Prop}
  (hQ:∀h,lj o h0 h d0 d1 ⟨1,a9,m,c9,(KW n bs cs m).flatMap Hd.cells⟩ d3 d4 d5 m bs (KZ g n x y n) pM w ra qY->
   Q (.exit 4) ⟨[(1,.int .i64 X),(2,.int .i64 Y),(3,.pointer (some ⟨0,0,some 0⟩)),(7,.bool true),(8,.pointer (some ⟨1,0,some 0⟩)),(9,.pointer (some ⟨2,0,some 0⟩)),(10,.pointer (some ⟨3,0,some 0⟩))],4,[(0,[.slice aa m ac,.slice ba m bc]),(1,[.slice a8 m c8,.slice b8 m d8]),(2,[.slice a9 m c9,.slice b9 m d9]),(3,[.slice FA m HN,.slice F5 m d10])],h⟩) :
  ∀(d c:Nat) (C:Int) (h:af),n-c<=d->c<=n->C=c->
   lj o h0 h d0 d1 ⟨1,a9,m,c9,(KW n bs cs m).flatMap Hd.cells⟩ d3 d4 d5 m bs (KZ g n x y c) pM w ra qY->
   head 5 17 4 ⟨[(1,.int .i64 X),(2,.int .i64 Y),(3,.pointer (some ⟨0,0,some 0⟩)),(7,.bool true),(8,.pointer (some ⟨1,0,some 0⟩)),(9,.pointer (some ⟨2,0,some 0⟩)),(10,.pointer (some ⟨3,0,some 0⟩)),(14,.int .i64 C)],4,[(0,[.slice aa m ac,.slice ba m bc]),(1,[.slice a8 m c8,.slice b8 m d8]),(2,[.slice a9 m c9,.slice b9 m d9]),(3,[.slice FA m HN,.slice F5 m d10])],h⟩ Q:=by
 intro d;have m4:=hM.m4;have n4:=hM.n4;have n1:=hM.n1;obtain⟨NI,VH⟩:∃z:Int,z=n:=⟨_,rfl⟩;have e1:ofNat n=NI:=by rw[VH];exact aL hA n
 have abe:(gt g 0).length=n:=hM.row 0 om om;have AN:=(hg.row 0 om om).len;rw[abe]at AN
 induction d with
 |zero=>
  intro c C h hd hc eC t;obtain⟨ab,ao,rfl,_,w0⟩:=(hg.ext t.ext).mj (i:=0) om om;rw[<-AN]at w0;have r0:rd h ab (place ao 0 1) 1 [.slice (gt cT 0).a n (gt cT 0).c]:=aC hA w0;refine hA.ar Try.func5 su (zc ?_)
  (refine zq ?_;repeat ((first|rw[e1]);refine zq ?_))
  refine br (C<NI) (by rw[aA hA]) (fun q=>om) (fun _=>?_)<;>refine zc ?_;obtain rfl:c=n:=om
  exact hQ h t
 |succ d ih=>
 intro c C h hd hc eC t;obtain⟨ab,ao,rfl,MD,w0⟩:=(hg.ext t.ext).mj (i:=0) om om;rw[<-AN]at w0;have r0:rd h ab (place ao 0 1) 1 [.slice (gt cT 0).a n (gt cT 0).c]:=aC hA w0;by_cases cc:c<n
 rotate_left
 ·refine hA.ar Try.func5 su (zc ?_)
  (refine zq ?_;repeat ((first|rw[e1]);refine zq ?_))
  refine br (C<NI) (by rw[aA hA]) (fun q=>om) (fun _=>?_)<;>refine zc ?_;obtain rfl:c=n:=om
  exact hQ h t
 have X0:0<=X:=om
 have X1:X<m:=om
 have Y0:0<=Y:=om
 have Y1:Y<m:=om
 have C0:0<=C:=om
 have C1:C<n:=om
 obtain⟨H,eH⟩:∃z,z=aG h 19:=⟨_,rfl⟩;have xH:Ext h H:=by rw[eH];exact au hA _ _
 have tH:=t.more xH;have R9h:Rows Hd.cells 1 H a9 m (KW n bs cs m):=⟨tH.l2.kA.cells,fM,om⟩;obtain⟨qb,qo,rfl,hqb,w1⟩:=R9h.at (i:=X) X0 X1;have w1:=w1 0 1 om om;have eh:gt (KW n bs cs m) X=⟨some ⟨bs x,0,none⟩,n,cs x⟩:=by rw[eX];exact dC _ hx
 rw[eh]at w1;have r1:rd H qb (place qo X 1) 1 [.slice (some ⟨bs x,0,none⟩) n (cs x)]:=aC hA w1;have own:=tH.r9.own x hx;have er:KZ g n x y c x=AO g n x y c:=if_pos rfl;rw[er]at own;have la:(AO g n x y c).length=n:=aW _ _;have YC:=bW.rows own dQ om (tH.r9.lt x hx);rw[la]at YC;obtain⟨_,_,ee,_,w2⟩:=YC.at (i:=C) C0 C1;cases ee;have w2:=w2 0 1 om om;obtain⟨u,eu⟩:∃z,z=Ext.el g x c:=⟨_,rfl⟩;have eg:gt (AO g n x y c) C=u:=by rw[eC,eu];unfold AO;rw[dC _ cc,if_neg (Nat.lt_irrefl c)]
 rw[eg]at w2;have r2:rd H (bs x) (place 0 C 1) 1 [.int .i64 u]:=aC hA w2;obtain⟨ab',ao',Yy,_,w3⟩:=(hg.ext tH.ext).mj (i:=Y) Y0 Y1;cases Yy;have abf:(gt g Y).length=n:=hM.row Y Y0 Y1;have Rw:=(hg.ext tH.ext).row Y Y0 Y1;have SJ:=Rw.len;rw[abf]at SJ;rw[<-SJ]at w3 Rw;obtain⟨ya,VK⟩:∃z,z=(gt cT Y).a:=⟨_,rfl⟩;obtain⟨yc,ZK⟩:∃z,z=(gt cT Y).c:=⟨_,rfl⟩;rw[<-VK,<-ZK]at w3;rw[<-VK]at Rw;have r3:rd H ab (place ao Y 1) 1 [.slice ya n yc]:=aC hA w3;obtain⟨yb,yo,rfl,_,w4⟩:=Rw.at (i:=C) C0 C1;have w4:=w4 0 1 om om;obtain⟨v,ev⟩:∃z,z=Ext.el g y c:=⟨_,rfl⟩;have eg2:gt (gt g Y) C=v:=by rw[eC,eY,ev];rfl
 rw[eg2]at w4;have r4:rd H yb (place yo C 1) 1 [.int .i64 v]:=aC hA w4;have bu:=hM.nine x c;have bv:=hM.nine y c;have bu:u.natAbs<=9:=by rw[eu];exact bu
 have bv:v.natAbs<=9:=by rw[ev];exact bv
 obtain⟨s,es⟩:∃z,z=u+v:=⟨_,rfl⟩;have m1:arith .add .i64 u v=s:=by rw[es];exact aH hA om om
 obtain⟨h2,UZ,Qh,ZN⟩:=bW.setRow own dQ (i:=c) om s;rw[es,eu,ev,OY]at Qh;have UZ:wr H (bs x) (place 0 C 1) [.int .i64 s] h2:=uc hA (by rw[eC,Nat.zero_add];exact UZ);have t2:=(tH.UW hx ZN Qh).Fz (R:=KZ g n x y (c+1)) (fun r hr=>by
  unfold KZ;by_cases q:r=x
  ·rw[if_pos q,if_pos q]
  ·rw[if_neg q,if_neg q,if_neg q])
 refine hA.ar Try.func5 su (zc ?_)
 (refine zq ?_;repeat ((first|rw[e1]);refine zq ?_))
 refine br (C<NI) (by rw[aA hA]) (fun _=>?_) (fun q=>om)<;>refine zc ?_;rw[<-eH]
 (refine zq ?_;repeat ((first|rw[e1]|rw[m1]);refine zq ?_))
 rw[aH hA om om];exact ih (c+1) (C+1) h2 om om om t2
set_option maxHeartbeats 2000000 in
theorem O0(hF:∀h,F 16 [] h=some (.bool true,h))(hI:sT F){h:af}(aq:h.low<=h.next){m ac k bc:Nat}{aa ba:Option Addr}{cT:List Hd}{g:List (List Int)}{B:List Fc}{x y:Int}(hg:Ai nC 1 h aa m cT g)(hB:Rows fC 2 h ba k B)(hm:m<=maxLen)(hk:k<=maxLen)(hi:∀i:Int,0<=i->i<k->i64 (gt B i).n/\i64 (gt B i).d){Q:Value->af->Prop}
  (hQ:∀h',Ext h h'->Q (.bool true) h'):call 5 [.agg #[.slice aa m ac,.slice ba k bc],.int .i64 x,.int .i64 y] h Q:=by
 obtain⟨M,eM⟩:∃z:Int,z=m:=⟨_,rfl⟩;have e0:ofNat m=M:=by rw[eM];exact aL hA m
 refine hA.aU Try.func5 su (hA.alike _ _ _ rfl) aq (zc ?_);refine zq ?_;refine hA.Mz (hF h) ⟨_,rfl,?_⟩;refine zq ?_;refine BA hA aq hg hB hi (fun e h1 he x1=>⟨e,rfl,?_⟩)
 (refine zq ?_;repeat ((first|rw[e0]);refine zq ?_))
 by_cases ez:e=0
 rotate_left
 ·rw[show cmp .neq e 0=true by rw[cB hA];simp[ez]]
  (refine zq ?_;repeat ((first|rw[e0]);refine zq ?_))
  exact hQ h1 x1
 subst ez;rw[show cmp .neq (0:Int) 0=false by rw[cB hA];rfl]
 (refine zq ?_;repeat ((first|rw[e0]);refine zq ?_))
 by_cases x0:x<0
 ·rw[show cmp .lss x 0=true by rw[aA hA];simp[x0]]
  (refine zq ?_;repeat ((first|rw[e0]);refine zq ?_))
  exact hQ h1 x1
 rw[show cmp .lss x 0=false by rw[aA hA];simp[x0]]
 (refine zq ?_;repeat ((first|rw[e0]);refine zq ?_))
 by_cases y0:y<0
 ·rw[show cmp .lss y 0=true by rw[aA hA];simp[y0]]
  (refine zq ?_;repeat ((first|rw[e0]);refine zq ?_))
  exact hQ h1 x1
 rw[show cmp .lss y 0=false by rw[aA hA];simp[y0]]
 (refine zq ?_;repeat ((first|rw[e0]);refine zq ?_))
 by_cases xm:x≥M
 ·rw[show cmp .geq x M=true by rw[bR hA];simp[xm]]
  (refine zq ?_;repeat ((first|rw[e0]);refine zq ?_))
  exact hQ h1 x1
 rw[show cmp .geq x M=false by rw[bR hA];simp[xm]]
 (refine zq ?_;repeat ((first|rw[e0]);refine zq ?_))
 by_cases ym:y≥M
 ·rw[show cmp .geq y M=true by rw[bR hA];simp[ym]]
  (refine zq ?_;repeat ((first|rw[e0]);refine zq ?_))
  exact hQ h1 x1
 rw[show cmp .geq y M=false by rw[bR hA];simp[ym]]
 (refine zq ?_;repeat ((first|rw[e0]);refine zq ?_))
 by_cases xy:x=y
 ·rw[show cmp .eql x y=true by rw[dn hA];simp[xy]]
  (refine zq ?_;repeat ((first|rw[e0]);refine zq ?_))
  exact hQ h1 x1
 rw[show cmp .eql x y=false by rw[dn hA];simp[xy]]
 (refine zq ?_;repeat ((first|rw[e0]);refine zq ?_))
 rw[show gM true=false by rw[dk hA];rfl];obtain⟨gd,nm⟩:=he.rU;obtain⟨m',n,hM⟩:=gd.Zs nm;obtain rfl:m=m':=by have:=hg.len;have:=hM.len;omega
 have De:=hg.full (fun y y0 y1=>by rw[hM.row y y0 y1];exact hM.n1);have Vz:k=m:=by have:=gd.len;have:=hB.len;have:=hg.len;omega
 subst Vz;have ht:∀i:Int,0<=i->i<k->cI (gt B i)/\(gt B i).d<=60:=fun i i0 i1=>gd.turn i i0 (by have:=hB.len;omega)
 obtain⟨xN,YD⟩:∃z:Nat,x=z:=⟨x.toNat,om⟩;obtain⟨yN,ZO⟩:∃z:Nat,y=z:=⟨y.toNat,om⟩;have U1:xN<k:=om
 have hyN:yN<k:=om
 have neN:xN≠yN:=om
 have l1:=x1.aD aq
 (refine zq ?_;repeat ((first|rw[e0]);refine zq ?_))
 refine Ru hA l1 hM (De.ext x1) (hB.ext x1) (fun h2 o a8 c8 b8 d8 a9 c9 b9 d9 FA HN F5 d10 bs cs ra rc t=>?_) k 0 0 h1 (fun _=>0) none 0 none 0 none 0 none 0 none 0 none 0 (fun _=>0) (fun _=>0) (fun _=>none) (fun _=>0) om om rfl (lj.start h1 cT g B k n)
 (refine zq ?_;repeat ((first|rw[e0]);refine zq ?_))
 refine Rv hA l1 (B:=B) hM (De.ext x1) U1 hyN YD ZO (fun h3 t3=>?_) n 0 0 h2 om om rfl (t.Fz (K0 hM U1));obtain⟨W,w⟩:=sC.ex (k:=k) (B:=B) ht;have wp:=w.pos;have w4:=w.gi hM.m4;obtain⟨H,eH⟩:∃z,z=aG h3 17:=⟨_,rfl⟩;have xH:Ext h3 H:=by rw[eH];exact au hA _ _
 have tH:=t3.more xH;have lH:=tH.ext.aD l1;have hBH:=hB.ext (x1.trans tH.ext);obtain⟨fb,fo,rfl,hfb,UZ⟩:=hBH.at (i:=x) om om;obtain⟨_,_,ee,_,Qh⟩:=hBH.at (i:=y) om om;cases ee;have UZ:=UZ 0 2 om om;have Qh:=Qh 0 2 om om;obtain⟨un,ud,eu⟩:∃a b,gt B x=⟨a,b⟩:=⟨_,_,rfl⟩;obtain⟨vn,vd,ev⟩:∃a b,gt B y=⟨a,b⟩:=⟨_,_,rfl⟩;rw[eu]at UZ;rw[ev]at Qh;have r1:rd H fb (place fo x 2) 2 [.int .i64 un,.int .i64 ud]:=aC hA UZ;have r2:rd H fb (place fo y 2) 2 [.int .i64 vn,.int .i64 vd]:=aC hA Qh;obtain⟨pu,epu⟩:∃z,z=nT B W xN:=⟨_,rfl⟩;obtain⟨pv,epv⟩:∃z,z=nT B W yN:=⟨_,rfl⟩;have qu:jC un ud (rq pu W)/\0<=pu/\pu<W:=by
  obtain⟨q1,q2,q3,_⟩:=w.part ht U1;rw[<-YD,eu]at q1 q2 q3;rw[epu];unfold nT;rw[<-YD,eu];exact⟨q1,q2,q3⟩
 have qv:jC vn vd (rq pv W)/\0<=pv/\pv<W:=by
  obtain⟨q1,q2,q3,_⟩:=w.part ht hyN;rw[<-ZO,ev]at q1 q2 q3;rw[epv];unfold nT;rw[<-ZO,ev];exact⟨q1,q2,q3⟩
 obtain⟨qu,u0,u1⟩:=qu;obtain⟨qv,v0,v1⟩:=qv
 (refine zq ?_;repeat ((first|rw[e0]);refine zq ?_))
 rw[<-eH]
 (refine zq ?_;repeat ((first|rw[e0]);refine zq ?_))
 refine CM hA (aB hA H) qu.rW qu.sS qv.rW qv.sS (fun a b r q h4 x4=>⟨_,_,_,rfl,?_⟩);have U2:rq pu W+rq pv W=rq (pu+pv) W:=vr om;obtain⟨q1,rfl⟩:=Ip qu qv (f:=(· + ·)) (by show fits (rq pu W+rq pv W);rw[U2];exact xq om om om) q
 replace q1:jC a b (rq pu W+rq pv W):=q1
 rw[U2]at q1;obtain⟨H2,eH2⟩:∃z,z=aw H h4:=⟨_,rfl⟩;have y2:Ext H H2:=by rw[eH2];exact cG hA lH (.refl H) x4
 have elim:bT (next h3) 17=H.next:=by rw[cZ hA,cQ hA,eH,kI hA];rfl
 have nw:=qS hA x4;have t4:=tH.more y2;obtain⟨H3,eH3⟩:∃z,z=aG H2 7:=⟨_,rfl⟩;have x3:Ext H2 H3:=by rw[eH3];exact au hA _ _
 have t5:=t4.more x3;have l5:=t5.ext.aD l1
 (refine zq ?_;repeat ((first|rw[e0]);refine zq ?_))
 rw[<-eH2,<-eH3];refine Q3 hA (aB hA H3) q1 wp om (fun mn md h5 q5 x5=>⟨_,_,rfl,?_⟩);obtain⟨H4,eH4⟩:∃z,z=aw H3 h5:=⟨_,rfl⟩;have y4:Ext H3 H4:=by rw[eH4];exact cG hA l5 (.refl H3) x5
 have t6:=t5.more y4;have nw5:=qS hA x5;rcases t6.l3.kA with ⟨_,q,_⟩|⟨b9b,eb9,_⟩
 ·have q:k=0:=q
  have:=hM.m1;omega
 have eb9:b9=some ⟨b9b,0,none⟩:=eb9;subst eb9;obtain⟨h6,ZN,x6,_,t7⟩:=t6.UX (x:=xN) (f:=⟨mn,md⟩) (by unfold HM;rw[aW];exact U1);have ZN:wr H4 b9b (place 0 x 2) [.int .i64 mn,.int .i64 md] h6:=uc hA (by rw[YD,Nat.zero_add];exact ZN)
 (refine zq ?_;repeat ((first|rw[e0]);refine zq ?_))
 rw[<-eH4]
 (refine zq ?_;repeat ((first|rw[e0]);refine zq ?_))
 have FM:∀i:Int,0<=i->i<k->i64 (gt B i).n/\i64 (gt B i).d:=hi;have eBk:HM B k=B:=by have:=OZ B;rw[hB.len]at this;exact this.symm
 have tf:=t7.first (n:=n) (De.ext x1);have tt:=t7.Yx;have ts:=t7.second (fun r hr=>by
  unfold KZ;by_cases q:r=xN
  ·rw[if_pos q];exact aW _ _
  ·rw[if_neg q];exact hM.row _ om om)
 rw[eBk]at tt ts;have l6:=x6.aD l1;have rv:=fu.rev g B k n;have ur:=fu.Yr g B k n;have ht8:∀i:Int,0<=i->i<k->cI (gt (mD B k) i)/\(gt (mD B k) i).d<=60:=fun i i0 i1=>by
  obtain⟨j,rfl⟩:∃j:Nat,i=j:=⟨i.toNat,om⟩;rw[jL B om];exact ht _ om om
 have hi8:∀i:Int,0<=i->i<k->i64 (gt (mD B k) i).n/\i64 (gt (mD B k) i).d:=fun i i0 i1=>by
  obtain⟨j,rfl⟩:∃j:Nat,i=j:=⟨i.toNat,om⟩;rw[jL B om];exact hi _ om om
 have ck8:=hM.rev.chk (aW _ _) ht8;have abg:=hM.col.chk hB.len ht;refine sD hA l6 (hg.ext (x1.trans x6)) (hB.ext (x1.trans x6)) hi (fun e' h' c' ne _=>absurd (he.uniq c').symm ne) (fun h7 n' r qa qc c' Ab x7 ir ap=>⟨_,_,_,_,rfl,?_⟩);obtain⟨_,rfl⟩:=hM.uniq Ab;have rp:Rows nC 1 h7 qa r (AK g k n r):=⟨ap.cells,dQ,om⟩;have l7:=x7.aD l6
 (refine zq ?_;repeat ((first|rw[e0]);refine zq ?_))
 refine zY hA l7 ck8 hM.rev ir (fun j hj=>rv.dv hj ur) (tf.1.ext x7) (tf.2.ext x7) hi8 (fun h8 ia8 ic8 rp8 x8=>⟨_,_,_,_,rfl,?_⟩);have l8:=x8.aD l7
 (refine zq ?_;repeat ((first|rw[e0]);refine zq ?_))
 refine zY hA l8 abg hM.col ir (fun j hj=>Rj hj) (tt.1.ext (x7.trans x8)) (tt.2.ext (x7.trans x8)) hi (fun h9 ia10 ic10 abh x9=>⟨_,_,_,_,rfl,?_⟩);have l9:=x9.aD l8;have x79:=(x7.trans x8).trans x9;have Kw:=(De.ext (x1.trans x6)).ext x79;have hBp:=(hB.ext (x1.trans x6)).ext x79
 (refine zq ?_;repeat ((first|rw[e0]);refine zq ?_))
 refine Jk hA hI l9 he hM Kw hBp hi (fun ea L hs Bn N1 la1 lc1 lh1 av xs1 L1=>⟨_,_,_,_,rfl,?_⟩);have x10:=xs1.trans L1.ext;have Qr:=x10.aD l9;have av8:=av.to hM.n4 hM.m4 rv ur ht ht8
 (refine zq ?_;repeat ((first|rw[e0]);refine zq ?_))
 refine Fx hA hI Qr ck8 hM.rev av8 (tf.1.ext (x79.trans x10)) (tf.2.ext (x79.trans x10)) hi8 (fun pY Nu N2 la2 lc2 lh2 xs2 L2=>⟨_,_,_,_,rfl,?_⟩);have x11:=xs2.trans L2.ext;have Vo:=x11.aD Qr;have z11:=x79.trans (x10.trans x11)
 (refine zq ?_;repeat ((first|rw[e0]);refine zq ?_))
 have cn:cmp .neq (0:Int) 0=false:=by rw[cB hA];rfl
 have ce:cmp .neq ea ea=false:=by rw[cB hA];simp
 have bt:gM true=false:=by rw[dk hA];rfl
 rw[cn]
 (refine zq ?_;repeat ((first|rw[e0]|rw[cn]);refine zq ?_))
 have U3:r<=1000:=by have:=ir.lm;have:=hM.m4;omega
 refine nA hA Vo (rp.ext (((x8.trans x9).trans x10).trans x11)) (rp8.ext ((x9.trans x10).trans x11)) U3 (fun Pn x12=>⟨_,rfl,?_⟩);have Qs:=x12.aD Vo
 (refine zq ?_;repeat ((first|rw[e0]|rw[cn]|rw[bt]);refine zq ?_))
 refine nA hA Qs (rp.ext ((((x8.trans x9).trans x10).trans x11).trans x12)) (abh.ext ((x10.trans x11).trans x12)) U3 (fun Zg x13=>⟨_,rfl,?_⟩);have Qt:=x13.aD Qs
 (refine zq ?_;repeat ((first|rw[e0]|rw[cn]|rw[bt]|rw[ce]);refine zq ?_))
 refine BG hA Qt hM.n4 av L1 L2 ((x11.trans x12).trans x13) (x12.trans x13) (fun Xp x14=>⟨_,rfl,?_⟩);have Sh:=x14.aD Qt;have SK:=((z11.trans x12).trans x13).trans x14
 (refine zq ?_;repeat ((first|rw[e0]|rw[cn]|rw[bt]|rw[ce]);refine zq ?_))
 obtain⟨g9,ZP⟩:∃z,z=iK (KZ g n xN yN n) k:=⟨_,rfl⟩;obtain⟨B9,ZQ⟩:∃z,z=B.set xN ⟨mn,md⟩:=⟨_,rfl⟩;rw[<-ZP,<-ZQ]at ts;have b9x:gt B9 (xN:Int)=⟨mn,md⟩:=by rw[ZQ,wi B _ (by rw[hB.len];exact U1),if_pos rfl]
 have b9o:∀i:Nat,i<k->i≠xN->gt B9 (i:Int)=gt B (i:Int):=fun i hi ne=>by rw[ZQ,wi B _ (by rw[hB.len];exact U1),if_neg ne]
 have hi9:∀i:Int,0<=i->i<k->i64 (gt B9 i).n/\i64 (gt B9 i).d:=fun i i0 i1=>by
  obtain⟨j,rfl⟩:∃j:Nat,i=j:=⟨i.toNat,om⟩;by_cases q:j=xN
  ·rw[q,b9x];exact⟨q5.rW,q5.sS⟩
  ·rw[b9o j om q];exact hi _ i0 i1
 have l9b:(iK (KZ g n xN yN n) k).length=k:=aW _ _;refine BA hA Sh (ts.1.ext SK).US (ts.2.ext SK) hi9 (fun e9 Xq he9 x15=>⟨_,rfl,?_⟩);have Si:=x15.aD Sh;have zz:Ext h Xq:=((x1.trans x6).trans SK).trans x15
 (refine zq ?_;repeat ((first|rw[e0]|rw[bt]);refine zq ?_))
 by_cases ez9:e9=0
 rotate_left
 ·rw[show cmp .neq e9 0=true by rw[cB hA];simp[ez9]]
  (refine zq ?_;repeat ((first|rw[e0]|rw[cn]|rw[bt]|rw[ce]);refine zq ?_))
  exact hQ Xq zz
 subst ez9;rw[cn];obtain⟨gd9,nm9⟩:=he9.rU;obtain⟨m9,n9,Rx⟩:=gd9.Zs nm9;have em9:m9=k:=by rw[<-Rx.len,ZP];exact aW _ _
 have abi:gt g9 ((0:Nat):Int)=KZ g n xN yN n 0:=by rw[ZP];exact dC _ om
 have en9:n9=n:=by
  have q1:=Rx.row 0 om (by have:=hM.m1;omega);rw[<-q1];show(gt g9 ((0:Nat):Int)).length=n;rw[abi];unfold KZ;by_cases q:0=xN
  ·rw[if_pos q];exact aW _ _
  ·rw[if_neg q];exact hM.row _ om (by have:=hM.m1;omega)
 subst em9 en9;have ht9:∀i:Int,0<=i->i<m9->cI (gt B9 i)/\(gt B9 i).d<=60:=fun i i0 i1=>gd9.turn i i0 (by rw[ZQ,List.length_set,hB.len];exact i1)
 have both:=fu.both (g:=g) (g':=g9) (B:=B) (B':=B9) (n:=n9) U1 hyN neN (fun i FM j hj=>by
  unfold Ext.el;rw[ZP,dC _ FM];unfold KZ;by_cases q:i=xN
  ·rw[if_pos q,if_pos q];unfold AO;rw[dC _ hj,if_pos hj];rfl
  ·rw[if_neg q,if_neg q]) b9o ⟨(pu+pv) / W,by
   have e1:vq (gt B (xN:Int))=rq pu W:=by rw[<-YD,eu];exact qu.rq
   have e2:vq (gt B (yN:Int))=rq pv W:=by rw[<-ZO,ev];exact qv.rq
   have e3:vq (gt B9 (xN:Int))=rq ((pu+pv) % W) W:=by rw[b9x];exact q5.rq
   rw[e1,e2,e3,U2,oX (l:=(pu+pv) / W) (show W≠0 by omega),vr (show W≠0 by omega)]
   congr 1
   have:=Int.emod_add_mul_ediv (pu+pv) W;rw[Int.mul_comm W]at this;exact this.symm⟩
 (refine zq ?_;repeat ((first|rw[e0]|rw[cn]|rw[bt]|rw[ce]);refine zq ?_))
 refine zY hA Si he9 Rx ir (fun j hj=>both.1.dv hj both.2) (ts.1.ext (SK.trans x15)) (ts.2.ext (SK.trans x15)) hi9 (fun Vt ia9 ic9 rp9 x16=>⟨_,_,_,_,rfl,?_⟩);have Xr:=x16.aD Si
 (refine zq ?_;repeat ((first|rw[e0]|rw[cn]|rw[bt]|rw[ce]);refine zq ?_))
 have av9:=av.to hM.n4 hM.m4 both.1 both.2 ht ht9;refine Fx hA hI Xr he9 Rx av9 (ts.1.ext ((SK.trans x15).trans x16)) (ts.2.ext ((SK.trans x15).trans x16)) hi9 (fun wU Qw N3 la3 lc3 lh3 xs3 L3=>⟨_,_,_,_,rfl,?_⟩);have x17:=xs3.trans L3.ext;have ND:=x17.aD Xr;have z17:=(x15.trans x16).trans x17;have c1:cmp .eql (0:Int) 0=true:=by rw[dn hA];rfl
 have c2:cmp .eql ea ea=true:=by rw[dn hA];simp
 (refine zq ?_;repeat ((first|rw[e0]|rw[cn]|rw[bt]|rw[ce]|rw[c1]|rw[c2]);refine zq ?_))
 refine nA hA ND (rp.ext (((((((x8.trans x9).trans x10).trans x11).trans x12).trans x13).trans x14).trans z17)) (rp9.ext x17) U3 (fun h18 x18=>⟨_,rfl,?_⟩);have l18:=x18.aD ND
 (refine zq ?_;repeat ((first|rw[e0]|rw[cn]|rw[bt]|rw[ce]|rw[c1]|rw[c2]);refine zq ?_))
 refine BG hA l18 hM.n4 av L1 L3 ((((x11.trans x12).trans x13).trans x14).trans (z17.trans x18)) x18 (fun h19 x19=>⟨_,rfl,?_⟩)
 (refine zq ?_;repeat ((first|rw[e0]|rw[cn]|rw[bt]|rw[ce]|rw[c1]|rw[c2]);refine zq ?_))
 exact hQ h19 ((((x1.trans x6).trans SK).trans z17).trans (x18.trans x19))
