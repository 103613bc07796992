import Derived.Test.YtogliemiljhliaaSymGrid
import Derived.Test.YtogliemiljhliaaSymFacts
set_option linter.unusedSimpArgs false
set_option linter.unusedVariables false
namespace Go.Proofs.Ytogliemiljhliaa
open Go.Sim
set_option linter.unusedVariables false
set_option maxRecDepth 100000
structure Hd where
 a : Option Addr
 n : Nat
 c : Nat
 deriving Inhabited
def Hd.cells (k : Hd) : List Value:=[.slice k.a k.n k.c]
theorem hd_len (k : Hd) : k.cells.length = 1:=rfl
theorem hd_ok (k : Hd) : k.cells.all cellOK = true:=rfl
structure GrR {α : Type} [Inhabited α] (enc : α → List Value) (es : Nat) (h : AHeap) (a : Option Addr) (N : Nat) (hs : List Hd) (g : List (List α)) : Prop where
 hd : Rows Hd.cells 1 h a N hs
 len : g.length = N
 row : ∀ y : Int,0 ≤ y → y < N → Rows enc es h (gt hs y).a (gt hs y).n (gt g y)
theorem GrR.ext {α : Type} [Inhabited α] {enc : α → List Value} {es : Nat} {h h' : AHeap} {a : Option Addr} {N : Nat} {hs : List Hd} {g : List (List α)} (t : GrR enc es h a N hs g) (e : Ext h h') : GrR enc es h' a N hs g:=⟨t.hd.ext e,t.len,fun y y0 y1 => (t.row y y0 y1).ext e⟩
def hds {α : Type} (cp : Nat) (bs : List Nat) (g : List (List α)) : List Hd:=List.zipWith (fun b r => ⟨some ⟨b,0,none⟩,r.length,cp⟩) bs g
theorem hds_len {α : Type} {cp : Nat} {bs : List Nat} {g : List (List α)} (h : bs.length = g.length) : (hds cp bs g).length = g.length:=by
 unfold hds;rw [List.length_zipWith,h];exact Nat.min_self _
theorem hds_at {α : Type} {cp : Nat} {bs : List Nat} {g : List (List α)} (h : bs.length = g.length) {y : Int} (y0 : 0 ≤ y) (y1 : y < g.length) : gt (hds cp bs g) y = ⟨some ⟨bs.getD y.toNat 0,0,none⟩,(gt g y).length,cp⟩:=by
 unfold hds gt
 rw [List.getD_eq_getElem?_getD,List.getElem?_zipWith,List.getElem?_eq_getElem (by omega),List.getElem?_eq_getElem (by omega),List.getD_eq_getElem?_getD,List.getD_eq_getElem?_getD,List.getElem?_eq_getElem (by omega),List.getElem?_eq_getElem (by omega)]
 rfl
structure GrW {α : Type} [Inhabited α] (enc : α → List Value) (es cp : Nat) (h0 h : AHeap) (bs : List Nat) (g : List (List α)) : Prop where
 ext : Ext h0 h
 len : bs.length = g.length
 row : ∀ y : Int,0 ≤ y → y < g.length → Own h (bs.getD y.toNat 0) es ((gt g y).flatMap enc)
 oldr : ∀ b,b ∈ bs → h0.next ≤ b
 ltr : ∀ b,b ∈ bs → b < h.next
 dis : bs.Nodup
 each : ∀ x,(enc x).length = es
 pos : 0 < es
section
variable {α : Type} [Inhabited α] {enc : α → List Value} {es cp : Nat} {h0 h : AHeap} {bs : List Nat} {g : List (List α)}
theorem GrW.nil (h0 : AHeap) (he : ∀ x,(enc x).length = es) (hp : 0 < es) : GrW enc es cp h0 h0 [] []:=⟨.refl h0,rfl,fun y y0 y1 => by simp at y1;omega,fun b hb => by simp at hb,fun b hb => by simp at hb,List.nodup_nil,he,hp⟩
theorem GrW.more {h' : AHeap} (t : GrW enc es cp h0 h bs g) (e : Ext h h') : GrW enc es cp h0 h' bs g:=
 ⟨t.ext.trans e,t.len,fun y y0 y1 => (t.row y y0 y1).ext e (t.ltr _ (bs_mem (by have:=t.len;omega))),t.oldr,fun b hb => Nat.lt_of_lt_of_le (t.ltr b hb) e.next,t.dis,t.each,t.pos⟩
theorem GrW.keep {h' : AHeap} (t : GrW enc es cp h0 h bs g) (e : Ext h0 h') (hn : h.next ≤ h'.next) (hk : ∀ b,b ∈ bs → h'.m.get b = h.m.get b) : GrW enc es cp h0 h' bs g:=
 ⟨e,t.len,fun y y0 y1 => (t.row y y0 y1).of_get (hk _ (bs_mem (by have:=t.len;omega))),t.oldr,fun b hb => Nat.lt_of_lt_of_le (t.ltr b hb) hn,t.dis,t.each,t.pos⟩
theorem GrW.add {b : Nat} {r : List α} (t : GrW enc es cp h0 h bs g) (o : Own h b es (r.flatMap enc)) (h1 : h0.next ≤ b) (h2 : b < h.next) (h3 : b ∉ bs) : GrW enc es cp h0 h (bs ++ [b]) (g ++ [r]):=by
 have hl:=t.len
 refine ⟨t.ext,by simp [hl],fun y y0 y1 => ?_,fun c hc => ?_,fun c hc => ?_,?_,t.each,t.pos⟩
 ·rw [List.length_append,List.length_singleton] at y1
  by_cases e : y < g.length
  ·have e1 : (bs ++ [b]).getD y.toNat 0 = bs.getD y.toNat 0:=by rw [List.getD_eq_getElem?_getD,List.getD_eq_getElem?_getD,List.getElem?_append_left (by omega)]
   have e2 : gt (g ++ [r]) y = gt g y:=by unfold gt;rw [List.getD_eq_getElem?_getD,List.getD_eq_getElem?_getD,List.getElem?_append_left (by omega)]
   rw [e1,e2];exact t.row y y0 e
  ·have e1 : (bs ++ [b]).getD y.toNat 0 = b:=by rw [List.getD_eq_getElem?_getD,show y.toNat = bs.length by omega,List.getElem?_concat_length];rfl
   have e2 : gt (g ++ [r]) y = r:=by unfold gt;rw [List.getD_eq_getElem?_getD,show y.toNat = g.length by omega,List.getElem?_concat_length];rfl
   rw [e1,e2];exact o
 ·rcases List.mem_append.1 hc with q | q
  ·exact t.oldr c q
  ·simp only [List.mem_singleton] at q;omega
 ·rcases List.mem_append.1 hc with q | q
  ·exact t.ltr c q
  ·simp only [List.mem_singleton] at q;omega
 ·rw [List.nodup_append]
  exact ⟨t.dis,by simp,fun x hx y hy => by simp only [List.mem_singleton] at hy;intro e;exact h3 (by rw [← hy,← e];exact hx)⟩
theorem GrW.rd (t : GrW enc es cp h0 h bs g) {a : Option Addr} {N : Nat} (hd : Rows Hd.cells 1 h a N (hds cp bs g)) : GrR enc es h a N (hds cp bs g) g:=by
 have hl:=t.len
 have e:=hd.len
 rw [hds_len hl] at e
 refine ⟨hd,e,fun y y0 y1 => ?_⟩
 rw [hds_at hl y0 (by omega)]
 exact Own.rows (t.row y y0 (by omega)) t.each t.pos (t.ltr _ (bs_mem (by omega)))
omit [Inhabited α] in
theorem hds_add {b : Nat} {r : List α} (hl : bs.length = g.length) : hds cp (bs ++ [b]) (g ++ [r]) = hds cp bs g ++ [⟨some ⟨b,0,none⟩,r.length,cp⟩]:=by
 unfold hds
 rw [List.zipWith_append hl]
 rfl
end
variable {F : Prims} {call head arith cmp scmp bnot bsame conv neg imax imin ofNat slen place inR nz geZ rd wr push next mkOK nat zeros sadd eqAgg cut slc sslc strAt part app cpy putAt fresh lowered bump wrote addN lt ne fpAll fpApp brk yn rng mget mput mnew bytes clr : _} (hA : AP F ⟨call,head,arith,cmp,scmp,bnot,bsame,conv,neg,imax,imin,ofNat,slen,place,inR,nz,geZ,rd,wr,push,next,mkOK,nat,zeros,sadd,eqAgg,cut,slc,sslc,strAt,part,app,cpy,putAt,fresh,lowered,bump,wrote,addN,lt,ne,fpAll,fpApp,brk,yn,rng,mget,mput,mnew,bytes,clr⟩)
include hA
end Go.Proofs.Ytogliemiljhliaa
