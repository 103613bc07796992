import Derived.Test.YtnokkniofajnhaaQuCm
import Derived.Test.YtnokkniofajnhaaSimF
import Derived.Test.YtnokkniofajnhaaFracAlive
import Derived.Test.YtnokkniofajnhaaProg
import Derived.KernelRfl
set_option linter.unusedSimpArgs false
set_option linter.unusedVariables false
namespace Go.Proofs.Ytnokkniofajnhaa
open Go.Sim
set_option linter.unusedVariables false
set_option maxRecDepth 100000
def kA : List Kr:=(List.range 39).map fun (s : Nat) => ⟨(s : Int),1,2 * (s : Int) + 1,1⟩
def kB : List Kr:=(List.range 40).map fun (s : Nat) => ⟨2 * (s : Int),1,(s : Int),1⟩
theorem kA_at {i : Int} (h0 : 0 ≤ i) (h1 : i < 39) : gt kA i = ⟨i,1,2 * i + 1,1⟩:=by
 unfold gt kA
 rw [List.getD,List.getElem?_map,List.getElem?_range (by omega)]
 simp only [Option.map_some,Option.getD_some]
 rw [Int.toNat_of_nonneg h0]
theorem kB_at {i : Int} (h0 : 0 ≤ i) (h1 : i < 40) : gt kB i = ⟨2 * i,1,i,1⟩:=by
 unfold gt kB
 rw [List.getD,List.getElem?_map,List.getElem?_range (by omega)]
 simp only [Option.map_some,Option.getD_some]
 rw [Int.toNat_of_nonneg h0]
theorem kA_len : kA.length = 39:=by unfold kA;simp
theorem kB_len : kB.length = 40:=by unfold kB;simp
theorem rq1 (n : Int) : rq n 1 = (n : Rat):=by unfold rq;grind
theorem okF1 {n : Int} (h0 : -1000 ≤ n) (h1 : n ≤ 1000) : okF n 1:=by
 rw [okF_iff]
 refine ⟨by omega,by omega,by omega,by omega,by simp⟩
theorem small1 {n : Int} (h0 : -100 ≤ n) (h1 : n ≤ 100) : smallF 100 n 1:=⟨okF1 (by omega) (by omega),by omega,by omega,by omega⟩
theorem kA_good : GoodL kA:=by
 have hl:=kA_len
 refine ⟨by omega,by omega,fun i h0 h1 => ?_,fun i h0 h1 => ?_⟩
 ·rw [kA_at h0 (by omega)]
  exact ⟨small1 (by simp only;omega) (by simp only;omega),small1 (by simp only;omega) (by simp only;omega)⟩
 ·obtain ⟨a1,a2⟩:=toK_at (l:=kA) (i:=i - 1) (by omega) (by omega)
  obtain ⟨b1,b2⟩:=toK_at (l:=kA) (i:=i) (by omega) (by omega)
  rw [a1,a2,b1,b2,kA_at (by omega) (by omega),kA_at (by omega) (by omega)]
  simp only [rq1]
  exact ⟨Rat.intCast_lt_intCast.2 (by omega),Rat.intCast_lt_intCast.2 (by omega)⟩
theorem kB_good : GoodL kB:=by
 have hl:=kB_len
 refine ⟨by omega,by omega,fun i h0 h1 => ?_,fun i h0 h1 => ?_⟩
 ·rw [kB_at h0 (by omega)]
  exact ⟨small1 (by simp only;omega) (by simp only;omega),small1 (by simp only;omega) (by simp only;omega)⟩
 ·obtain ⟨a1,a2⟩:=toK_at (l:=kB) (i:=i - 1) (by omega) (by omega)
  obtain ⟨b1,b2⟩:=toK_at (l:=kB) (i:=i) (by omega) (by omega)
  rw [a1,a2,b1,b2,kB_at (by omega) (by omega),kB_at (by omega) (by omega)]
  simp only [rq1]
  exact ⟨Rat.intCast_lt_intCast.2 (by omega),Rat.intCast_lt_intCast.2 (by omega)⟩
theorem k_within : Within kA kB:=by
 have hl:=kA_len
 have hm:=kB_len
 unfold Within
 rw [(toK_at (l:=kB) (i:=0) (by omega) (by omega)).1,(toK_at (l:=kA) (i:=0) (by omega) (by omega)).2,(toK_at (l:=kA) (i:=kA.length - 1) (by omega) (by omega)).2,(toK_at (l:=kB) (i:=kB.length - 1) (by omega) (by omega)).1]
 rw [kB_at (by omega) (by omega),kA_at (by omega) (by omega),kA_at (by omega) (by omega),kB_at (by omega) (by omega),hl,hm]
 simp only [rq1]
 exact ⟨Rat.intCast_le_intCast.2 (by decide),Rat.intCast_le_intCast.2 (by decide)⟩
theorem mid_in {j : Int} (h0 : 1 ≤ j) (h1 : j ≤ 76) : (⟨j,1⟩ : F2) ∈ midList kA kB:=by
 have hl:=kA_len
 have hm:=kB_len
 unfold midList
 rw [List.mem_append]
 by_cases hj : j % 2 = 1
 ·left
  rw [List.mem_map]
  refine ⟨gt kA (j / 2),gt_mem _ (by omega) (by omega),?_⟩
  rw [kA_at (by omega) (by omega)]
  unfold Kr.yF
  simp only
  rw [show 2 * (j / 2) + 1 = j by omega]
 ·right
  rw [List.mem_map]
  refine ⟨gt kB (j / 2),?_,?_⟩
  ·rw [List.mem_filter]
   refine ⟨gt_mem _ (by omega) (by omega),?_⟩
   unfold inRange
   rw [decide_eq_true_iff,kA_at (by omega) (by omega),kA_at (by omega) (by omega),kB_at (by omega) (by omega),hl]
   unfold Kr.yF Kr.xF F2.q
   simp only [rq1]
   exact ⟨Rat.intCast_le_intCast.2 (by omega),Rat.intCast_le_intCast.2 (by omega)⟩
  ·rw [kB_at (by omega) (by omega)]
   unfold Kr.xF
   simp only
   rw [show 2 * (j / 2) = j by omega]
theorem mem_gt' {α : Type} [Inhabited α] {l : List α} {x : α} (h : x ∈ l) : ∃ p : Int,0 ≤ p ∧ p < l.length ∧ gt l p = x:=by
 obtain ⟨n,hn,rfl⟩:=List.getElem_of_mem h
 refine ⟨n,by omega,by omega,?_⟩
 unfold gt
 rw [List.getD,show (n : Int).toNat = n by omega,List.getElem?_eq_getElem hn,Option.getD_some]
theorem mid_long {W : List F2} (h : MidIs kA kB W) : 40 < W.length:=by
 have key : ∀ n : Nat,n ≤ 75 → ∃ p : Int,(n : Int) ≤ p ∧ p < W.length ∧ gt W p = ⟨(n : Int) + 1,1⟩:=by
  intro n
  induction n with
  | zero =>
   intro _
   obtain ⟨p,p0,p1,p2⟩:=mem_gt' ((h.2 ⟨((0 : Nat) : Int) + 1,1⟩).2 (mid_in (by omega) (by omega)))
   exact ⟨p,p0,p1,p2⟩
  | succ n ih =>
   intro hn
   obtain ⟨p,p0,p1,p2⟩:=ih (by omega)
   obtain ⟨r,r0,r1,r2⟩:=mem_gt' ((h.2 ⟨((n + 1 : Nat) : Int) + 1,1⟩).2 (mid_in (by omega) (by omega)))
   refine ⟨r,?_,r1,r2⟩
   refine Int.not_lt.1 fun c => ?_
   have lt : ((n : Int) + 1 : Int) < ((n + 1 : Nat) : Int) + 1:=by omega
   have e1 : (gt W p).q = (((n : Int) + 1 : Int) : Rat):=by rw [p2];exact rq1 _
   have e2 : (gt W r).q = ((((n + 1 : Nat) : Int) + 1 : Int) : Rat):=by rw [r2];exact rq1 _
   by_cases e : r = p
   ·subst e
    rw [e1] at e2
    have:=Rat.intCast_inj.1 e2
    omega
   ·have:=h.1 r p r0 (by omega) p1
    rw [e1,e2] at this
    have:=Rat.intCast_lt_intCast.1 this
    omega
 obtain ⟨p,p0,p1,_⟩:=key 75 (by omega)
 omega
theorem k_is {out : List Kr} {e : Int} (h : ComposeIs kA kB out e) : e = 4 ∧ out = []:=by
 rcases h with ⟨a,_⟩ | ⟨_,a,_⟩ | ⟨_,_,a,_⟩ | ⟨_,_,_,W,hW,h⟩
 ·exact absurd kA_good a
 ·exact absurd kB_good a
 ·exact absurd k_within a
 ·have:=mid_long hW
  rcases h with ⟨_,rfl,rfl⟩ | ⟨a,_⟩ | ⟨a,_⟩
  ·exact ⟨rfl,rfl⟩
  ·omega
  ·omega
theorem i64_1 {n : Int} (h0 : 0 ≤ n) (h1 : n ≤ 1000) : Proofs.Ytnokkniofajnhaa.i64 n:=by unfold Proofs.Ytnokkniofajnhaa.i64;omega
theorem kA_64 : allI64 kA:=fun i h0 h1 => by
 rw [kA_len] at h1
 rw [kA_at h0 h1]
 exact ⟨i64_1 (by simp only;omega) (by simp only;omega),i64_1 (by simp only;omega) (by simp only;omega),i64_1 (by simp only;omega) (by simp only;omega),i64_1 (by simp only;omega) (by simp only;omega)⟩
theorem kB_64 : allI64 kB:=fun i h0 h1 => by
 rw [kB_len] at h1
 rw [kB_at h0 h1]
 exact ⟨i64_1 (by simp only;omega) (by simp only;omega),i64_1 (by simp only;omega) (by simp only;omega),i64_1 (by simp only;omega) (by simp only;omega),i64_1 (by simp only;omega) (by simp only;omega)⟩
def sameI : List Value → List Int → Bool
 | [],[] => true
 | [],_ :: _ => false
 | _ :: _,[] => false
 | v :: l,b :: m =>
  match v with
  | .int .i64 a => bif decide (a = b) then sameI l m else false
  | _ => false
theorem sameI_eq : ∀ (l : List Value) (m : List Int),sameI l m = true → l = m.map (.int .i64 ·)
 | [],[],_ => rfl
 | v :: l,[],h => by cases h
 | [],b :: m,h => by cases h
 | v :: l,b :: m,h => by
  simp only [sameI] at h
  split at h
  ·rename_i a
   cases c : decide (a = b) with
   | false => rw [c] at h;cases h
   | true =>
    rw [c] at h
    rw [List.map_cons,sameI_eq _ _ h,of_decide_eq_true c]
  ·cases h
def krI (k : Kr) : List Int:=[k.xn,k.xd,k.yn,k.yd]
def intsA : List Int:=kA.flatMap krI
def intsB : List Int:=kB.flatMap krI
theorem krI_cells (l : List Kr) : (l.flatMap krI).map (.int .i64 ·) = l.flatMap Kr.cells:=by
 induction l with
 | nil => rfl
 | cons k l ih => rw [List.flatMap_cons,List.flatMap_cons,List.map_append,ih];rfl
def longF (g : FuncId) (args : List Value) (h : AHeap) : Option Value:=
 bif Nat.beq g 17 then
  match args with
  | [.slice (some ⟨b,o,none⟩) 39 _,.slice (some ⟨b2,o2,none⟩) 40 _] =>
   match h.readG ⟨b,o,none⟩ 156,h.readG ⟨b2,o2,none⟩ 160 with
   | some l,some l2 => bif Nat.blt b h.next && Nat.blt b2 h.next && sameI l intsA && sameI l2 intsB then some (.tuple #[.chan none,.int .i64 4]) else none
   | _,_ => none
  | _ => none
 else none
theorem longF_ok (g : FuncId) (args : List Value) (h : AHeap) (v : Value) (hf : longF g args h = some v) : ∃ v0 h',Blur v0 v ∧ Ret Try.prog hint prims0 g args h.anew v0 h' ∧ h.next ≤ h'.low:=by
 unfold longF at hf
 cases hg : Nat.beq g 17 with
 | false => rw [hg] at hf;cases hf
 | true =>
  have hg':=Nat.eq_of_beq_eq_true hg
  subst hg'
  simp only [show Nat.beq 17 17 = true from rfl,cond_true] at hf
  split at hf
  ·rename_i b o c b2 o2 c2
   split at hf
   ·rename_i l l2 r1 r2
    cases hb : (Nat.blt b h.next && Nat.blt b2 h.next && sameI l intsA && sameI l2 intsB) with
    | false => rw [hb] at hf;cases hf
    | true =>
     rw [hb] at hf
     simp only [cond_true,Option.some.injEq] at hf
     subst hf
     simp only [Bool.and_eq_true] at hb
     obtain ⟨⟨⟨b0,b1⟩,s1⟩,s2⟩:=hb
     have b0' : b < h.next:=by unfold Nat.blt at b0;exact Nat.le_of_ble_eq_true b0
     have b1' : b2 < h.next:=by unfold Nat.blt at b1;exact Nat.le_of_ble_eq_true b1
     have hB : AP prims0 (atomsOf Try.prog hint prims0):=⟨⟨rfl,prims0_keep⟩,fun _ _ _ _ => rfl⟩
     have e1 : l = kA.flatMap Kr.cells:=by rw [sameI_eq _ _ s1];exact krI_cells _
     have e2 : l2 = kB.flatMap Kr.cells:=by rw [sameI_eq _ _ s2];exact krI_cells _
     have q1 : Ks h.anew (some ⟨b,o,none⟩) 39 kA:=⟨⟨rfl,b0',by rw [← e1];exact r1⟩,fun _ => rfl,by omega⟩
     have q2 : Ks h.anew (some ⟨b2,o2,none⟩) 40 kB:=⟨⟨rfl,b1',by rw [← e2];exact r2⟩,fun _ => rfl,by omega⟩
     have:=compose_ok hB (h:=h.anew) (Nat.le_refl _) (c:=c) (c2:=c2) q1 kA_64 q2 kB_64 (Q:=fun v h' => (∃ u,v = .tuple #[u,.int .i64 4]) ∧ h.next ≤ h'.low)
      (fun h' a' k c' out e hk _ hc hx => by
       obtain ⟨rfl,rfl⟩:=k_is hc
       refine ⟨⟨_,rfl⟩,?_⟩
       have:=hx.lowG
       have e : Nat.min h.anew.low h.anew.next = h.next:=Nat.min_self _
       rw [e] at this
       exact this)
     obtain ⟨v,h',hr,⟨u,rfl⟩,hl⟩:=this.ex
     refine ⟨.tuple #[u,.int .i64 4],h',.inr ⟨#[u,.int .i64 4],#[.chan none,.int .i64 4],rfl,rfl,rfl,fun i x w hx hw => ?_⟩,hr,hl⟩
     match i with
     | 0 => simp at hw;exact .inr hw.symm
     | 1 => simp at hx hw;subst hx;subst hw;exact .inl ⟨rfl,rfl⟩
     | n + 2 => simp at hx
   ·cases hf
  ·cases hf
def primsL : Prims:=withRead longF primsA
theorem primsL_ok : CallOK Try.prog primsL:=withRead_ok mixed prims0_ok prims0_keep named longF_ok primsA_ok
theorem primsL_keep : CallKeep primsL:=withRead_keep primsA_keep
end Go.Proofs.Ytnokkniofajnhaa
namespace Go.Proofs.Ytnokkniofajnhaa
open Go.Sim
set_option maxRecDepth 100000
theorem quantNamesRun : saysTrue ((execA Try.prog noHint primsL 20000).call 5 [] emptyH) = true:=by kernel_rfl
end Go.Proofs.Ytnokkniofajnhaa
