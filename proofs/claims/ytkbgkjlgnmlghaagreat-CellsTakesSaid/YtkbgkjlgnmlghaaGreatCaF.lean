import Derived.Test.YtkbgkjlgnmlghaaGreatCaE
set_option linter.unusedSimpArgs false
set_option linter.unusedVariables false
namespace Go.Proofs.YtkbgkjlgnmlghaaGreat
open Go.Sim
set_option linter.unusedVariables false
set_option maxRecDepth 100000
def Pk.w (e : Pk) : Rat:=rq e.n e.d
theorem parts_perm {n : Int} {s : Sk} (cu : Coord n s.un s.ud) (cv : Coord n s.vn s.vd) : (cands n s).Perm (partsR n s n):=by
 rw [List.perm_iff_count]
 intro a
 have nd1 : (cands n s).Nodup:=(cands_apart cu cv).imp (fun {a b} h e => h ⟨by rw [e],by rw [e]⟩)
 have nd2 : (partsR n s n).Nodup:=(partsR_sorted n s).imp (fun {a b} h e => by unfold ltP at h;rw [e] at h;omega)
 rw [List.Nodup.count nd1,List.Nodup.count nd2]
 simp only [same_mem cu cv]
theorem Coord.wf {n m k : Int} (h : Coord n m k) {i : Int} (hi : i = 0 ∨ i = 1) : ∃ a b,isF a b (wQ m k i) ∧ 0 ≤ a ∧ a ≤ 6 ∧ b ≤ 6:=by
 have rm:=h.rem;have k6:=h.c.2.2.1;have k1:=h.k1
 unfold wQ
 rcases hi with rfl | rfl
 ·rw [if_pos rfl];exact ⟨_,_,h.f0,by omega,by omega,k6⟩
 ·rw [if_neg (by omega)];exact ⟨_,_,h.f1,by omega,by omega,k6⟩
theorem Coord.wb {n m k : Int} (h : Coord n m k) {i : Int} (hi : i = 0 ∨ i = 1) : bnd (wQ m k i) 6 6:=by
 obtain ⟨a,b,f,h1,h2,h3⟩:=h.wf hi
 exact ⟨by have:=f.1;omega,by have:=f.2.1;omega⟩
structure PartF (n : Int) (e : Pk) : Prop where
 f : isF e.n e.d e.w
 n1 : 0 < e.n
 n2 : e.n ≤ 36
 d2 : e.d ≤ 36
 x0 : 0 ≤ e.x
 x1 : e.x < n
 y0 : 0 ≤ e.y
 y1 : e.y < n
theorem mkP_w {x y : Int} {w : Rat} (hf : fits w) : (mkP x y w).w = w:=by
 have : isF (mkP x y w).n (mkP x y w).d w:=⟨rfl,rfl,hf⟩
 exact this.rq
theorem partF {n : Int} {s : Sk} (cu : Coord n s.un s.ud) (cv : Coord n s.vn s.vd) {e : Pk} (he : e ∈ partsR n s n) : PartF n e:=by
 obtain ⟨i,j,hi,hj,w,rfl⟩:=mem_cands.1 ((same_mem cu cv e).2 he)
 have b:=(cu.wb hi).mul (cv.wb hj)
 have hf:=b.fits (by omega) (by omega)
 have n0:=cu.n0
 have p:=Rat.mul_nonneg (wQ_pos cu (i:=i)) (wQ_pos cv (i:=j))
 have pos : 0 < (wQ s.un s.ud i * wQ s.vn s.vd j).num:=(num_pos _).2 (by grind)
 have b1:=b.1
 have b2:=b.2
 refine ⟨?_,pos,?_,?_,Int.emod_nonneg _ (by omega),Int.emod_lt_of_pos _ (by omega),Int.emod_nonneg _ (by omega),Int.emod_lt_of_pos _ (by omega)⟩
 ·rw [mkP_w hf];exact ⟨rfl,rfl,hf⟩
 ·show (wQ s.un s.ud i * wQ s.vn s.vd j).num ≤ 36
  omega
 ·show (((wQ s.un s.ud i * wQ s.vn s.vd j).den : Nat) : Int) ≤ 36
  omega
theorem parts_few {n : Int} {s : Sk} (cu : Coord n s.un s.ud) (cv : Coord n s.vn s.vd) : 1 ≤ (partsR n s n).length ∧ (partsR n s n).length ≤ 4 ∧ (s.ud = 1 → s.vd = 1 → (partsR n s n).length = 1):=by
 have p:=(parts_perm cu cv).length_eq
 rw [← p]
 have c00:=cand_len n s 0 0
 have c10:=cand_len n s 1 0
 have c01:=cand_len n s 0 1
 have c11:=cand_len n s 1 1
 have ne:=List.length_pos_iff.2 (cands_ne (n:=n) (un:=s.un) (ud:=s.ud) (vn:=s.vn) (vd:=s.vd) cu cv)
 have len : (cands n s).length = (cand n s 0 0).length + (cand n s 1 0).length + (cand n s 0 1).length + (cand n s 1 1).length:=by unfold cands;simp only [List.length_append]
 have ne : 0 < (cands n s).length:=ne
 refine ⟨by omega,by omega,fun h1 h2 => ?_⟩
 have z : ∀ m : Int,wQ m 1 1 = 0:=fun m => by unfold wQ rq;rw [if_neg (by omega),Int.emod_one,Rat.div_def];simp
 have e10 : cand n s 1 0 = []:=by unfold cand;rw [h1,z,if_pos (by grind)]
 have e01 : cand n s 0 1 = []:=by unfold cand;rw [h2,z,if_pos (by grind)]
 have e11 : cand n s 1 1 = []:=by unfold cand;rw [h2,z,if_pos (by grind)]
 rw [e10,e01,e11] at len
 simp only [List.length_nil] at len
 omega
end Go.Proofs.YtkbgkjlgnmlghaaGreat
