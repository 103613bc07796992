import Derived.Test.YtmkiclinllifiaaSymC
import Derived.DataReads
import Derived.ChangeShapes
import Derived.WideShapes
import Derived.Test.YtmkiclinllifiaaCyB
set_option linter.unusedSimpArgs false
set_option linter.unusedVariables false
namespace Go.Sim
open Go.RowKit
def isCells(w:World)(b:Nat):Bool:=
 match w.heap[b]? with
 |some (.cells _ _ _)=>true
 |_=>false
def repV(w:World):Value->Bool
 | .slice (some a) _ c=>a.spot.isNone && decide (c<slack) && isCells w a.block
 | .pointer (some a)=>a.spot.isNone && isCells w a.block
 |v=>flat1 v
def oddE:Value:=.slice (some ⟨0,0,some 0⟩) 0 0
def absV(w:World)(v:Value):Value:=
 if repV w v then v else
 match v with
 | .slice (some _) 0 0=>oddE
 |_=>.chan none
def worldG(w:World)(b:Nat):Option Loc:=
 match w.heap[b]? with
 |some (.cells cs _ _)=>some ⟨b,0,cs.size,1⟩
 |_=>none
def absB(w:World)(b:Nat):Option Blk:=
 match w.heap[b]? with
 |some (.cells cs _ _)=>some (.live false 1 (cs.toList.map (absV w)))
 |_=>none
theorem worldG_of{w:World}{b:Nat}(h:isCells w b=true):∃n,worldG w b=some ⟨b,0,n,1⟩:=by
 unfold isCells at h;split at h
 ·rename_i cs e fr hb;exact⟨cs.size,by unfold worldG;rw[hb]⟩
 ·cases h
theorem repV_ok{w:World}{v:Value}(h:repV w v=true):VG (worldG w) v v:=by
 unfold repV at h;split at h
 ·rename_i a len c
  simp only[Bool.and_eq_true,decide_eq_true_eq,Option.isNone_iff_eq_none]at h;obtain⟨⟨hs,hc⟩,hb⟩:=h;obtain⟨n,hg⟩:=worldG_of hb;have:=VG.sliceX (g:=worldG w) a _ len c hs hg hc;obtain⟨b,o,sp⟩:=a;simp only at hs;subst hs;simpa using this
 ·rename_i a
  simp only[Bool.and_eq_true,Option.isNone_iff_eq_none]at h;obtain⟨hs,hb⟩:=h;obtain⟨n,hg⟩:=worldG_of hb;have:=VG.ptr (g:=worldG w) a _ hs hg;obtain⟨b,o,sp⟩:=a;simp only at hs;subst hs;simpa using this
 ·exact .flat _ h
theorem absV_ok(w:World)(v:Value):VG (worldG w) (absV w v) v:=by
 unfold absV;split
 ·rename_i h;exact repV_ok h
 ·split
  ·exact .sliceE _ _ 0 rfl
  ·exact .junk _
theorem world_ok (w : World) : ∃ h : AHeap, HR ⟨worldG w, fun _ => none⟩ (St0 h) w ∧ h.low = h.next ∧ h.next = w.heap.size ∧ ∀ b, b < w.heap.size → h.m.get b = absB w b := by
  obtain ⟨t, ht⟩ := Tri.exists_get (absB w) w.heap.size
  have hb : ∀ id L, worldG w id = some L → ∃ cs e fr, w.heap[id]? = some (.cells cs e fr) ∧ L = ⟨id, 0, cs.size, 1⟩ := by
    intro id L h
    unfold worldG at h
    split at h
    · rename_i cs e fr hb; exact ⟨cs, e, fr, hb, by simpa using h.symm⟩
    · cases h
  have hlt : ∀ id L, worldG w id = some L → id < w.heap.size := fun id L h => by
    obtain ⟨cs, e, fr, h1, _⟩ := hb id L h
    exact (Array.getElem?_eq_some_iff.1 h1).1
  refine ⟨{ next := w.heap.size, low := w.heap.size, m := t }, ?_, rfl, rfl, fun b h => by simp only []; rw [ht, if_pos h]⟩
  exact
    { gdom := fun id L h => hlt id L h
      gblk := fun id L h => by
        obtain ⟨cs, e, fr, h1, rfl⟩ := hb id L h
        exact ⟨_, h1, fun cs' e' fr' q => by cases q; rfl⟩
      gcon := fun id L b h hm => by
        obtain ⟨cs, e, fr, h1, rfl⟩ := hb id L h
        have h2 : t.get id = some b := hm
        rw [ht, if_pos (hlt id _ h)] at h2
        unfold absB at h2
        rw [h1] at h2
        simp only [oi] at h2
        subst h2
        refine ⟨rfl, cs, e, fr, h1, ?_, fun hw => by cases hw⟩
        intro i v hv
        rw [List.getElem?_map] at hv
        cases hc : cs.toList[i]? with
        | none => rw [hc] at hv; cases hv
        | some c =>
          rw [hc] at hv
          simp only [Option.map_some, oi] at hv
          subst hv
          exact ⟨c, by simpa using hc, absV_ok w c⟩
      ginj := fun id id' L L' b b' h h' _ _ _ _ e => by
        obtain ⟨cs, e1, fr, h1, rfl⟩ := hb id L h
        obtain ⟨cs', e1', fr', h1', rfl⟩ := hb id' L' h'
        exact e
      ldom := (fun t L h => by cases h), lcon := (fun t L h => by cases h), linj := (fun t t' L L' h => by cases h), sep := (fun id t L L' _ h => by cases h) }
theorem law_calls{P : Program}{H : Hint}{F : Prims}(hm : P.follows .mixedOrders = true)(hF : CallOK P F)(hFk : CallKeep F)(hname : ∀ (g : FuncId) (fn : Func), P.funcs[g]? = some fn → (fn.name == "runtime.NumGoroutine") = false){g : FuncId}{fn : Func}(hf : P.funcs[g]? = some fn)(hb : fn.body.isSome = true)(hg : g < yieldBase)
  {w:World} {h:AHeap} (hR:HR ⟨worldG w,fun _=>none⟩ (St0 h) w) (hlow:h.low=h.next) (hnext:h.next=w.heap.size) {args:List Value} (hargs:∀v∈args,repV w v=true)
  (hw:(atomsOf P H F).call g args h (fun v h'=>v=.bool true/\Ext h h')) :
  Calls P g args.toArray w fun e w'=>e=.returned (.bool true)/\Below w.heap.size w w':=by
 obtain⟨v,h',hr,rfl,hE⟩:=hw.ex;have hA:VGs (worldG w) args args:=⟨rfl,fun i u v hu hv=>by
  rw[hu]at hv;cases hv;exact repV_ok (hargs u (List.mem_of_getElem? hu))⟩
 have hd:=hr.ok hm hF hFk hname hg hR hA;refine(hd.calls hf hb (hname g fn hf)).mono ?_;rintro e w' ⟨c,rfl,G',hv,hG,_⟩;rw[hv.bool];refine⟨rfl,hG.os,hG.tape,hG.output,hG.size,fun k hk=>hG.frame k hk (fun id L hid hLb=>?_) (fun t L h=>by cases h)⟩;have h1:=hE.lowG;have h2:h.next<=h'.low:=by
  rw[hlow]at h1;have:Nat.min h.next h.next=h.next:=Nat.min_self _;omega
 have h3:id<h.next:=hR.gdom id L hid;show id<h'.low;omega
end Go.Sim
namespace Go.Sim
open Go.RowKit
def repC(w:World):Value->Bool
 | .agg cs=>cs.toList.all (repV w)
 |v=>repV w v
theorem repC_ok{w:World}{v:Value}(h:repC w v=true):VG (worldG w) v v:=by
 unfold repC at h;split at h
 ·refine .agg _ _ rfl (fun i u v hu hv=>?_)
  rw[hu]at hv;obtain rfl:=Option.some.inj hv;exact repV_ok (List.all_eq_true.1 h u (List.mem_of_getElem? hu))
 ·exact repV_ok h
theorem repCs{w:World}{args:List Value}(h:args.all (repC w)=true):VGs (worldG w) args args:=⟨rfl,fun i u v hu hv=>by
 rw[hu]at hv;obtain rfl:=Option.some.inj hv;exact repC_ok (List.all_eq_true.1 h u (List.mem_of_getElem? hu))⟩
theorem law_calls2{P : Program}{H : Hint}{F : Prims}(hm : P.follows .mixedOrders = true)(hF : CallOK P F)(hFk : CallKeep F)(hname : ∀ (g : FuncId) (fn : Func), P.funcs[g]? = some fn → (fn.name == "runtime.NumGoroutine") = false){g : FuncId}{fn : Func}(hf : P.funcs[g]? = some fn)(hb : fn.body.isSome = true)(hg : g < yieldBase)
  {w:World} {h:AHeap} (hR:HR ⟨worldG w,fun _=>none⟩ (St0 h) w) (hlow:h.low=h.next) (hnext:h.next=w.heap.size) {args:List Value} (hA:VGs (worldG w) args args)
  (hw:(atomsOf P H F).call g args h (fun v h'=>v=.bool true/\Ext h h')) :
  Calls P g args.toArray w fun e w'=>e=.returned (.bool true)/\Below w.heap.size w w':=by
 obtain⟨v,h',hr,rfl,hE⟩:=hw.ex;have hd:=hr.ok hm hF hFk hname hg hR hA;refine(hd.calls hf hb (hname g fn hf)).mono ?_;rintro e w' ⟨c,rfl,G',hv,hG,_⟩;rw[hv.bool];refine⟨rfl,hG.os,hG.tape,hG.output,hG.size,fun k hk=>hG.frame k hk (fun id L hid hLb=>?_) (fun t L h=>by cases h)⟩;have h1:=hE.lowG;have h2:h.next<=h'.low:=by
  rw[hlow]at h1;have:Nat.min h.next h.next=h.next:=Nat.min_self _;omega
 have h3:id<h.next:=hR.gdom id L hid;show id<h'.low;omega
end Go.Sim
namespace Go.Proofs.Ytmkiclinllifiaa
open Go.Sim
set_option maxRecDepth 100000
def stS(l:List Vk):Int->Prop:=fun x=>∃v∈l,x=v.i\/x=v.j
theorem RMap.putN{S:Int->Prop}{M M':List (Int×Bool)}{R:Int->Bool}(h:RMap S M R){s:Int}{b:Bool}(h1:∀k,getL M' k=if k=s then some b else getL M k)(h2:getL M s=none->M'=M++[(s,b)])(h3:∀u,getL M s=some u->M'.map (·.1)=M.map (·.1)):RMap (fun x=>S x\/x=s) M' (fun x=>if x=s then b else R x):=by
 refine⟨?_,fun x=>?_,fun x=>?_⟩
 ·cases c:getL M s with
  |some u=>rw[h3 u c];exact h.nd
  |none=>
   rw[h2 c];simp only[List.map_append,List.map_cons,List.map_nil];rw[List.nodup_append];refine⟨h.nd,List.nodup_cons.2 ⟨by simp,List.nodup_nil⟩,fun a ha b' hb=>?_⟩;rw[List.mem_singleton.1 hb];obtain⟨e,he,rfl⟩:=List.mem_map.1 ha;exact getL_none.1 c e he
 ·rw[h1]
  by_cases c:x=s
  ·rw[if_pos c];exact⟨fun _=>.inr c,fun _=>rfl⟩
  ·rw[if_neg c,h.keys];exact⟨.inl,fun q=>q.elim id (fun q=>absurd q c)⟩
 ·rw[h1]
  by_cases c:x=s
  ·simp only[if_pos c];cases b<;>simp
  ·simp only[if_neg c];exact h.val x
theorem RMap.of{S S':Int->Prop}{M:List (Int×Bool)}{R R':Int->Bool}(h:RMap S M R)(hs:∀x,S x↔S' x)(hr:∀x,R x=R' x):RMap S' M R':=
 ⟨h.nd,fun x=>(h.keys x).trans (hs x),fun x=>(hr x).symm.trans (h.val x)⟩
theorem RMap.nil:RMap (fun _=>False) [] (fun _=>false):=⟨by simp,fun x=>by simp[getL],fun x=>by simp[getL]⟩
theorem pushB_eq(h:AHeap)(x:Blk):(h.pushB x).m.get h.next=some x:=by
 show(h.m.set _ _).get _=_;rw[Tri.get_set_eq]
theorem pushB_ne(h:AHeap)(x:Blk){i:Nat}(hi:i<h.next):(h.pushB x).m.get i=h.m.get i:=by
 show(h.m.set _ _).get _=_;rw[Tri.get_set_ne _ _ (by omega)]
theorem _root_.Go.Sim.Ext.pushB(h:AHeap)(x:Blk):Ext h (h.pushB x):=
 ⟨Nat.le_succ _,fun l=>by show h.low<=h.next+1;omega,Nat.min_le_left _ _,fun _ hi=>pushB_ne h x hi⟩
variable{F:Prims}{call head arith a0 b0 c0 d0 e0 f0 g0 j0 k0 l0 m0 n0 nz o0 rd wr p0 next q0 r0 s0 t0 u0 v0 w0 x0 y0 z0 a1 b1 d1 f1 j1 k1 l1 m1 lt ne o1 t1 u1 yn v1 w1 y1 z1 a2 b2 d2 f2:_}(hA:AP F ⟨call,head,arith,a0,b0,c0,d0,e0,f0,g0,j0,k0,l0,m0,n0,nz,o0,rd,wr,p0,next,q0,r0,s0,t0,u0,v0,w0,x0,y0,z0,a1,b1,d1,f1,j1,k1,l1,m1,lt,ne,o1,t1,u1,yn,v1,w1,y1,z1,a2,b2,d2,f2⟩)
include hA
theorem st_loop{h0:AHeap}{a:Option Addr}{n c:Nat}{N:Int}(hN:N=n){l:List Vk}(hl:Vs h0 a n l)(hn:n<=1000){id:Nat}(hid0:h0.next<=id){Q:Exit->SS->Prop}
  (hQ:∀h' M,h'.m.get id=some (.map (encE intK boolK M))->RMap (stS l) M (fun _=>false)->Ext h0 h'->id<h'.next->Q (.exit 0) ⟨[(3,.map (some id))],0,[],h'⟩) :
  ∀(m:Nat) (i:Int) (h:AHeap) (M:List (Int×Bool)),(n-i).toNat<=m->0<=i->i<=n->h.m.get id=some (.map (encE intK boolK M))->RMap (stS (l.take i.toNat)) M (fun _=>false)->Ext h0 h->id<h.next->
   head 43 3 0 ⟨[(3,.map (some id)),(7,.slice a n c),(8,.int .i64 N),(9,.int .i64 i)],0,[],h⟩ Q:=by
 have hlen:=hl.len;refine upTo (fun m ih=>?_);intro i h M hm i0 i1 hg hR he hb;by_cases ci:i<n
 rotate_left
 ·refine hA.roundR Try.func43 r43_ok (zc ?_)
  refine br (i<N) (by rw[e_lss hA]) (fun c1=>by omega) (fun c1=>?_)<;>refine zc ?_;rw[List.take_of_length_le (by omega)]at hR;exact hQ h M hg hR he hb
 obtain⟨m,rfl⟩:∃k,m=k+1:=⟨m-1,by omega⟩
 replace ih:=ih m rfl
 obtain⟨bb,o,x,y,z,u,d,w,rfl,hbb,hgt,r1,_⟩:=vs_at (hl.ext he) (i:=i) i0 ci;have q1:=rd_ok hA r1;have e2:arith .add .i64 i 1=i+1:=add64 hA (by omega) (by omega);refine hA.roundR Try.func43 r43_ok (zc ?_);refine br (i<N) (by rw[e_lss hA]) (fun c1=>?_) (fun c1=>by omega)<;>refine zc ?_;refine zq ?_;refine⟨_,_,_,_,_,_,q1,?_⟩;refine zq ?_;obtain⟨M1,p1,p2,p3,p4⟩:=put_enc mIB hg x false;obtain⟨h1,hh1⟩:∃z,z=h.putB id (.map (encE intK boolK M1)):=⟨_,rfl⟩;rw[<-hh1]at p1;refine⟨h1,(e_mput hA _ _ _ _ _ _).mpr p1,?_⟩;refine zc ?_;have g1:h1.m.get id=some (.map (encE intK boolK M1)):=by rw[hh1];exact putB_eq _
 have x1:Ext h0 h1:=by rw[hh1];exact he.putB hid0 _
 have n1:h1.next=h.next:=by rw[hh1];rfl
 obtain⟨M2,s1,s2,s3,s4⟩:=put_enc mIB g1 y false;obtain⟨h2,hh2⟩:∃z,z=h1.putB id (.map (encE intK boolK M2)):=⟨_,rfl⟩;rw[<-hh2]at s1;refine⟨h2,(e_mput hA _ _ _ _ _ _).mpr s1,?_⟩;refine zc ?_;rw[e2];refine ih (i+1) h2 M2 (by omega) (by omega) (by omega) (by rw[hh2];exact putB_eq _) ?_ (by rw[hh2];exact x1.putB hid0 _) (by rw[hh2];show id<h1.next;omega);refine((hR.putN p2 p3 p4).putN s2 s3 s4).of (fun k=>?_) (fun k=>?_)
 ·rw[gt_take l i0 (by omega),hgt]
  unfold stS;constructor
  ·rintro((⟨v,hv,h⟩|h)|h)
   ·exact⟨v,List.mem_append_left _ hv,h⟩
   ·exact⟨⟨x,y,z,u,d,w⟩,List.mem_append_right _ (List.mem_singleton.2 rfl),.inl h⟩
   ·exact⟨⟨x,y,z,u,d,w⟩,List.mem_append_right _ (List.mem_singleton.2 rfl),.inr h⟩
  ·rintro⟨v,hv,h⟩
   rcases List.mem_append.1 hv with hv|hv
   ·exact .inl (.inl ⟨v,hv,h⟩)
   ·rw[List.mem_singleton.1 hv]at h
    exact h.elim (fun h=>.inl (.inr h)) .inr
 ·by_cases c1:k=y
  ·rw[if_pos c1]
  ·rw[if_neg c1]
   by_cases c2:k=x
   ·rw[if_pos c2]
   ·rw[if_neg c2]
theorem stations_ok{h:AHeap}(hlow:h.low<=h.next){a:Option Addr}{n c:Nat}{l:List Vk}(hl:Vs h a n l)(hn:n<=1000){Q:Value->AHeap->Prop}
  (hQ:∀h' id M,h'.m.get id=some (.map (encE intK boolK M))->RMap (stS l) M (fun _=>false)->Ext h h'->h.next<=id->id<h'.next->Q (.map (some id)) h') :
  call 43 [.slice a n c] h Q:=by
 refine hA.bodyR Try.func43 r43_ok (hA.alike _ _ _ rfl) hlow (zc ?_);simp only[e_next hA,e_ofNat hA,e_mnew hA];refine st_loop hA rfl hl hn (Nat.le_refl _) (fun h' M q1 q2 q3 q4=>?_) n 0 _ [] (by omega) (by omega) (by omega) (pushB_eq _ _) ?_ (Ext.pushB _ _) (by show h.next<h.next+1;omega)
 ·refine zc ?_
  exact hQ h' _ M q1 q2 q3 (Nat.le_refl _) q4
 ·refine RMap.nil.of (fun x=>?_) (fun _=>rfl)
  unfold stS;simp
