import Derived.Test.YtlimjlpjldijdaaSimD
set_option linter.unusedSimpArgs false
set_option linter.unusedVariables false
namespace Go.Sim
def withF(g0:FuncId)(f:List Value->AHeap->Option (Value×AHeap))(F:Prims):Prims:=fun g args h=>bif Nat.beq g g0 then f args h else F g args h
def flagsOf:List (Value×Value)->Option (List (Int×Bool))
 | []=>some []
 |e :: r=>
  match e.1,e.2,flagsOf r with
  | .int .i64 n,.bool b,some l=>bif decide (0<=n)then some ((n,b) :: l)else none
  |_,_,_=>none
def leastOf:List (Int×Bool)->Int
 | []=>-1
 |(n,b) :: r=>bif b then leastOf r else bif decide (leastOf r<0) || decide (n<leastOf r)then n else leastOf r
def leastF(args:List Value)(h:AHeap):Option (Value×AHeap):=
 match args with
 | [.map (some id)]=>
  match h.m.get id with
  |some (.map es)=>match flagsOf es with|some l=>some (.int .i64 (leastOf l),h)|none=>none
  |_=>none
 |_=>none
def pairsOf:List (Value×Value)->Option (List (Int×Int))
 | []=>some []
 |e :: r=>
  match e.1,pairsOf r with
  | .agg ⟨[.int .i64 a,.int .i64 b]⟩,some l=>some ((a,b) :: l)
  |_,_=>none
def hasV:List (Int×Int)->Int->Bool
 | [],_=>false
 |p :: r,x=>decide (p.1=x) || decide (p.2=x) || hasV r x
def grows:List (Int×Int)->Bool
 | []=>true
 |(a,b) :: r=>!(decide (a=b)) && (!(hasV r a) || !(hasV r b)) && grows r
def pathR:List (Int×Int)->Int->Int->Option (List Int)
 | [],x,y=>bif decide (x=y)then some [x] else none
 |(a,b) :: r,x,y=>
  bif decide (x=y)then some [x] else
  let l:=bif hasV r b then a else b
  let o:=bif hasV r b then b else a
  bif decide (x=l)then(match pathR r o y with|some p=>some (l :: p)|none=>none)
  else bif decide (y=l)then(match pathR r x o with|some p=>some (p++[l])|none=>none)
  else pathR r x y
def wayF(args:List Value)(h:AHeap):Option (Value×AHeap):=
 match args with
 | [.map (some id),.int .i64 x,.int .i64 y]=>
  match h.m.get id with
  |some (.map es)=>
   match pairsOf es with
   |some l=>
    bif grows l.reverse && Nat.ble l.length 1000 then
     match pathR l.reverse x y with
     |some p=>some (.slice (some ⟨h.next,0,none⟩) p.length (someCap 1 p.length),h.push 1 (p.map (.int .i64)))
     |none=>some (.slice none 0 0,h)
    else none
   |none=>none
  |_=>none
 |_=>none
end Go.Sim
namespace Go.Sim
theorem hasV_cons(p:Int×Int)(r:List (Int×Int))(x:Int):hasV (p :: r) x=true↔p.1=x\/p.2=x\/hasV r x=true:=by
 simp only[hasV,Bool.or_eq_true,decide_eq_true_eq,or_assoc]
theorem hasV_mem:∀{r:List (Int×Int)} {x:Int},hasV r x=true↔∃p∈r,p.1=x\/p.2=x
 | [],x=>by simp[hasV]
 |p :: r,x=>by
  rw[hasV_cons,hasV_mem];simp only[List.mem_cons,exists_eq_or_imp];constructor
  ·rintro(h|h|h);exact .inl (.inl h);exact .inl (.inr h);exact .inr h
  ·rintro((h|h)|h);exact .inl h;exact .inr (.inl h);exact .inr (.inr h)
def Adj(T:List (Int×Int))(a b:Int):Prop:=(a,b)∈T\/(b,a)∈T
theorem Adj.symm{T:List (Int×Int)}{a b:Int}(h:Adj T a b):Adj T b a:=Or.symm h
theorem Adj.v1{T:List (Int×Int)}{a b:Int}(h:Adj T a b):hasV T a=true:=by
 rcases h with h|h
 ·exact hasV_mem.2 ⟨_,h,.inl rfl⟩
 ·exact hasV_mem.2 ⟨_,h,.inr rfl⟩
theorem Adj.v2{T:List (Int×Int)}{a b:Int}(h:Adj T a b):hasV T b=true:=h.symm.v1
theorem Adj.cons{p:Int×Int}{T:List (Int×Int)}{a b:Int}(h:Adj T a b):Adj (p :: T) a b:=h.imp (List.mem_cons_of_mem _) (List.mem_cons_of_mem _)
structure Leaf(a b:Int)(r:List (Int×Int))(l o:Int):Prop where
 new:hasV r l=false
 ne:l≠o
 is:(a=l/\b=o)\/(a=o/\b=l)
 path:∀x y,pathR ((a,b) :: r) x y=if x=y then some [x] else if x=l then(pathR r o y).map (l :: ·)else if y=l then(pathR r x o).map (·++[l])else pathR r x y
theorem leaf_of{a b:Int}{r:List (Int×Int)}(h:grows ((a,b) :: r)=true):∃l o,Leaf a b r l o:=by
 simp only[grows,Bool.and_eq_true,Bool.or_eq_true,Bool.not_eq_true',decide_eq_false_iff_not]at h;obtain⟨⟨h1,h2⟩,h3⟩:=h;have key:∀l o x y:Int,(bif decide (x=y)then some [x] else bif decide (x=l)then(match pathR r o y with|some p=>some (l :: p)|none=>none)else bif decide (y=l)then(match pathR r x o with|some p=>some (p++[l])|none=>none)else pathR r x y)
   = if x=y then some [x] else if x=l then(pathR r o y).map (l :: ·)else if y=l then(pathR r x o).map (·++[l])else pathR r x y:=by
  intro l o x y;by_cases c1:x=y
  ·simp only[c1,decide_true,cond_true,if_true]
  ·rw[if_neg c1]
   simp only[c1,decide_false,cond_false];by_cases c2:x=l
   ·rw[if_pos c2]
    simp only[c2,decide_true,cond_true];cases pathR r o y<;>rfl
   ·rw[if_neg c2]
    simp only[c2,decide_false,cond_false];by_cases c3:y=l
    ·rw[if_pos c3]
     simp only[c3,decide_true,cond_true];cases pathR r x o<;>rfl
    ·rw[if_neg c3]
     simp only[c3,decide_false,cond_false]
 cases hb:hasV r b with
 |true=>
  refine⟨a,b,(by rcases h2 with h2|h2;exact h2;rw[hb]at h2;cases h2),h1,.inl ⟨rfl,rfl⟩,fun x y=>?_⟩;rw[<-key];simp only[pathR,hb,cond_true];all_goals rfl
 |false=>
  refine⟨b,a,hb,Ne.symm h1,.inr ⟨rfl,rfl⟩,fun x y=>?_⟩;rw[<-key];simp only[pathR,hb,cond_false];all_goals rfl
theorem grows_tail{p:Int×Int}{r:List (Int×Int)}(h:grows (p :: r)=true):grows r=true:=by
 obtain⟨a,b⟩:=p;simp only[grows,Bool.and_eq_true]at h;exact h.2
theorem path_self(T:List (Int×Int))(x:Int):pathR T x x=some [x]:=by
 cases T with
 |nil=>simp[pathR]
 |cons p r=>obtain⟨a,b⟩:=p;simp[pathR]
variable{T:List (Int×Int)}
theorem path_mem:∀{T:List (Int×Int)},grows T=true->∀{x y:Int} {p:List Int},pathR T x y=some p->∀u∈p,(x=y/\u=x)\/hasV T u=true
 | [],_,x,y,p,h,u,hu=>by
  by_cases c:x=y
  ·subst c
   rw[path_self]at h;obtain rfl:=Option.some.inj h;exact .inl ⟨rfl,List.mem_singleton.1 hu⟩
  ·simp[pathR,c]at h
 |(a,b) :: r,hg,x,y,p,h,u,hu=>by
  obtain⟨l,o,L⟩:=leaf_of hg;have ih:=fun {x y:Int} {p:List Int}=>path_mem (grows_tail hg) (x:=x) (y:=y) (p:=p)
  have hl:hasV ((a,b) :: r) l=true:=by rw[hasV_cons];rcases L.is with ⟨rfl,_⟩|⟨_,rfl⟩;exact .inl rfl;exact .inr (.inl rfl)
  have ho:hasV ((a,b) :: r) o=true:=by rw[hasV_cons];rcases L.is with ⟨_,rfl⟩|⟨rfl,_⟩;exact .inr (.inl rfl);exact .inl rfl
  have up:hasV r u=true->hasV ((a,b) :: r) u=true:=fun q=>by rw[hasV_cons];exact .inr (.inr q)
  rw[L.path]at h;by_cases c1:x=y
  ·rw[if_pos c1]at h
   obtain rfl:=Option.some.inj h;exact .inl ⟨c1,List.mem_singleton.1 hu⟩
  rw[if_neg c1]at h;right;by_cases c2:x=l
  ·rw[if_pos c2,Option.map_eq_some_iff]at h
   obtain⟨q,hq,rfl⟩:=h;rcases List.mem_cons.1 hu with rfl|hu
   ·exact hl
   ·rcases ih hq u hu with ⟨_,rfl⟩|q
    ·exact ho
    ·exact up q
  rw[if_neg c2]at h;by_cases c3:y=l
  ·rw[if_pos c3,Option.map_eq_some_iff]at h
   obtain⟨q,hq,rfl⟩:=h;rcases List.mem_append.1 hu with hu|hu
   ·rcases ih hq u hu with ⟨e,rfl⟩|q
    ·rw[e];exact ho
    ·exact up q
   ·rw[List.mem_singleton.1 hu];exact hl
  rw[if_neg c3]at h;rcases ih h u hu with ⟨e,_⟩|q
  ·exact absurd e c1
  ·exact up q
theorem path_ends:∀{T:List (Int×Int)},grows T=true->∀{x y:Int} {p:List Int},pathR T x y=some p->(∃q,p=x :: q)/\∃q,p=q++[y]
 | [],_,x,y,p,h=>by
  by_cases c:x=y
  ·subst c
   rw[path_self]at h;obtain rfl:=Option.some.inj h;exact⟨⟨[],rfl⟩,[],rfl⟩
  ·simp[pathR,c]at h
 |(a,b) :: r,hg,x,y,p,h=>by
  obtain⟨l,o,L⟩:=leaf_of hg;have ih:=fun {x y:Int} {p:List Int}=>path_ends (grows_tail hg) (x:=x) (y:=y) (p:=p)
  rw[L.path]at h;by_cases c1:x=y
  ·rw[if_pos c1]at h
   obtain rfl:=Option.some.inj h;exact⟨⟨[],rfl⟩,[],by rw[c1];rfl⟩
  rw[if_neg c1]at h;by_cases c2:x=l
  ·rw[if_pos c2,Option.map_eq_some_iff]at h
   obtain⟨q,hq,rfl⟩:=h;obtain⟨_,t,ht⟩:=ih hq;exact⟨⟨q,by rw[c2]⟩,l :: t,by rw[ht];rfl⟩
  rw[if_neg c2]at h;by_cases c3:y=l
  ·rw[if_pos c3,Option.map_eq_some_iff]at h
   obtain⟨q,hq,rfl⟩:=h;obtain⟨⟨t,ht⟩,_⟩:=ih hq;exact⟨⟨t++[l],by rw[ht];rfl⟩,q,by rw[c3]⟩
  rw[if_neg c3]at h;exact ih h
theorem path_one{x y z:Int}(hg:grows T=true)(h:pathR T x y=some [z]):x=y:=by
 obtain⟨⟨q,h1⟩,q2,h2⟩:=path_ends hg h;cases q2 with
 |nil=>simp at h1 h2;rw[<-h1.1,h2]
 |cons a q2=>simp at h2
theorem path_len:∀{T:List (Int×Int)},grows T=true->∀{x y:Int} {p:List Int},pathR T x y=some p->p.length<=T.length+1
 | [],_,x,y,p,h=>by
  by_cases c:x=y
  ·subst c
   rw[path_self]at h;obtain rfl:=Option.some.inj h;simp
  ·simp[pathR,c]at h
 |(a,b) :: r,hg,x,y,p,h=>by
  obtain⟨l,o,L⟩:=leaf_of hg;have ih:=fun {x y:Int} {p:List Int}=>path_len (grows_tail hg) (x:=x) (y:=y) (p:=p)
  rw[L.path]at h;simp only[List.length_cons];by_cases c1:x=y
  ·rw[if_pos c1]at h
   obtain rfl:=Option.some.inj h;simp
  rw[if_neg c1]at h;by_cases c2:x=l
  ·rw[if_pos c2,Option.map_eq_some_iff]at h
   obtain⟨q,hq,rfl⟩:=h;have:=ih hq;simp;omega
  rw[if_neg c2]at h;by_cases c3:y=l
  ·rw[if_pos c3,Option.map_eq_some_iff]at h
   obtain⟨q,hq,rfl⟩:=h;have:=ih hq;simp;omega
  rw[if_neg c3]at h;have:=ih h;omega
theorem path_step:∀{T:List (Int×Int)},grows T=true->∀{i j y:Int} {p:List Int},Adj T i j->pathR T i y=some p->j∉p->pathR T j y=some (j :: p)
 | [],_,i,j,y,p,ha,h,hj=>by rcases ha with ha|ha<;>cases ha
 |(a,b) :: r,hg,i,j,y,p,ha,h,hj=>by
  obtain⟨l,o,L⟩:=leaf_of hg;have ih:=fun {i j y:Int} {p:List Int}=>path_step (grows_tail hg) (i:=i) (j:=j) (y:=y) (p:=p)
  have ends:=path_ends hg h;have hy:y∈p:=by obtain⟨_,q,rfl⟩:=ends;simp
  have hi:i∈p:=by obtain⟨⟨q,rfl⟩,_⟩:=ends;simp
  have hjy:j≠y:=fun e=>hj (e ▸ hy)
  have hji:j≠i:=fun e=>hj (e ▸ hi)
  have cases3:(i=l/\j=o)\/(i=o/\j=l)\/Adj r i j:=by
   rcases ha with ha|ha
   ·rcases List.mem_cons.1 ha with e|ha
    ·have e1:i=a:=congrArg Prod.fst e
     have e2:j=b:=congrArg Prod.snd e;rcases L.is with ⟨h1,h2⟩|⟨h1,h2⟩
     ·exact .inl ⟨e1.trans h1,e2.trans h2⟩
     ·exact .inr (.inl ⟨e1.trans h1,e2.trans h2⟩)
    ·exact .inr (.inr (.inl ha))
   ·rcases List.mem_cons.1 ha with e|ha
    ·have e1:j=a:=congrArg Prod.fst e
     have e2:i=b:=congrArg Prod.snd e;rcases L.is with ⟨h1,h2⟩|⟨h1,h2⟩
     ·exact .inr (.inl ⟨e2.trans h2,e1.trans h1⟩)
     ·exact .inl ⟨e2.trans h2,e1.trans h1⟩
    ·exact .inr (.inr (.inr ha))
  rw[L.path]at h ⊢;rw[if_neg hjy];rcases cases3 with ⟨rfl,rfl⟩|⟨rfl,rfl⟩|ha
  ·
   by_cases c1:i=y
   ·rw[if_pos c1]at h
    obtain rfl:=Option.some.inj h;rw[if_neg hji,if_pos c1.symm,path_self];rfl
   ·rw[if_neg c1,if_pos rfl,Option.map_eq_some_iff]at h
    obtain⟨q,hq,rfl⟩:=h;obtain⟨⟨t,rfl⟩,_⟩:=path_ends (grows_tail hg) hq;exact absurd (List.mem_cons_of_mem _ List.mem_cons_self) hj
  ·
   rw[if_pos rfl];by_cases c1:i=y
   ·rw[if_pos c1]at h
    obtain rfl:=Option.some.inj h;subst c1;rw[path_self];rfl
   ·rw[if_neg c1,if_neg (Ne.symm hji),if_neg (Ne.symm hjy)]at h
    rw[h];rfl
  ·have hil:i≠l:=fun e=>by have:=ha.v1;rw[e,L.new]at this;cases this
   have hjl:j≠l:=fun e=>by have:=ha.v2;rw[e,L.new]at this;cases this
   rw[if_neg hjl];by_cases c1:i=y
   ·rw[if_pos c1]at h
    obtain rfl:=Option.some.inj h;subst c1;rw[if_neg hil];exact ih ha (path_self r i) hj
   ·rw[if_neg c1,if_neg hil]at h
    by_cases c3:y=l
    ·rw[if_pos c3,Option.map_eq_some_iff]at h
     obtain⟨q,hq,rfl⟩:=h;rw[if_pos c3,ih ha hq (fun hm=>hj (List.mem_append_left _ hm))];rfl
    ·rw[if_neg c3]at h ⊢
     exact ih ha h hj
theorem path_rest:∀{T:List (Int×Int)},grows T=true->∀{x y z:Int} {q:List Int},pathR T x y=some (x :: z :: q)->pathR T z y=some (z :: q)/\Adj T x z
 | [],_,x,y,z,q,h=>by
  by_cases c:x=y
  ·subst c
   rw[path_self]at h;simp at h
  ·simp[pathR,c]at h
 |(a,b) :: r,hg,x,y,z,q,h=>by
  obtain⟨l,o,L⟩:=leaf_of hg;have ih:=fun {x y z:Int} {q:List Int}=>path_rest (grows_tail hg) (x:=x) (y:=y) (z:=z) (q:=q)
  have lo:Adj ((a,b) :: r) l o:=by rcases L.is with ⟨rfl,rfl⟩|⟨rfl,rfl⟩;exact .inl List.mem_cons_self;exact .inr List.mem_cons_self
  have hxy:x≠y:=fun e=>by rw[e,path_self]at h;simp at h
  have h':=h;rw[L.path,if_neg hxy]at h;by_cases c2:x=l
  ·rw[if_pos c2,Option.map_eq_some_iff]at h
   obtain⟨p,hp,e⟩:=h;simp only[List.cons.injEq]at e;obtain⟨_,rfl⟩:=e;obtain⟨⟨t,ht⟩,_⟩:=path_ends (grows_tail hg) hp;simp only[List.cons.injEq]at ht;obtain⟨rfl,_⟩:=ht;refine⟨?_,by rw[c2];exact lo⟩;rw[L.path];by_cases c4:z=y
   ·rw[if_pos c4]
    subst c4;rw[path_self]at hp;exact hp
   ·rw[if_neg c4,if_neg (Ne.symm L.ne),if_neg (fun e=>hxy (c2.trans e.symm))]
    exact hp
  rw[if_neg c2]at h;by_cases c3:y=l
  ·rw[if_pos c3,Option.map_eq_some_iff]at h
   obtain⟨p,hp,e⟩:=h;obtain⟨⟨t,rfl⟩,_⟩:=path_ends (grows_tail hg) hp;cases t with
   |nil=>
    have:=path_one (grows_tail hg) hp;simp only[List.cons_append,List.nil_append,List.cons.injEq]at e;obtain⟨_,rfl,rfl⟩:=e;subst this;exact⟨by rw[c3];exact path_self _ _,lo.symm⟩
   |cons u t=>
    simp only[List.cons_append,List.cons.injEq]at e;obtain⟨_,rfl,rfl⟩:=e;obtain⟨h1,h2⟩:=ih hp;have hzl:u≠l:=fun e=>by have:=h2.v2;rw[e,L.new]at this;cases this
    refine⟨?_,h2.cons⟩;rw[L.path,if_neg (fun e=>hzl (e.trans c3)),if_neg hzl,if_pos c3,h1];rfl
  rw[if_neg c3]at h;obtain⟨h1,h2⟩:=ih h;have hzl:z≠l:=fun e=>by have:=h2.v2;rw[e,L.new]at this;cases this
  refine⟨?_,h2.cons⟩;rw[L.path];by_cases c4:z=y
  ·rw[if_pos c4]
   subst c4;rw[path_self]at h1;exact h1
  ·rw[if_neg c4,if_neg hzl,if_neg c3]
   exact h1
theorem path_nodup:∀{T:List (Int×Int)},grows T=true->∀{x y:Int} {p:List Int},pathR T x y=some p->p.Nodup
 | [],_,x,y,p,h=>by
  by_cases c:x=y
  ·subst c
   rw[path_self]at h;obtain rfl:=Option.some.inj h;simp
  ·simp[pathR,c]at h
 |(a,b) :: r,hg,x,y,p,h=>by
  obtain⟨l,o,L⟩:=leaf_of hg;have ih:=fun {x y:Int} {p:List Int}=>path_nodup (grows_tail hg) (x:=x) (y:=y) (p:=p)
  rw[L.path]at h;have out:∀{x y:Int} {p:List Int},pathR r x y=some p->(x=y->x≠l)->l∉p:=fun {x y p} hp hne hm=>by
   rcases path_mem (grows_tail hg) hp l hm with ⟨e,e2⟩|q
   ·exact hne e e2.symm
   ·rw[L.new]at q;cases q
  by_cases c1:x=y
  ·rw[if_pos c1]at h
   obtain rfl:=Option.some.inj h;simp
  rw[if_neg c1]at h;by_cases c2:x=l
  ·rw[if_pos c2,Option.map_eq_some_iff]at h
   obtain⟨q,hq,rfl⟩:=h;exact List.nodup_cons.2 ⟨out hq (fun _=>Ne.symm L.ne),ih hq⟩
  rw[if_neg c2]at h;by_cases c3:y=l
  ·rw[if_pos c3,Option.map_eq_some_iff]at h
   obtain⟨q,hq,rfl⟩:=h;rw[List.nodup_append];refine⟨ih hq,by simp,fun u hu v hv e=>?_⟩;rw[List.mem_singleton.1 hv]at e;exact out hq (fun _=>c2) (e ▸ hu)
  rw[if_neg c3]at h;exact ih h
theorem path_back:∀{T:List (Int×Int)},grows T=true->∀(x y:Int),pathR T y x=(pathR T x y).map List.reverse
 | [],_,x,y=>by
  by_cases c:x=y
  ·subst c;rw[path_self];rfl
  ·simp[pathR,c,Ne.symm c]
 |(a,b) :: r,hg,x,y=>by
  obtain⟨l,o,L⟩:=leaf_of hg;have ih:=path_back (grows_tail hg);rw[L.path,L.path];by_cases c1:x=y
  ·subst c1
   simp
  rw[if_neg c1,if_neg (Ne.symm c1)];by_cases c2:x=l
  ·have c3:y≠l:=fun e=>c1 (c2.trans e.symm)
   rw[if_neg c3,if_pos c2,if_pos c2,ih o y];cases pathR r o y<;>simp
  ·rw[if_neg c2,if_neg c2]
   by_cases c3:y=l
   ·rw[if_pos c3,if_pos c3,ih x o]
    cases pathR r x o<;>simp
   ·rw[if_neg c3,if_neg c3,ih x y]
