import Derived.Test.YtdpbiegfljmhmaaSmD
set_option linter.unusedSimpArgs false
set_option linter.unusedVariables false
namespace Go.Proofs.Ytdpbiegfljmhmaa.Ext
theorem FrI.top{w k a:Nat}{F:Nat->Vec}{v:Vec}{F0:Nat->Vec}{N Q:Int}(b:Base w k F v F0)(h:FrI w k a F v N Q):N+7*(Q*13122)<=cb a:=by
 have p:=Pt_pos (f:=ldF w F) (k-a) a (fun i h1 h2=>b.stp.pos i (by omega));have:=h.bud;have h2:=h.n0;have h3:=h.q1;have:=mul_ge (show 0<=N+7*(Q*13122) by omega) p;omega
theorem FrI.low{w k a:Nat}{F:Nat->Vec}{v:Vec}{F0:Nat->Vec}{N Q:Int}(b:Base w k F v F0)(h:FrI w k a F v N Q) :
  LowOK w F (leadV w v) k v/\(∀j,(lowV w F (leadV w v) k v j).natAbs<=(N+7*(Q*13122)).natAbs)/\(∀j,j<=leadV w v->lowV w F (leadV w v) k v j=v j)/\∀z,a<=z->z<k->leadV w v<leadV w (F z)->0<=lowV w F (leadV w v) k v (leadV w (F z))/\lowV w F (leadV w v) k v (leadV w (F z))<F z (leadV w (F z)):=by
 have htop:=h.top b;have hn:=h.n0;have hq:=h.q1;have hk:=b.k3;have key:∀a1,a<=a1->a1<=a+1->a1<=k->(∀z,z<a1->z<k->leadV w (F z)<=leadV w v)->(∀z,a1<=z->z<k->leadV w v<leadV w (F z))->LowOK w F (leadV w v) k v/\(∀j,(lowV w F (leadV w v) k v j).natAbs<=(N+7*(Q*13122)).natAbs)/\(∀j,j<=leadV w v->lowV w F (leadV w v) k v j=v j)/\∀z,a1<=z->z<k->0<=lowV w F (leadV w v) k v (leadV w (F z))/\lowV w F (leadV w v) k v (leadV w (F z))<F z (leadV w (F z)):=by
  intro a1 h1 h2 h3 lo hi;have ho:=h.old.later h1;have hld:∀z,a1<=z->z<k->(v (leadV w (F z))).natAbs<=(Q*F z (leadV w (F z))).natAbs:=fun z q1 q2=>h.ld z (by omega) q2
  obtain⟨s1,s2⟩:=low_safe b.stp (E:=13122) (by omega) hn (by omega) ho lo hi h.le hld (by omega) (by have:=cb_le (a:=a) (by have:=h.ak;omega);omega);have s3:=low_ok b.stp (E:=13122) (by omega) hn (by omega) ho lo hi h.le hld k (Nat.le_refl _);exact⟨s1,s2,fun j hj=>s3.old j (fun z q1 q2=>by have:=hi z q1 q2;omega),s3.red⟩
 by_cases c:a<k/\leadV w (F a)=leadV w v
 ·obtain⟨r1,r2,r3,r4⟩:=key (a+1) (by omega) (by omega) (by omega) (fun z q1 q2=>by
   by_cases e:z=a
   ·rw[e];omega
   ·have:=h.lo z (by omega);omega) (fun z q1 q2=>by have:=b.stp.inc a z (by omega) q2;omega)
  exact⟨r1,r2,r3,fun z q1 q2 q3=>r4 z (by
   rcases Nat.lt_or_ge a z with q|q
   ·omega
   ·have:z=a:=by omega
    subst this;omega) q2⟩
 ·obtain⟨r1,r2,r3,r4⟩:=key a (by omega) (by omega) h.ak (fun z q1 q2=>by have:=h.lo z q1;omega) (fun z q1 q2=>by
   have h1:=h.hi z q1 q2;by_cases e:leadV w (F z)=leadV w v
   ·exfalso
    by_cases ez:z=a
    ·subst ez;exact c ⟨q2,e⟩
    ·have:=b.stp.inc a z (by omega) q2;have:=h.hi a (by omega) (by omega);omega
   ·omega)
  exact⟨r1,r2,r3,fun z q1 q2 _=>r4 z q1 q2⟩
theorem fr_step{w k a:Nat}{F:Nat->Vec}{v:Vec}{F0:Nat->Vec}{N Q:Int}(b:Base w k F v F0)(h:FrI w k a F v N Q)(ha:a<k)(he:leadV w (F a)=leadV w v){u:Vec}(eu:u=lowV w F (leadV w v) k v){q:Int}(eq:q=u (leadV w v) / F a (leadV w v)) :
  (∀j,(q*F a j).natAbs<=9000000000000000000/\(u j-q*F a j).natAbs<=9000000000000000000)/\Next w k F0 F a (fun j=>u j-q*F a j):=by
 obtain⟨l1,l2,l3,l4⟩:=h.low b;have bu:=b.low (leadV w v);have htop:=h.top b;have hn:=h.n0;have hq:=h.q1;have hk:=b.k3;have hcb:=cb_le (a:=a) (by omega);rw[<-eu]at l2 l3 l4 bu;rw[<-he]at l3 l4 eq;have hL:=b.stp.pos a ha;have luc:u (leadV w (F a))=v (leadV w (F a)):=l3 _ (Nat.le_refl _);have hqQ:q.natAbs<=Q.natAbs:=by
  rw[eq,luc];exact div_le hL (h.ld a (by omega) ha) (by omega)
 obtain⟨QE,eQE⟩:∃z,z=Q*13122:=⟨_,rfl⟩;rw[<-eQE]at htop l2;have hQE:13122<=QE:=by omega
 have hqF:∀j,(q*F a j).natAbs<=QE.natAbs:=fun j=>by rw[eQE];exact natAbs_mul_le hqQ (h.old.le a (Nat.le_refl _) ha j) (by omega) (by omega)
 refine⟨fun j=>⟨by have:=hqF j;omega,by have:=hqF j;have:=l2 j;omega⟩,?_⟩;have b2:=bu.take ha q;have hu2:∀j,(u j-q*F a j).natAbs<=(N+8*QE).natAbs:=fun j=>by have:=hqF j;have:=l2 j;omega
 have hz2:∀j,j<leadV w (F a)->u j-q*F a j=0:=fun j hj=>by
  rw[l3 j (by omega),leadV_zero (w:=w) (v:=v) (by omega),leadV_zero hj];omega
 have hred:∀z,a<z->z<k->((u (leadV w (F z))-q*F a (leadV w (F z))).natAbs<=((Q+1)*F z (leadV w (F z))).natAbs):=fun z z1 z2=>by
  obtain⟨r1,r2⟩:=l4 z (by omega) z2 (b.stp.inc a z z1 z2);obtain⟨r3,r4⟩:=h.old.red a z (Nat.le_refl _) z1 z2;have r5:=natAbs_mul_le hqQ (show(F a (leadV w (F z))).natAbs<=(F z (leadV w (F z))).natAbs by omega) (by omega) (by omega);have r6:0<=Q*F z (leadV w (F z)):=Int.mul_nonneg (by omega) (by omega);rw[Int.add_mul,Int.one_mul];omega
 have ho:=h.old.later (a':=a+1) (by omega);obtain⟨x1,x2⟩:=fdiv_bounds (x:=u (leadV w (F a))) hL;rw[<-eq]at x1 x2;have hbud:=h.bud;rw[<-eQE,show k-a=(k-(a+1))+1 by omega]at hbud;have hbud:(N+7*QE)*(F a (leadV w (F a))*Pt (ldF w F) (a+1) (k-(a+1)))<=cb a:=hbud;have hP:=Pt_pos (f:=ldF w F) (k-(a+1)) (a+1) (fun i h1 h2=>b.stp.pos i (by omega));generalize hPP:Pt (ldF w F) (a+1) (k-(a+1))=P at hbud hP;have hT:0<=N+7*QE:=by omega
 have bud1:(N+7*QE)*P<=cb a:=by
  refine Int.le_trans ?_ hbud;refine Int.mul_le_mul_of_nonneg_left ?_ hT;rw[Int.mul_comm];exact mul_ge (Int.le_of_lt hP) hL
 by_cases c0:u (leadV w (F a))-q*F a (leadV w (F a))=0
 ·left
  have fin:=drop_ok b2 ha ho (N:=N+8*QE) (Q:=Q+1) (fun j hj=>by
   by_cases e:j=leadV w (F a)
   ·rw[e];exact c0
   ·exact hz2 j (by omega)) (by omega) (by omega) hu2 hred (by
   rw[hPP,show N+8*QE+7*((Q+1)*13122)=N+15*QE+91854 by rw[eQE];omega];have:=Int.mul_le_mul_of_nonneg_right (show N+15*QE+91854<=7*(N+7*QE) by omega) (Int.le_of_lt hP);rw[Int.mul_assoc]at this;omega)
  obtain⟨f1,a',f2⟩:=fin;exact⟨c0,f1,b2,a',_,_,f2⟩
 ·right
  have hx:0<u (leadV w (F a))-q*F a (leadV w (F a)):=by omega
  have hl2:leadV w (fun j=>u j-q*F a j)=leadV w (F a):=leadV_eq (Nat.le_of_lt (b.stp.lt a ha)) hz2 (fun _=>by show u (leadV w (F a))-q*F a (leadV w (F a))≠0;omega);have lo:∀z,z<a+1->z<k->leadV w (F z)<=leadV w (F a):=fun z z1 z2=>by
   by_cases e:z=a
   ·rw[e];omega
   ·have:=b.stp.inc z a (by omega) ha;omega
  have hi:∀z,a+1<=z->z<k->leadV w (F a)<leadV w (F z):=fun z z1 z2=>b.stp.inc a z (by omega) z2
  have s1:=low_safe b.stp (E:=13122) (N:=N+8*QE) (Q:=Q+1) (v:=fun j=>u j-q*F a j) (by omega) (by omega) (by omega) ho lo hi hu2 (fun z z1 z2=>hred z (by omega) z2) (by omega) (by rw[show(Q+1)*13122=QE+13122 by rw[eQE];omega];omega);have s2:=low_ok b.stp (E:=13122) (N:=N+8*QE) (Q:=Q+1) (v:=fun j=>u j-q*F a j) (by omega) (by omega) (by omega) ho lo hi hu2 (fun z z1 z2=>hred z (by omega) z2) k (Nat.le_refl _);obtain⟨s1,s3⟩:=s1;have b3:=b2.low (leadV w (F a));have e3:∀j,j<=leadV w (F a)->lowV w F (leadV w (F a)) k (fun j=>u j-q*F a j) j=u j-q*F a j:=fun j hj=>s2.old j (fun z z1 z2=>by have:=hi z z1 z2;omega)
  have r3:=s2.red;generalize lowV w F (leadV w (F a)) k (fun j=>u j-q*F a j)=u3 at *;have ec:u3 (leadV w (F a))=u (leadV w (F a))-q*F a (leadV w (F a)):=e3 _ (Nat.le_refl _);have hm:N+29*QE<=cb 3:=by
   have h4:=cb_mono (a:=a+1) (b:=3) (by omega);rw[cb_succ]at h4;omega
  obtain⟨m1,m2,m3⟩:=mid_ok b3 ha ho (n:=104976) (m:=N+29*QE) (fun j hj=>by rw[e3 j (by omega)];exact hz2 j hj) (by rw[ec];exact⟨hx,x2⟩) (fun z z1 z2=>r3 z (by omega) z2) (fun z z1 z2=>h.old.red a z (Nat.le_refl _) z1 z2)
   (fun j=>by have:=s3 j;rw[show(Q+1)*13122=QE+13122 by rw[eQE];omega]at this;omega) (fun j=>by have:=h.old.le a (Nat.le_refl _) ha j;omega) hm (by
   rw[hPP,ec];generalize u (leadV w (F a))-q*F a (leadV w (F a))=x at *;generalize hy:F a (leadV w (F a))=y at *;have q1:104976*x+(N+29*QE)*y<=7*(N+7*QE)*y:=by
    have h1:=Int.mul_le_mul_of_nonneg_right (show 104976+(N+29*QE)<=7*(N+7*QE) by omega) (Int.le_of_lt hL);rw[Int.add_mul]at h1;omega
   have q2:=Int.mul_le_mul_of_nonneg_right q1 (Int.le_of_lt hP);refine Int.le_trans q2 ?_;rw[Int.mul_assoc,Int.mul_assoc];omega)
  exact⟨c0,hl2,s1,m1,by rw[ec];exact x2,m2,_,_,m3⟩
theorem MdI.y0{w k a:Nat}{F:Nat->Vec}{v:Vec}{F0:Nat->Vec}{n m:Int}(b:Base w k F v F0)(h:MdI w k a F v n m):0<F a (leadV w v):=by have:=b.stp.pos a h.ak;rw[h.eq]at this;exact this
theorem MdI.low{w k a:Nat}{F:Nat->Vec}{v:Vec}{F0:Nat->Vec}{n m:Int}(b:Base w k F v F0)(h:MdI w k a F v n m):(∀y,y<=k->lowV w F (leadV w v) y v=v)/\LowOK w F (leadV w v) k v:=by
 have lo:∀z,z<a+1->z<k->leadV w (F z)<=leadV w v:=fun z z1 z2=>by
  by_cases e:z=a
  ·rw[e,h.eq];omega
  ·have:=h.lo z (by omega);omega
 have id:=low_id (c:=leadV w v) b.stp lo (fun z z1 z2=>h.rv z (by omega) z2);refine⟨id,fun y hy hc j=>?_⟩;rw[id y (by omega),id (y+1) (by omega)];have cy:a<y:=by
  rcases Nat.lt_or_ge a y with q|q
  ·exact q
  ·have:=lo y (by omega) hy;omega
 obtain⟨r1,r2⟩:=h.rv y cy hy;have hv:=h.vn j;have hP:=Pt_pos (f:=ldF w F) (k-(a+1)) (a+1) (fun i h1 h2=>b.stp.pos i (by omega));have hy0:=h.y0 b;have hx:=h.xy;have hn:0<=n:=by have:=h.vn 0;omega
 have hm:0<=m:=by have:=h.fm 0;omega
 have b1:=h.bud;have b2:0<=n*F a (leadV w v):=Int.mul_nonneg hn (by omega);have b3:0<=m*v (leadV w v):=Int.mul_nonneg hm (by omega);have b4:=mul_ge (show 0<=n*F a (leadV w v)+m*v (leadV w v) by omega) hP;have b5:=mul_ge hn hy0;have hak:=h.ak;have hk:=b.k3;have b6:=cb_le (a:=a) (by omega);rw[Int.ediv_eq_zero_of_lt r1 r2,Int.zero_mul];omega
theorem md_step{w k a:Nat}{F:Nat->Vec}{v:Vec}{F0:Nat->Vec}{n m:Int}(b:Base w k F v F0)(h:MdI w k a F v n m){q:Int}(eq:q=v (leadV w v) / F a (leadV w v)) :
  (∀j,(q*F a j).natAbs<=9000000000000000000/\(v j-q*F a j).natAbs<=9000000000000000000)/\Next w k F0 F a (fun j=>v j-q*F a j):=by
 have ha:=h.ak;have hk:=b.k3;have he:=h.eq;have hxy:=h.xy;have hbud:=h.bud;rw[<-he]at eq hxy hbud;have hL:=b.stp.pos a ha;have hn:91854<=n:=by have:=h.vn 0;omega
 have hm:91854<=m:=by have:=h.fm 0;omega
 have hP:=Pt_pos (f:=ldF w F) (k-(a+1)) (a+1) (fun i h1 h2=>b.stp.pos i (by omega));generalize hPP:Pt (ldF w F) (a+1) (k-(a+1))=P at hbud hP;obtain⟨x1,x2⟩:=fdiv_bounds (x:=v (leadV w (F a))) hL;rw[<-eq]at x1 x2;have hq1:1<=q:=by
  rcases Int.lt_or_le q 1 with c|c
  ·have:=Int.mul_le_mul_of_nonneg_right (show q<=0 by omega) (Int.le_of_lt hL);omega
  ·exact c
 have hqm:q*m<=m*v (leadV w (F a)):=by
  rw[Int.mul_comm];refine Int.mul_le_mul_of_nonneg_left ?_ (by omega);have:=mul_ge (show 0<=q by omega) hL;omega
 have hnm:n+q*m<=n*F a (leadV w (F a))+m*v (leadV w (F a)):=by have:=mul_ge (show 0<=n by omega) hL;omega
 have hqm0:91854<=q*m:=by
  have:=Int.mul_le_mul_of_nonneg_right hq1 (show 0<=m by omega);omega
 have htot:(n+q*m)*P<=7*cb a:=Int.le_trans (Int.mul_le_mul_of_nonneg_right hnm (Int.le_of_lt hP)) hbud;have hsum:n+q*m<=7*cb a:=Int.le_trans (mul_ge (by omega) hP) htot;have h3:7*cb a<=cb 3:=by rw[<-cb_succ];exact cb_mono (by omega)
 have h3n:=cb3;have hqF:∀j,(q*F a j).natAbs+91854*q<=q*m:=fun j=>by
  rw[Int.natAbs_mul];have:=h.fm j;have h1:=Int.mul_le_mul_of_nonneg_left this (show 0<=q by omega);rw[Int.mul_add]at h1;have:((q.natAbs*(F a j).natAbs:Nat):Int)=q*((F a j).natAbs:Int):=by
   rw[Int.natCast_mul];congr 1;omega
  omega
 have hu2:∀j,(v j-q*F a j).natAbs+91854+91854*q<=n+q*m:=fun j=>by have:=hqF j;have:=h.vn j;omega
 refine⟨fun j=>⟨by have:=hqF j;omega,by have:=hu2 j;omega⟩,?_⟩;have b2:=b.take ha q;have hz2:∀j,j<leadV w (F a)->v j-q*F a j=0:=fun j hj=>by
  rw[leadV_zero (w:=w) (v:=v) (by omega),leadV_zero hj];omega
 have hred:∀z,a<z->z<k->((v (leadV w (F z))-q*F a (leadV w (F z))).natAbs<=(q*F z (leadV w (F z))).natAbs):=fun z z1 z2=>by
  obtain⟨r1,r2⟩:=h.rv z z1 z2;obtain⟨r3,r4⟩:=h.rf z z1 z2;have r5:=Int.mul_le_mul_of_nonneg_left (Int.le_of_lt r4) (show 0<=q by omega);have r6:=Int.mul_nonneg (show 0<=q by omega) r3;have r7:=Int.mul_le_mul_of_nonneg_right hq1 (show 0<=F z (leadV w (F z)) by omega);omega
 have hN:(n+q*m-91854-91854*q)+7*(q*13122)<=n+q*m:=by omega
 have hN0:0<=n+q*m-91854-91854*q:=by have:=hu2 0;omega
 by_cases c0:v (leadV w (F a))-q*F a (leadV w (F a))=0
 ·left
  obtain⟨f1,a',f2⟩:=drop_ok b2 ha h.old (N:=n+q*m-91854-91854*q) (Q:=q) (fun j hj=>by
   by_cases e:j=leadV w (F a)
   ·rw[e];exact c0
   ·exact hz2 j (by omega)) hN0 hq1 (fun j=>by have:=hu2 j;omega) hred (by
   rw[hPP];exact Int.le_trans (Int.mul_le_mul_of_nonneg_right hN (Int.le_of_lt hP)) htot)
  exact⟨c0,f1,b2,a',_,_,f2⟩
 ·right
  have hx:0<v (leadV w (F a))-q*F a (leadV w (F a)):=by omega
  have hl2:leadV w (fun j=>v j-q*F a j)=leadV w (F a):=leadV_eq (Nat.le_of_lt (b.stp.lt a ha)) hz2 (fun _=>by show v (leadV w (F a))-q*F a (leadV w (F a))≠0;omega);have lo:∀z,z<a+1->z<k->leadV w (F z)<=leadV w (F a):=fun z z1 z2=>by
   by_cases e:z=a
   ·rw[e];omega
   ·have:=b.stp.inc z a (by omega) ha;omega
  have hi:∀z,a+1<=z->z<k->leadV w (F a)<leadV w (F z):=fun z z1 z2=>b.stp.inc a z (by omega) z2
  obtain⟨s1,s3⟩:=low_safe b.stp (E:=13122) (N:=n+q*m-91854-91854*q) (Q:=q) (v:=fun j=>v j-q*F a j) (by omega) hN0 (by omega) h.old lo hi (fun j=>by have:=hu2 j;omega) (fun z z1 z2=>hred z (by omega) z2) (by omega) (by omega);have s2:=low_ok b.stp (E:=13122) (N:=n+q*m-91854-91854*q) (Q:=q) (v:=fun j=>v j-q*F a j) (by omega) hN0 (by omega) h.old lo hi (fun j=>by have:=hu2 j;omega) (fun z z1 z2=>hred z (by omega) z2) k (Nat.le_refl _);have b3:=b2.low (leadV w (F a));have e3:∀j,j<=leadV w (F a)->lowV w F (leadV w (F a)) k (fun j=>v j-q*F a j) j=v j-q*F a j:=fun j hj=>s2.old j (fun z z1 z2=>by have:=hi z z1 z2;omega)
  have r3:=s2.red;generalize lowV w F (leadV w (F a)) k (fun j=>v j-q*F a j)=u3 at *;have ec:u3 (leadV w (F a))=v (leadV w (F a))-q*F a (leadV w (F a)):=e3 _ (Nat.le_refl _);obtain⟨m1,m2,m3⟩:=mid_ok b3 ha h.old (n:=m) (m:=n+q*m) (fun j hj=>by rw[e3 j (by omega)];exact hz2 j hj) (by rw[ec];exact⟨hx,x2⟩) (fun z z1 z2=>r3 z (by omega) z2) h.rf
   (fun j=>by have:=s3 j;omega) h.fm (by omega) (by
   rw[hPP,ec];have e:m*(v (leadV w (F a))-q*F a (leadV w (F a)))+(n+q*m)*F a (leadV w (F a))=n*F a (leadV w (F a))+m*v (leadV w (F a)):=by
    rw[Int.mul_sub,Int.add_mul,<-Int.mul_assoc,Int.mul_comm m q];omega
   rw[e];exact hbud)
  exact⟨c0,hl2,s1,m1,by rw[ec];exact x2,m2,_,_,m3⟩
end Go.Proofs.Ytdpbiegfljmhmaa.Ext
