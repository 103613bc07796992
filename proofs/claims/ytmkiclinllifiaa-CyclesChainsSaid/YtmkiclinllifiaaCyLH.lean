import Derived.Test.YtmkiclinllifiaaCyCi
import Derived.Test.YtmkiclinllifiaaCyE
set_option linter.unusedSimpArgs false
set_option linter.unusedVariables false
namespace Go.Proofs.Ytmkiclinllifiaa
open Go.Sim
set_option maxRecDepth 100000
theorem TV6:SliceT Try.prog 22 66 6:=⟨by kernel_rfl,by kernel_rfl,⟨48,by kernel_rfl,by omega⟩,⟨.agg #[.int .i64 0,.int .i64 0,.int .i64 0,.int .i64 0,.int .i64 0,.int .i64 0],by kernel_rfl,rfl⟩⟩
theorem lit_ints(h:AHeap)(c:List Int):Rows iC 1 (h.push 1 (c.flatMap iC)) (some ⟨h.next,0,none⟩) c.length c:=
 Own.rows (Own.push h 1 (c.flatMap iC)) iC_len (by omega) (by show h.next<h.next+1;omega)
theorem lit_pairs(h:AHeap)(c:List F2):Rows F2.cells 2 (h.push 2 (c.flatMap F2.cells)) (some ⟨h.next,0,none⟩) c.length c:=
 Own.rows (Own.push h 2 (c.flatMap F2.cells)) f2_len (by omega) (by show h.next<h.next+1;omega)
theorem lit_lists(h:AHeap)(c d:List Int)(e:AHeap)(he:e=(h.push 1 (c.flatMap iC)).push 1 (d.flatMap iC)) :
  GrR iC 1 (e.push 1 ([⟨some ⟨h.next,0,none⟩,c.length,c.length⟩,⟨some ⟨h.next+1,0,none⟩,d.length,d.length⟩].flatMap Hd.cells)) (some ⟨e.next,0,none⟩) 2 [⟨some ⟨h.next,0,none⟩,c.length,c.length⟩,⟨some ⟨h.next+1,0,none⟩,d.length,d.length⟩] [c,d]:=by
 have L1:=lit_ints h c;have L2:=lit_ints (h.push 1 (c.flatMap iC)) d;have x2:=Ext.push (h.push 1 (c.flatMap iC)) 1 (d.flatMap iC);rw[<-he]at L2 x2;have x3:=Ext.push e 1 (([⟨some ⟨h.next,0,none⟩,c.length,c.length⟩,⟨some ⟨h.next+1,0,none⟩,d.length,d.length⟩]:List Hd).flatMap Hd.cells);refine⟨Own.rows (Own.push e 1 _) hd_len (by omega) (by show e.next<e.next+1;omega),rfl,fun y y0 y1=>?_⟩;rcases(by omega:y=0\/y=1)with rfl|rfl
 ·exact(L1.ext x2).ext x3
 ·exact L2.ext x3
variable{F:Prims}{call head arith cmp scmp bnot bsame conv neg imax imin ofNat slen place inR nz geZ rd wr push next mkOK nat zeros sadd eqAgg cut slc sslc strAt part app cpy putAt fresh lowered bump wrote addN lt ne fpAll fpApp brk yn rng mget mput mnew bytes clr mrng ment:_}(hA:AP F ⟨call,head,arith,cmp,scmp,bnot,bsame,conv,neg,imax,imin,ofNat,slen,place,inR,nz,geZ,rd,wr,push,next,mkOK,nat,zeros,sadd,eqAgg,cut,slc,sslc,strAt,part,app,cpy,putAt,fresh,lowered,bump,wrote,addN,lt,ne,fpAll,fpApp,brk,yn,rng,mget,mput,mnew,bytes,clr,mrng,ment⟩)
include hA
theorem ex_loop{h0:AHeap}{a:Option Addr}{n c:Nat}{N:Int}(hN:N=n){P:List F2}(hS:Rows F2.cells 2 h0 a n P)(hn:n<=1000){Q:Exit->SS->Prop}
  (hQ:∀h' a' c',Apd h' 6 a' n c' ((P.map exV).flatMap Vk.cells)->Ext h0 h'->Q (.exit 0) ⟨[(1,.slice a' n c')],0,[],h'⟩) :
  ∀(m:Nat) (i:Int) (k:Nat) (h:AHeap) (a':Option Addr) (c':Nat),(n-i).toNat<=m->0<=i->i<=n->(k:Int)=i->Apd h 6 a' k c' (((P.map exV).take i.toNat).flatMap Vk.cells)->From h0.next a'->Ext h0 h->
   head 34 3 0 ⟨[(1,.slice a' k c'),(9,.slice a n c),(10,.int .i64 N),(11,.int .i64 i)],0,[],h⟩ Q:=by
 have hlen:=hS.len;refine upTo (fun m ih=>?_);intro i k h a' c' hm i0 i1 hk hap hf he;by_cases ci:i<n
 rotate_left
 ·obtain rfl:k=n:=by omega
  refine hA.roundR Try.func34 r34_ok (zc ?_);refine br (i<N) (by rw[e_lss hA]) (fun c1=>by omega) (fun c1=>?_)<;>refine zc ?_;rw[List.take_of_length_le (by rw[List.length_map];omega)]at hap;exact hQ h a' c' hap he
 obtain⟨m,rfl⟩:∃k,m=k+1:=⟨m-1,by omega⟩
 replace ih:=ih m rfl
 obtain⟨bb,o,x,y,rfl,hbb,hgt,r1,_⟩:=fr_at (hS.ext he) (i:=i) i0 ci;have q1:=rd_ok hA r1;have e2:arith .add .i64 i 1=i+1:=add64 hA (by omega) (by omega);refine hA.roundR Try.func34 r34_ok (zc ?_);refine br (i<N) (by rw[e_lss hA]) (fun c1=>?_) (fun c1=>by omega)<;>refine zc ?_;refine zq ?_;refine appR_ok hA TV6 vk_len (by omega) vk_ok (v:=exV ⟨x,y⟩) hap (by omega) (fun a2 c2' h4 hp2 hx=>?_);obtain⟨x4,hf4⟩:=hx h0 he hf;refine zc ?_;rw[e2];refine ih (i+1) (k+1) h4 a2 c2' (by omega) (by omega) (by omega) (by omega) ?_ hf4 x4;rw[gt_take (P.map exV) i0 (by rw[List.length_map];omega),gt_map exV P i0 (by omega),hgt];exact hp2
theorem example_ok{h:AHeap}(hlow:h.low<=h.next){Q:Value->AHeap->Prop}
  (hQ:∀h' a c,Vs h' a 5 exL->Ext h h'->Q (.slice a 5 c) h'):call 34 [] h Q:=by
 refine hA.bodyR Try.func34 r34_ok (hA.alike _ _ _ rfl) hlow (zc ?_);simp only[e_next hA,e_push hA,e_ofNat hA];have x1:=Ext.push h 2 (exP.flatMap F2.cells);have o1:=Own.push h 2 (exP.flatMap F2.cells);have n1:(h.push 2 (exP.flatMap F2.cells)).next=h.next+1:=rfl;change head _ _ _ ⟨_,_,_,h.push 2 (exP.flatMap F2.cells)⟩ _;generalize h.push 2 (exP.flatMap F2.cells)=h1 at *;have r1:Rows F2.cells 2 h1 (some ⟨h.next,0,none⟩) 5 exP:=Own.rows o1 f2_len (by omega) (by omega);refine ex_loop hA (h0:=h1) (n:=5) (c:=5) rfl r1 (by omega) (fun h2 a2 c2 ap x2=>?_) 5 0 0 h1 none 0 (by omega) (by omega) (by omega) rfl (by simp;exact Apd.nil _ _) (From.none _) (.refl h1);refine zc ?_;exact hQ h2 a2 c2 ⟨ap.cells,vk_len,by omega⟩ (x1.trans x2)
theorem alive_ok(hW:LW F)(hF:∀args h,F 21 args h=none){h:AHeap}(hlow:h.low<=h.next){Q:Value->AHeap->Prop}
  (hQ:∀h',Ext h h'->Q (.bool true) h'):call 21 [] h Q:=by
 refine hA.bodyR Try.func21 r21_ok (hF _ _) hlow (zc ?_);refine example_ok hA hlow (fun h1 a1 c1 L1 x1=>⟨_,_,_,rfl,?_⟩);refine zc ?_;refine tree_a hA hW (x1.lowOK hlow) L1 (by omega) (fun t pk e h2 a2 k2 c2 o2 r2 s2 x2'=>?_);have x2:=x1.trans x2';obtain⟨q2,rfl⟩:=o2.uniq ex_tree;cases q2;refine⟨_,_,_,_,_,rfl,?_⟩;refine zc ?_;refine example_ok hA (x2.lowOK hlow) (fun h3 a3 c3 L3 x3'=>⟨_,_,_,rfl,?_⟩);have x3:=x2.trans x3';refine zc ?_;refine chds_a hA hW (x3.lowOK hlow) L3 (by omega) (fun C e h4 a4 k4 c4 o4 r4 s4 x4'=>?_);have x4:=x3.trans x4';obtain⟨rfl,rfl⟩:=o4.uniq ex_chd;refine⟨_,_,_,_,rfl,?_⟩;refine zc ?_;refine example_ok hA (x4.lowOK hlow) (fun h5 a5 c5 L5 x5'=>⟨_,_,_,rfl,?_⟩);have x5:=x4.trans x5';refine zc ?_;refine bas_a hA hW (x5.lowOK hlow) L5 (by omega) (fun g e h6 a6 k6 c6 hs o6 r6 s6 l6 x6'=>?_);have x6:=x5.trans x6';obtain⟨rfl,rfl⟩:=o6.uniq ex_bass;refine⟨_,_,_,_,rfl,?_⟩;refine zc ?_;refine example_ok hA (x6.lowOK hlow) (fun h7 a7 c7 L7 x7'=>⟨_,_,_,rfl,?_⟩);have x7:=x6.trans x7';refine zc ?_;simp only[e_next hA,e_push hA,e_ofNat hA];change call _ _ (h7.push 1 (([0,1,2,3]:List Int).flatMap iC)) _;have L8:=lit_ints h7 [0,1,2,3];have x8':=Ext.push h7 1 (([0,1,2,3]:List Int).flatMap iC);generalize h7.push 1 (([0,1,2,3]:List Int).flatMap iC)=h8 at *;have x8:=x7.trans x8';refine Coefs_ok hA hW (x8.lowOK hlow) (L7.ext x8') (by omega) L8 (by decide) (fun h9 a9 k9 c9 x e o9 r9 s9 x9'=>?_);have x9:=x8.trans x9';obtain⟨rfl,rfl⟩:=o9.uniq ex_co1;refine⟨_,_,_,_,rfl,?_⟩;refine zc ?_;refine example_ok hA (x9.lowOK hlow) (fun h10 a10 c10 L10 x10'=>⟨_,_,_,rfl,?_⟩);have x10:=x9.trans x10';refine zc ?_;simp only[e_next hA,e_push hA,e_ofNat hA];change call _ _ (h10.push 1 (([0,3,2]:List Int).flatMap iC)) _;have L11:=lit_ints h10 [0,3,2];have x11':=Ext.push h10 1 (([0,3,2]:List Int).flatMap iC);generalize h10.push 1 (([0,3,2]:List Int).flatMap iC)=h11 at *;have x11:=x10.trans x11';refine Coefs_ok hA hW (x11.lowOK hlow) (L10.ext x11') (by omega) L11 (by decide) (fun h12 a12 k12 c12 x e o12 r12 s12 x12'=>?_);have x12:=x11.trans x12';obtain⟨rfl,rfl⟩:=o12.uniq ex_co2;refine⟨_,_,_,_,rfl,?_⟩;refine zc ?_;refine br True (by rw[e_eql hA];rfl) (fun _=>?_) (fun q=>absurd trivial q)<;>refine zc ?_;refine br True (by rw[e_eql hA];rfl) (fun _=>?_) (fun q=>absurd trivial q)<;>refine zc ?_;simp only[e_next hA,e_push hA,e_ofNat hA];change call _ _ (h12.push 2 (exT.flatMap F2.cells)) _;have L13:=lit_pairs h12 exT;have x13':=Ext.push h12 2 (exT.flatMap F2.cells);generalize h12.push 2 (exT.flatMap F2.cells)=h13 at *;have x13:=x12.trans x13';have y2:=(((((((((x3'.trans x4').trans x5').trans x6').trans x7').trans x8').trans x9').trans x10').trans x11').trans x12').trans x13';refine spairs_ok hA (x13.lowOK hlow) (r2.ext y2) L13 (by omega) (fun h14 x14'=>⟨_,rfl,?_⟩);have x14:=x13.trans x14';refine zc ?_;refine br True (by rw[e_eql hA];rfl) (fun _=>?_) (fun q=>absurd trivial q)<;>refine zc ?_;simp only[e_next hA,e_push hA,e_ofNat hA];change call _ _ (h14.push 2 (([⟨1,2⟩,⟨2,3⟩]:List F2).flatMap F2.cells)) _;have L15:=lit_pairs h14 [⟨1,2⟩,⟨2,3⟩];have x15':=Ext.push h14 2 (([⟨1,2⟩,⟨2,3⟩]:List F2).flatMap F2.cells);generalize h14.push 2 (([⟨1,2⟩,⟨2,3⟩]:List F2).flatMap F2.cells)=h15 at *;have x15:=x14.trans x15';have y4:=(((((((((x5'.trans x6').trans x7').trans x8').trans x9').trans x10').trans x11').trans x12').trans x13').trans x14').trans x15';refine spairs_ok hA (x15.lowOK hlow) (r4.ext y4) L15 (by omega) (fun h16 x16'=>⟨_,rfl,?_⟩);have x16:=x15.trans x16';refine zc ?_;refine br True (by rw[e_eql hA];rfl) (fun _=>?_) (fun q=>absurd trivial q)<;>refine zc ?_;simp only[e_next hA,e_push hA,e_ofNat hA];obtain⟨e17,he17⟩:∃z,z=(h16.push 1 (([1,2,0]:List Int).flatMap iC)).push 1 (([2,3,0]:List Int).flatMap iC):=⟨_,rfl⟩;have x17':Ext h16 e17:=by rw[he17];exact(Ext.push _ _ _).trans (Ext.push _ _ _)
 have L18:=lit_lists h16 [1,2,0] [2,3,0] e17 he17;have x18':=Ext.push e17 1 (([⟨some ⟨h16.next,0,none⟩,3,3⟩,⟨some ⟨h16.next+1,0,none⟩,3,3⟩]:List Hd).flatMap Hd.cells);have e17n:((h16.push 1 [Value.int .i64 1,.int .i64 2,.int .i64 0]).push 1 [Value.int .i64 2,.int .i64 3,.int .i64 0]).next=e17.next:=by rw[he17];rfl
 have e17h:((h16.push 1 [Value.int .i64 1,.int .i64 2,.int .i64 0]).push 1 [Value.int .i64 2,.int .i64 3,.int .i64 0])=e17:=by rw[he17];rfl
 rw[e17n,e17h];change call _ _ (e17.push 1 (([⟨some ⟨h16.next,0,none⟩,3,3⟩,⟨some ⟨h16.next+1,0,none⟩,3,3⟩]:List Hd).flatMap Hd.cells)) _;change GrR iC 1 (e17.push 1 (([⟨some ⟨h16.next,0,none⟩,3,3⟩,⟨some ⟨h16.next+1,0,none⟩,3,3⟩]:List Hd).flatMap Hd.cells)) _ _ _ _ at L18;generalize e17.push 1 (([⟨some ⟨h16.next,0,none⟩,3,3⟩,⟨some ⟨h16.next+1,0,none⟩,3,3⟩]:List Hd).flatMap Hd.cells)=h18 at *;have x18:=(x16.trans x17').trans x18';have y6:=(((((((((((x7'.trans x8').trans x9').trans x10').trans x11').trans x12').trans x13').trans x14').trans x15').trans x16').trans x17').trans x18');refine slists_ok hA (x18.lowOK hlow) (r6.ext y6) L18 (by omega) l6 (fun h19 x19'=>⟨_,rfl,?_⟩);have x19:=x18.trans x19';refine zc ?_;refine br True (by rw[e_eql hA];rfl) (fun _=>?_) (fun q=>absurd trivial q)<;>refine zc ?_;simp only[e_next hA,e_push hA,e_ofNat hA];change call _ _ (h19.push 1 (([1,1]:List Int).flatMap iC)) _;have L20:=lit_ints h19 [1,1];have x20':=Ext.push h19 1 (([1,1]:List Int).flatMap iC);generalize h19.push 1 (([1,1]:List Int).flatMap iC)=h20 at *;have x20:=x19.trans x20';have y9:=(((((((((((x10'.trans x11').trans x12').trans x13').trans x14').trans x15').trans x16').trans x17').trans x18').trans x19').trans x20'));refine sints_ok hA (x20.lowOK hlow) (r9.ext y9) L20 (by omega) (fun h21 x21'=>⟨_,rfl,?_⟩);have x21:=x20.trans x21';refine zc ?_;refine br True (by rw[e_eql hA];rfl) (fun _=>?_) (fun q=>absurd trivial q)<;>refine zc ?_;simp only[e_next hA,e_push hA,e_ofNat hA];change call _ _ (h21.push 1 (([0,-1]:List Int).flatMap iC)) _;have L22:=lit_ints h21 [0,-1];have x22':=Ext.push h21 1 (([0,-1]:List Int).flatMap iC);generalize h21.push 1 (([0,-1]:List Int).flatMap iC)=h22 at *;have x22:=x21.trans x22';have y12:=(((((((((x13'.trans x14').trans x15').trans x16').trans x17').trans x18').trans x19').trans x20').trans x21').trans x22');refine sints_ok hA (x22.lowOK hlow) (r12.ext y12) L22 (by omega) (fun h23 x23'=>⟨_,rfl,?_⟩);have x23:=x22.trans x23';refine zc ?_;exact hQ h23 x23
end Go.Proofs.Ytmkiclinllifiaa
namespace Go.Proofs.Ytmkiclinllifiaa
open Go.Sim
set_option maxRecDepth 100000
theorem steps_bd{c:List Int}(h:circle c)(i j:Int):-1<=steps c i j/\steps c i j<=1:=by
 rw[steps_flI,flI_nodup (sps_nodup h.2.2.2)];split<;>split<;>omega
theorem sumL_bd{f:F2->Int}:∀{L:List F2},(∀p∈L,-1<=f p/\f p<=1)->-(L.length:Int)<=sumL f L/\sumL f L<=L.length
 | [],_=>by simp[sumL]
 |p :: L,h=>by
  have h1:=sumL_bd (L:=L) (fun q hq=>h q (List.mem_cons_of_mem _ hq));have h2:=h p (List.mem_cons_self ..);show -((L.length+1:Nat):Int)<=sumL f L+f p/\sumL f L+f p<=((L.length+1:Nat):Int);omega
theorem prod_bd{a b:Int}(h1:-1<=a/\a<=1)(h2:-1<=b/\b<=1):-1<=a*b/\a*b<=1:=by
 rcases(by omega:a=-1\/a=0\/a=1)with rfl|rfl|rfl<;>omega
variable{F:Prims}{call head arith cmp scmp bnot bsame conv neg imax imin ofNat slen place inR nz geZ rd wr push next mkOK nat zeros sadd eqAgg cut slc sslc strAt part app cpy putAt fresh lowered bump wrote addN lt ne fpAll fpApp brk yn rng mget mput mnew bytes clr mrng ment:_}(hA:AP F ⟨call,head,arith,cmp,scmp,bnot,bsame,conv,neg,imax,imin,ofNat,slen,place,inR,nz,geZ,rd,wr,push,next,mkOK,nat,zeros,sadd,eqAgg,cut,slc,sslc,strAt,part,app,cpy,putAt,fresh,lowered,bump,wrote,addN,lt,ne,fpAll,fpApp,brk,yn,rng,mget,mput,mnew,bytes,clr,mrng,ment⟩)
include hA
theorem ch_in{h0:AHeap}(hlow0:h0.low<=h0.next){C:List Int}(hC:circle C){t:List F2}{K:List F2}(hK:∀p∈K,circle (circF t p))(hK28:K.length<=28){sa:Option Addr}{ns sc:Nat}{ca:Option Addr}{k cc:Nat}(hco:Rows iC 1 h0 ca k (K.map fun p=>steps C p.n p.d)){ga:Option Addr}{gc:Nat}{hs:List Hd}(hG:GrR iC 1 h0 ga k hs (K.map (circF t)))
  {pa:Option Addr} {np pc:Nat} {P:List F2} (hP:Rows F2.cells 2 h0 pa np P) {j:Int} (j0:0<=j) (j1:j<np) {Q:Exit->SS->Prop}
  (hQ:∀h' s,s=sumL (fun p=>steps C p.n p.d*steps (circF t p) (gt P j).n (gt P j).d) K->Ext h0 h'->Q (.exit 2) ⟨[(1,.slice sa ns sc),(5,.bool true),(6,.slice ca k cc),(8,.slice ga k gc),(10,.slice pa np pc),(11,.int .i64 j),(12,.int .i64 s)],0,[],h'⟩) :
  ∀(m:Nat) (i s:Int) (h:AHeap),(k-i).toNat<=m->0<=i->i<=k->s=sumL (fun p=>steps C p.n p.d*steps (circF t p) (gt P j).n (gt P j).d) (K.take i.toNat)->Ext h0 h->
   head 4 16 0 ⟨[(1,.slice sa ns sc),(5,.bool true),(6,.slice ca k cc),(8,.slice ga k gc),(10,.slice pa np pc),(11,.int .i64 j),(12,.int .i64 s),(13,.int .i64 i)],0,[],h⟩ Q:=by
 have hlen:=hco.len;rw[List.length_map]at hlen;refine upTo (fun m ih=>?_);intro i s h hm i0 i1 hs' he;by_cases ci:i<k
 rotate_left
 ·refine hA.roundR Try.func4 r4_ok (zc ?_)
  refine br (i<k) (by rw[e_lss hA,e_ofNat hA]) (fun c1=>absurd c1 ci) (fun c1=>?_)<;>refine zc ?_;rw[List.take_of_length_le (by omega)]at hs';exact hQ h s hs' he
 obtain⟨m,rfl⟩:∃k,m=k+1:=⟨m-1,by omega⟩
 replace ih:=ih m rfl
 have e2:arith .add .i64 i 1=i+1:=add64 hA (by omega) (by omega);have hmem:=gt_mem K i0 (by omega);obtain⟨q,hq⟩:∃q,q=gt K i:=⟨_,rfl⟩;rw[<-hq]at hmem;have hcq:=hK q hmem;obtain⟨cf,hcf⟩:∃z,z=steps C q.n q.d:=⟨_,rfl⟩;have bcf:=steps_bd hC q.n q.d;rw[<-hcf]at bcf;obtain⟨bb,o,rfl,_,r1⟩:=(hco.ext he).at (i:=i) i0 (by omega);rw[gt_map (fun p:F2=>steps C p.n p.d) K i0 (by omega),<-hq]at r1;have p1:rd h bb (place o i 1) 1 [.int .i64 cf]:=by rw[hcf];exact rd_ok hA (r1 0 1 (by omega) (by omega))
 have G1:=hG.ext he;obtain⟨gb,go,rfl,_⟩:=G1.some (by omega);have q2:=gr_head hA G1 i0 ci;have R2:=G1.row i i0 ci;obtain⟨⟨va,vn,vc⟩,hv⟩:∃z,z=gt hs i:=⟨_,rfl⟩;rw[<-hv]at q2 R2;rw[gt_map (circF t) K i0 (by omega),<-hq]at R2;simp only at q2 R2;have vl:=R2.len;have v8:vn<=1000:=by have:=hcq.2.1;omega
 refine hA.roundR Try.func4 r4_ok (zc ?_);refine br (i<k) (by rw[e_lss hA,e_ofNat hA]) (fun c1=>?_) (fun c1=>absurd ci c1)<;>refine zc ?_;refine zq ?_;refine rcircle_ok hA (he.lowOK hlow0) R2 v8 (fun r h1 hr x1=>⟨_,rfl,?_⟩);obtain rfl:r=true:=hr.2 hcq;have e1:=he.trans x1;refine zc ?_;refine br False (by rw[e_bnot hA];rfl) (fun q=>q.elim) (fun _=>?_)<;>refine zc ?_;obtain⟨_,_,ec,_,r1'⟩:=(hco.ext e1).at (i:=i) i0 (by omega);cases ec;rw[gt_map (fun p:F2=>steps C p.n p.d) K i0 (by omega),<-hq]at r1';have p1':rd h1 bb (place o i 1) 1 [.int .i64 cf]:=by rw[hcf];exact rd_ok hA (r1' 0 1 (by omega) (by omega))
 refine zq ?_;refine br (cf < -1) (by rw[e_lss hA]) (fun c2=>by omega) (fun _=>?_)<;>refine zc ?_;refine zq ?_;refine br (1<cf) (by rw[e_gtr hA]) (fun c2=>by omega) (fun _=>?_)<;>refine zc ?_;obtain⟨h9,hh9⟩:∃z,z=bump h1 23:=⟨_,rfl⟩;have eh9:Ext h1 h9:=by rw[hh9];exact ext_bump hA _ _
 have e9:Ext h0 h9:=e1.trans eh9;rw[<-hh9];obtain⟨_,_,ec,hb9,r1''⟩:=(hco.ext e9).at (i:=i) i0 (by omega);cases ec;rw[gt_map (fun p:F2=>steps C p.n p.d) K i0 (by omega),<-hq]at r1'';have p1'':rd h9 bb (place o i 1) 1 [.int .i64 cf]:=by rw[hcf];exact rd_ok hA (r1'' 0 1 (by omega) (by omega))
 have G9:=hG.ext e9;have q9:=gr_head hA G9 i0 ci;have R9:=G9.row i i0 ci;rw[<-hv]at q9 R9;rw[gt_map (circF t) K i0 (by omega),<-hq]at R9;simp only at q9 R9;obtain⟨pb,po,x,y,rfl,hpb,hgt,_,f0,f1⟩:=fr_at (hP.ext e9) (i:=j) j0 j1;have u1:rd h9 pb (addN (place po j 2) 0) 1 [.int .i64 x]:=rd_fld hA f0;have u2:rd h9 pb (addN (place po j 2) 1) 1 [.int .i64 y]:=rd_fld hA f1;rw[hgt]at hs' ih hQ;have hs':s=sumL (fun p=>steps C p.n p.d*steps (circF t p) x y) (K.take i.toNat):=hs';refine zq ?_;refine steps_ok hA (low_fresh hA h9) (R9.ext (ext_fresh hA h9)) v8 (fun hz xz=>⟨_,rfl,?_⟩);obtain⟨z,hz'⟩:∃z,z=steps (circF t q) x y:=⟨_,rfl⟩;rw[<-hz'];have bz:=steps_bd hcq x y;rw[<-hz']at bz;have bp:=prod_bd bcf bz;have bs:=sumL_bd (f:=fun p=>steps C p.n p.d*steps (circF t p) x y) (L:=K.take i.toNat) (fun p hp=>prod_bd (steps_bd hC _ _) (steps_bd (hK p (List.mem_of_mem_take hp)) _ _));have tl:=List.length_take_le i.toNat K;have em:arith .mul .i64 cf z=cf*z:=mul64 hA (by omega) (by omega);obtain⟨w,hw⟩:∃w,w=cf*z:=⟨_,rfl⟩;rw[<-hw]at em bp;have hs2:s+w=sumL (fun p=>steps C p.n p.d*steps (circF t p) x y) (K.take (i+1).toNat):=by
  rw[gt_take K i0 (by omega),sumL_append,<-hq,hs',hw,hcf,hz'];show _=_+(0+steps C q.n q.d*steps (circF t q) x y);omega
 rw[<-hs']at bs;have ea:arith .add .i64 s w=s+w:=add64 hA (by omega) (by omega);obtain⟨hX,hhX⟩:∃z,z=lowered h9 hz:=⟨_,rfl⟩;have eX:Ext h1 hX:=by rw[hhX];exact ext_low hA (e1.lowOK hlow0) eh9 xz
 obtain⟨s2,hs3⟩:∃z,z=s+w:=⟨_,rfl⟩;rw[<-hs3]at hs2 ea
 (refine zq ?_;repeat ((first|rw[em]);refine zq ?_))
 have n9:h9.next=h1.next+23:=by rw[hh9,e_bump hA];rfl
 refine⟨fp_old hA (wrote_no hA xz) (by rw[e_addN hA,e_next hA];omega),?_⟩;refine zc ?_;rw[ea,<-hhX,e2];exact ih (i+1) s2 hX (by omega) (by omega) (by omega) hs2 (e1.trans eX)
theorem ch_out{h0:AHeap}(hlow0:h0.low<=h0.next){C:List Int}(hC:circle C){t:List F2}{K:List F2}(hK:∀p∈K,circle (circF t p))(hK28:K.length<=28){sa:Option Addr}{ns sc:Nat}(hS:Rows iC 1 h0 sa ns C)(hns:ns<=1000){ca:Option Addr}{k cc:Nat}(hco:Rows iC 1 h0 ca k (K.map fun p=>steps C p.n p.d)){ga:Option Addr}{gc:Nat}{hs:List Hd}(hG:GrR iC 1 h0 ga k hs (K.map (circF t)))
  {pa:Option Addr} {np pc:Nat} {P:List F2} (hP:Rows F2.cells 2 h0 pa np P) (hnp:np<=1000) (hsum:∀x y,sumL (fun p=>steps C p.n p.d*steps (circF t p) x y) K=steps C x y) {Q:Exit->SS->Prop}
  (hQ:∀h',Ext h0 h'->Q (.exit 0) ⟨[(5,.bool true)],0,[],h'⟩) :
  ∀(m:Nat) (j:Int) (h:AHeap),(np-j).toNat<=m->0<=j->j<=np->Ext h0 h->
   head 4 12 0 ⟨[(1,.slice sa ns sc),(5,.bool true),(6,.slice ca k cc),(8,.slice ga k gc),(10,.slice pa np pc),(11,.int .i64 j)],0,[],h⟩ Q:=by
 have hlen:=hP.len;refine upTo (fun m ih=>?_);intro j h hm i0 i1 he;by_cases ci:j<np
 rotate_left
 ·refine hA.roundR Try.func4 r4_ok (zc ?_)
  refine br (j<np) (by rw[e_lss hA,e_ofNat hA]) (fun c1=>absurd c1 ci) (fun c1=>?_)<;>refine zc ?_;exact hQ h he
 obtain⟨m,rfl⟩:∃k,m=k+1:=⟨m-1,by omega⟩
 replace ih:=ih m rfl
 have e2:arith .add .i64 j 1=j+1:=add64 hA (by omega) (by omega);refine hA.roundR Try.func4 r4_ok (zc ?_);refine br (j<np) (by rw[e_lss hA,e_ofNat hA]) (fun c1=>?_) (fun c1=>absurd ci c1)<;>refine zc ?_;refine ch_in hA (he.lowOK hlow0) hC hK hK28 (hco.ext he) (hG.ext he) (hP.ext he) i0 ci (fun h1 s hs x1=>?_) k 0 0 h (by omega) (by omega) (by omega) (by simp[sumL]) (.refl h);have e1:=he.trans x1;obtain⟨h9,hh9⟩:∃z,z=bump h1 14:=⟨_,rfl⟩;have eh9:Ext h1 h9:=by rw[hh9];exact ext_bump hA _ _
 have e9:Ext h0 h9:=e1.trans eh9;obtain⟨pb,po,x,y,rfl,hpb,hgt,_,f0,f1⟩:=fr_at (hP.ext e9) (i:=j) i0 ci;have u1:rd h9 pb (addN (place po j 2) 0) 1 [.int .i64 x]:=rd_fld hA f0;have u2:rd h9 pb (addN (place po j 2) 1) 1 [.int .i64 y]:=rd_fld hA f1;rw[hgt]at hs;refine zc ?_;rw[<-hh9];refine zq ?_;refine steps_ok hA (low_fresh hA h9) ((hS.ext e9).ext (ext_fresh hA h9)) hns (fun hz xz=>⟨_,rfl,?_⟩);obtain⟨z,hz'⟩:∃z,z=steps C x y:=⟨_,rfl⟩;rw[<-hz'];have es:s=z:=by rw[hs,hz'];exact hsum x y
 obtain⟨hX,hhX⟩:∃z,z=lowered h9 hz:=⟨_,rfl⟩;have eX:Ext h1 hX:=by rw[hhX];exact ext_low hA (e1.lowOK hlow0) eh9 xz
 refine zq ?_;rw[<-hhX];refine br (s≠z) (by rw[e_neq hA]) (fun c=>absurd es c) (fun _=>?_)<;>refine zc ?_;rw[e2];exact ih (j+1) hX (by omega) (by omega) (by omega) (e1.trans eX)
theorem rcheck_any{h:AHeap}(hlow:h.low<=h.next){a:Option Addr}{n c:Nat}{l:List Vk}(hl:Vs h a n l){Q:Value->AHeap->Prop}
  (hbad:∀e h',e≠0->Ext h h'->Q (.int .i64 e) h') (hok:∀h',CkR l 0->n<=64->Ext h h'->Q (.int .i64 0) h'):call 22 [.slice a n c] h Q:=by
 by_cases c0:n<=1000
 ·refine rclcheck_ok hA hlow hl c0 (fun e h' ke x=>?_)
  by_cases c1:e=0
  ·subst c1
   exact hok h' ke (by have:=ke.ok0.1;have:=hl.len;omega) x
  ·exact hbad e h' c1 x
 ·refine hA.bodyR Try.func22 r22_ok (hA.alike _ _ _ rfl) hlow (zc ?_)
  refine hA.bodyR Try.func46 r46_ok (hA.alike _ _ _ rfl) hlow (zc ?_);refine br (64<n) (by rw[e_gtr hA,e_ofNat hA];simp;omega) (fun c1=>?_) (fun c1=>by omega)<;>refine zc ?_;refine⟨_,rfl,?_⟩;refine zc ?_;refine br True (by rw[e_neq hA];rfl) (fun _=>?_) (fun q=>absurd trivial q)<;>refine zc ?_;exact hbad 4 h (by omega) (.refl h)
theorem chains_ok(hW:LW F)(hF:∀args h,F 21 args h=none){h:AHeap}(hlow:h.low<=h.next){a:Option Addr}{n c:Nat}{l:List Vk}(hl:Vs h a n l){sa:Option Addr}{ns sc:Nat}{C:List Int}(hS:Rows iC 1 h sa ns C){Q:Value->AHeap->Prop}(hQ:∀h',Ext h h'->Q (.bool true) h') :
  call 4 [.slice a n c,.slice sa ns sc] h Q:=by
 refine hA.bodyR Try.func4 r4_ok (hA.alike _ _ _ rfl) hlow (zc ?_);refine alive_ok hA hW hF hlow (fun h1 x1=>⟨_,rfl,?_⟩);refine zc ?_;refine rcheck_any hA (x1.lowOK hlow) (hl.ext x1) (fun e h2 he x2=>⟨_,rfl,?_⟩) (fun h2 ke n64 x2=>⟨_,rfl,?_⟩)
 ·refine zc ?_
  refine br (e≠0) (by rw[e_neq hA]) (fun _=>?_) (fun q=>absurd he q)<;>refine zc ?_;exact hQ h2 (x1.trans x2)
 have x12:=x1.trans x2;refine zc ?_;refine br False (by rw[e_neq hA];rfl) (fun q=>q.elim) (fun _=>?_)<;>refine zc ?_;refine br ((20:Int)<ns) (by rw[e_gtr hA,e_ofNat hA]) (fun c2=>?_) (fun c2=>?_)<;>refine zc ?_
 ·exact hQ h2 x12
 rw[show bnot true=false by rw[e_bnot hA];rfl];refine zc ?_;have hns:ns<=1000:=by omega
 refine Coefs_ok hA hW (x12.lowOK hlow) (hl.ext x12) (by omega) (hS.ext x12) hns (fun h3 ca k cc x e co rc kc x3=>⟨_,_,_,_,rfl,?_⟩);refine zc ?_;have x13:=x12.trans x3;refine bas_a hA hW (x13.lowOK hlow) (hl.ext x13) (by omega) (fun g f h4 ga k2 gc hs bo rg sg lg x4=>⟨_,_,_,_,rfl,?_⟩);have x14:=x13.trans x4;refine zc ?_;cases bo with
 |bad h0 kf=>exact absurd (kf.uniq ke) h0
 | @ok t pk _ hp=>
 refine br (e≠0) (by rw[e_neq hA]) (fun c3=>?_) (fun c3=>?_)<;>refine zc ?_
 ·have x0:x=[]/\k=0:=by
   have:=rc.len;cases co with
   |bad _ _=>exact⟨rfl,by simpa using this.symm⟩
   |arg _ _=>exact⟨rfl,by simpa using this.symm⟩
   |no _ _ _=>exact⟨rfl,by simpa using this.symm⟩
   |ok=>exact absurd rfl c3
  obtain⟨_,rfl⟩:=x0;refine br True (by rw[e_eql hA];rfl) (fun _=>?_) (fun q=>absurd trivial q)<;>refine zc ?_;rw[show cmp .eql (ofNat 0) 0=true by rw[e_eql hA,e_ofNat hA];rfl];refine zc ?_;exact hQ h4 x14
 have e0:e=0:=by omega
 subst e0;cases co with
 |bad h0 _=>exact absurd rfl h0
 | @ok t' pk' _ hc hv hp'=>
 obtain⟨rfl,rfl⟩:=hp.uniq hp';have lk:=rc.len;have lg':=rg.len;rw[List.length_map]at lk lg';have hk:k=k2:=by omega
 subst hk;refine br False (by rw[e_neq hA];rfl) (fun q=>q.elim) (fun _=>?_)<;>refine zc ?_;refine br ((k:Int)≠k) (by rw[e_neq hA,e_ofNat hA]) (fun q=>absurd rfl q) (fun _=>?_)<;>refine zc ?_;refine pairs_ok hA (x14.lowOK hlow) (hl.ext x14) (by omega) ke.ok0.2.2 (fun h5 pa np pc hP hf x5=>⟨_,_,_,rfl,?_⟩);have x15:=x14.trans x5;have pl:=hP.len;have bl:=basP_len l;refine zc ?_;refine ch_out hA (x15.lowOK hlow) hc (t:=t) (K:=chds t (basP l)) (fun p hp'=>by obtain⟨_,_,_,q⟩:=circ_walk ke hp hp';exact q) (chds_len t l) (hS.ext x15) hns (rc.ext (x4.trans x5)) (rg.ext x5) hP (by omega) (fun x y=>?_) (fun h6 x6=>?_) np 0 h5 (by omega) (by omega) (by omega) (.refl h5)
 ·rw[steps_flI,chain ke hp hc hv x y]
  congr 1
  funext p
  rw[steps_flI (circF t p)]
 ·refine zc ?_
  exact hQ h6 (x15.trans x6)
