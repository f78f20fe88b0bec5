/- That the code does what the models say (part 8). -/
import Derived.Test.YtkojogldchfkkaaGreatDoorScWk0
import Derived.Test.YtkojogldchfkkaaGreatDoorScWk1
import Derived.Test.YtkojogldchfkkaaGreatDoorScWk4
import Derived.Test.YtkojogldchfkkaaGreatDoorScWk6
import Derived.Test.YtkojogldchfkkaaGreatDoorScWk7
set_option linter.unusedSimpArgs false
set_option linter.unusedVariables false
open Go.Proofs Go.Shelf
open List
namespace Go.Proofs.YtkojogldchfkkaaGreatDoor
open Tryz
open Go.Vc Go.Md
set_option maxRecDepth 100000
set_option maxHeartbeats 4000000
theorem SQ(b:List ab)(z:Int)(hm:zY b=some z):Does prog 83 [.vw 0 3 0 b.length,.fn 88 []] [.fx 44 3 (List.map zc b)] (fun r X=>r=pI z/\X=[.fx 44 3 (List.map zc b)]):=by
 unfold zY at hm
 refine dW 1 19 [.tmp 4] func83 fun B=>nA fun hA=>?_
 refine qS ?_
 refine df fun K2 m t=>?_
 obtain⟨u,j,hm⟩:=zj hm
 have k:∀s,u s=some z->K2 [] [.fx 44 3 (List.map zc b)]:=by
  intro s hs;have hm:=j _ hs;clear hs
  try dsimp only at hm|-
  exact m _ _ (wQ)
 clear m j;refine qS ?_;refine Wp.block ?_;obtain⟨F,n,hm⟩:=jG hm;refine Wp.loopN (fun s=>[(0,.vw 0 3 0 b.length),(1,.fn 88 []),(7,pI ((List.take b.length b).length:Int)),(8,pI s)]) (fun s=>[.fx 44 3 (List.map zc b)]) ?_ hm ?_
 .exact gf
 clear hm;intro f D hm
 try dsimp only at hm|-
 refine qS ?_
 refine df fun _ v _=>cN hm (fun hm=>?_) fun hm=>?_
 .refine Wp.skip (v _ _ (df fun _ C _=>Wp.block (qS ?_)))
  obtain⟨G,hm⟩:=zh hm;obtain⟨I,o,hm⟩:=zd hm
  have c:=fun h=>qM (l:=b) (e:=zc) (d:=(ab.mk [] [] false)) (i:=(f.toNat:Nat)) h []
  refine dh fun J p=>?_
  simp only[go_sem,simprocAttr,c (by omega)]
  try refine⟨sL,?_⟩
  refine dA (av:=?av11) (g:=true) (fun hg=>P1 (ab.mk ((b.getD (f.toNat:Nat) (ab.mk [] [] false)).a) ((b.getD (f.toNat:Nat) (ab.mk [] [] false)).q) ((b.getD (f.toNat:Nat) (ab.mk [] [] false)).r)) _ o) (by simp only[go_sem,simprocAttr,c (by omega)];exact Is.mk) (by simp only[go_sem,simprocAttr,c (by omega)];exact Is.mk) (by simp only[go_sem,simprocAttr,c (by omega)];exact Is.mk) (by simp only[go_sem,simprocAttr,c (by omega)]) (by simp only[go_sem,simprocAttr,c (by omega)];exact Is.mk) ?cont11;intro E;simp only[go_sem,simprocAttr,c (by omega)];refine kA p ?_
  refine cR hm fun hm=>?_
  refine Wp.skip (C _ _ (qR ?_));simp only[zy,zq,↓reduceIte];refine⟨IntKind.i64.wrap (f+1),hm,?_⟩;exact gf
 .refine Wp.exit ?_
  simp only[zy,zq,↓reduceIte];have hm:=n _ hm
  try dsimp only at hm
  refine t _ _ _ _ ?_ (k () hm);exact gf
theorem SU(f:List ab)(z:Nat×Nat×List ab)(hm:zV f=some z):Does prog 87 [.buf 0,.fn 88 []] [.fx 44 3 (List.map zc f)] (fun r X=>r=.vw 0 3 z.1 z.2.1/\X=[.fx 44 3 (List.map zc z.2.2)]):=by
 unfold zV at hm
 refine dW 1 42 [.tmp 4] func87 fun B=>nA fun hA=>?_
 refine dL 0 0 (by simp only[go_sem,simprocAttr];exact Is.mk) (by simp only[go_sem,simprocAttr];exact Is.mk) ?_;simp only[go_sem,simprocAttr];refine qS ?_;obtain⟨U,p,hm⟩:=zd hm;refine sQ [0] (fun hg=>SQ f _ p) ?_
 refine df fun _ E _=>qS ?_
 refine cR hm fun hm=>?_
 refine Wp.skip (E _ _ (df fun K8 o F=>?_));obtain⟨G,j,hm⟩:=zj hm
 have n:∀s,G s=some z->K8 [(0,.vw 0 3 0 f.length),(5,pI s.1)] [.fx 44 3 (List.map zc s.2)]:=by
  intro s hs;have hm:=j _ hs;clear hs;obtain⟨M,J⟩:=s
  try dsimp only at hm|-
  refine o _ _ ?_;obtain⟨N,hm⟩:=zh hm
  refine dh fun K9 I=>?_
  simp only[go_sem,simprocAttr]
  try refine⟨sL,?_⟩
  refine Rg.clear (i:=?i10) (sz:=?sz10) (a:=?a10) (m:=?m10) (T:=?T10) (rows:=?rows10) (e:=?e10) (eb:=?eb10) (ez:=?ez10) (z:=?z10) (fx:=?fx10) Is.mk Is.mk Is.mk Is.mk Is.mk sg sg si si si si sg sg sg ?cont10;simp only[go_sem,simprocAttr];refine kA I ?_;obtain⟨O,hm⟩:=zh hm;exact wQ
 clear o j;refine qS ?_;refine Wp.block ?_;obtain⟨V,t,hm⟩:=jG hm;refine Wp.loopN (fun s=>[(0,.vw 0 3 0 f.length),(1,.fn 88 []),(5,pI s.1),(6,pI s.2.1)]) (fun s=>[.fx 44 3 (List.map zc s.2.2)]) ?_ hm ?_
 .exact gf
 clear hm;intro s L hm;obtain⟨g,c,b⟩:=s
 try dsimp only at hm|-
 refine df fun _ u _=>qS ?_
 refine cN hm (fun hm=>?_) fun hm=>?_
 .refine Wp.skip (u _ _ (df fun _ k _=>Wp.block ?_))
  obtain⟨P,hm⟩:=zh hm;obtain⟨Q,hm⟩:=zh hm
  have v:=fun h=>qM (l:=b) (e:=zc) (d:=(ab.mk [] [] false)) (i:=(c.toNat:Nat)) h []
  refine dh fun W C=>?_
  simp only[go_sem,simprocAttr,v (by omega)];refine kA C ?_;obtain⟨Y,D,hm⟩:=zd hm;refine sX (fun hg=>P1 (ab.mk ((b.getD (c.toNat:Nat) (ab.mk [] [] false)).a) ((b.getD (c.toNat:Nat) (ab.mk [] [] false)).q) ((b.getD (c.toNat:Nat) (ab.mk [] [] false)).r)) _ D) ?_
  refine cN hm (fun hm=>?_) fun hm=>?_
  .obtain⟨R,hm⟩:=zh hm
   obtain⟨S,hm⟩:=zh hm;refine q6 ?_;refine qR ?_;refine k _ _ (qR ?_);simp only[zy,zq,↓reduceIte];refine⟨(IntKind.i64.wrap (g+1),IntKind.i64.wrap (c+1),List.set b (g.toNat:Nat) (ab.mk ((b.getD (c.toNat:Nat) (ab.mk [] [] false)).a) ((b.getD (c.toNat:Nat) (ab.mk [] [] false)).q) ((b.getD (c.toNat:Nat) (ab.mk [] [] false)).r))),hm,?_⟩;exact gf
  .refine Wp.skip (k _ _ (qR ?_))
   simp only[zy,zq,↓reduceIte];refine⟨(g,IntKind.i64.wrap (c+1),b),hm,?_⟩;exact gf
 .refine Wp.exit ?_
  simp only[zy,zq,↓reduceIte];have hm:=t _ hm
  try dsimp only at hm
  refine F _ _ _ _ ?_ (n (g,b) hm);exact gf
theorem Ni(c:ai)(z:ai)(hm:CQ c=some z):Does prog 38 [.agg [lm za c.m,lm zc c.b,lm za c.i,lm zb c.h]] [] (fun r X=>r=.agg [lm za z.m,lm zc z.b,lm za z.i,lm zb z.h]/\X=[]):=by
 unfold CQ at hm
 refine dW 0 10 [.cell 2 26] func38 fun B=>nA fun hA=>?_
 refine qS ?_;obtain⟨j,f,hm⟩:=zd hm;refine sO [] (RC c _ f) ?_;refine dr 5 (by simp only[go_sem,simprocAttr];exact Is.mk) (by simp only[go_sem,simprocAttr]) ?_;simp only[go_sem,simprocAttr];obtain⟨k,g,hm⟩:=zd hm;refine sO [5] (SU j.2.2.2.2.2.1 _ g) ?_;refine dv 5 (by simp only[go_sem,simprocAttr];exact Is.mk) (by simp only[go_sem,simprocAttr]) ?_;simp only[go_sem,simprocAttr];refine qS ?_;refine Wp.freeze 5 (by simp only[go_sem,simprocAttr];exact Is.mk) (by first|(simp only[go_sem,simprocAttr];done)|(simp only[go_sem,simprocAttr];omega)) ?_;simp only[go_sem,simprocAttr];exact wR
theorem Sp(b:eA)(f:List aa)(i:List (eA×ab))(g:List (eA×Int))(j:List (eA×aa))(k:List (eA×ah))(c:Int)(z:Bool×(List (eA×Int)))(hm:H0 b f i g j k c=some z):Does prog 230 [pS b,.ptr 0 0,.ptr 6 0] [.cells 135 [.ptr 1 0],.cells 181 [lm za f,.mp 2,.mp 3,.mp 4,.mp 5],.mp true (zm Dt.s zc i),.mp false (zm Dt.s zE g),.mp true (zm Dt.s za j),.mp true (zm Dt.s zb k),.cells 3 [pI c]] (fun r X=>r=pB z.1/\X=[.cells 135 [.ptr 1 0],.cells 181 [lm za f,.mp 2,.mp 3,.mp 4,.mp 5],.mp true (zm Dt.s zc i),.mp false (zm Dt.s zE z.2),.mp true (zm Dt.s za j),.mp true (zm Dt.s zb k),.cells 3 [pI c]]):=by
 unfold H0 at hm
 refine dW 7 13 [.tmp 4] func230 fun B=>nA fun hA=>?_
 refine qS ?_;obtain⟨o,p,hm⟩:=zI hm;have l:=zw (e:=zE) zZ g b 0;have m:=zu (e:=zE) zZ g b;simp only[p,zE,map_nil]at l m;obtain⟨u,hm⟩:=zh hm;have n:=mD (e:=zE) zZ g b (IntKind.i64.wrap ((o.getD 0)+c));simp only[zE,map_nil]at n;have hA:=And.intro l (And.intro m n)
 refine dS (pl [(0,none),(1,none),(2,none),(3,none),(4,none),(5,none),(6,none),(7,none),(8,some [])]) fun _ t=>t _ _ ?_
 exact wQ
theorem RG(f:eA)(b:List aa)(i:List (eA×ab))(m:List (eA×Int))(j:List (eA×aa))(k:List (eA×ah))(c:Int)(z:Bool×(List (eA×Int)))(hm:KA f b i m j k c=some z):Does prog 76 [pS f,.fn 230 [.ptr 0 0,.ptr 6 0]] [.cells 135 [.ptr 1 0],.cells 181 [lm za b,.mp 2,.mp 3,.mp 4,.mp 5],.mp true (zm Dt.s zc i),.mp false (zm Dt.s zE m),.mp true (zm Dt.s za j),.mp true (zm Dt.s zb k),.cells 3 [pI c]] (fun r X=>r=pB z.1/\X=[.cells 135 [.ptr 1 0],.cells 181 [lm za b,.mp 2,.mp 3,.mp 4,.mp 5],.mp true (zm Dt.s zc i),.mp false (zm Dt.s zE z.2),.mp true (zm Dt.s za j),.mp true (zm Dt.s zb k),.cells 3 [pI c]]):=by
 unfold KA at hm
 refine dW 7 24 [.tmp 4] func76 fun B=>nA fun hA=>?_
 refine qS ?_
 refine df fun K2 I M=>?_
 obtain⟨J,n,hm⟩:=zj hm
 have v:∀s,J s=some z->K2 [] [.cells 135 [.ptr 1 0],.cells 181 [lm za b,.mp 2,.mp 3,.mp 4,.mp 5],.mp true (zm Dt.s zc i),.mp false (zm Dt.s zE s),.mp true (zm Dt.s za j),.mp true (zm Dt.s zb k),.cells 3 [pI c]]:=by
  intro T hs;have hm:=n _ hs;clear hs
  try dsimp only at hm|-
  exact I _ _ (wQ)
 clear I n;refine qS ?_;refine Wp.block ?_;obtain⟨W,C,hm⟩:=zl hm
 refine fL 0 f.length fun D=>?_
 refine Wp.forL (fun o s=>[(0,pS f),(1,.fn 230 [.ptr 0 0,.ptr 6 0]),(5,pI (o:Int))]) (fun o s=>[.cells 135 [.ptr 1 0],.cells 181 [lm za b,.mp 2,.mp 3,.mp 4,.mp 5],.mp true (zm Dt.s zc i),.mp false (zm Dt.s zE s),.mp true (zm Dt.s za j),.mp true (zm Dt.s zb k),.cells 3 [pI c]]) wF hm ?_;clear hm;intro o p U hm
 try dsimp only at hm|-
 refine df fun _ N _=>qS ?_
 refine Wp.cond rfl ⟨⟩ (fun t=>?_) fun t=>Wp.exit (M _ _ _ _ wF (v p (C _ (pw hm (uA t)))))
 have l:=rm t;have O:=pz l D;obtain⟨P,V,E,F,u,hm⟩:=py hm l;clear E;refine Wp.skip ?_;simp only[zy];refine N _ _ (df fun _ Q _=>Wp.block ?_);obtain⟨Y,hm⟩:=zh hm;obtain⟨R,L,G,hm⟩:=OZ hm;have hA:=And.intro O F
 refine dh fun K8 S=>?_
 simp only[go_sem,simprocAttr,hA]
 try refine⟨sL,?_⟩
 refine dO (av:=?av9) (g:=decide ((P.toNat:Int)=47)) [0,1,2,3,4,5,6] (fun hg=>Sp (List.take o f) b i p j k c _ (L hg)) (fun hg=>by obtain rfl:=G hg;rfl) (by simp only[go_sem,simprocAttr,hA];exact Is.mk) (by simp only[go_sem,simprocAttr,hA];exact Is.mk) (by simp only[go_sem,simprocAttr,hA];exact Is.mk) (by simp only[go_sem,simprocAttr,hA];exact Is.mk) (by simp only[go_sem,simprocAttr,hA]) (by simp only[go_sem,simprocAttr,hA]) ?cont9;simp only[go_sem,simprocAttr,hA];refine kA S ?_
 refine cR hm fun hm=>?_
 refine Wp.skip (Q _ _ (r6 ?_));exact wN R.2 l (u _ hm)
theorem Qg(c:eA)(k:Int)(b:List aa)(f:List (eA×ab))(j:List (eA×Int))(g:List (eA×aa))(i:List (eA×ah))(z:(List (eA×Int)))(hm:FS c k b f j g i=some z):Does prog 187 [.ptr 0 0,pS c,pI k] [.cells 181 [lm za b,.mp 1,.mp 2,.mp 3,.mp 4],.mp true (zm Dt.s zc f),.mp false (zm Dt.s zE j),.mp true (zm Dt.s za g),.mp true (zm Dt.s zb i)] (fun r X=>r=.tup []/\X=[.cells 181 [lm za b,.mp 1,.mp 2,.mp 3,.mp 4],.mp true (zm Dt.s zc f),.mp false (zm Dt.s zE z),.mp true (zm Dt.s za g),.mp true (zm Dt.s zb i)]):=by
 unfold FS at hm
 refine dW 5 9 [] func187 fun B=>nA fun hA=>?_
 refine qS ?_;obtain⟨m,l,hm⟩:=zd hm;refine eO [5,0,1,2,3,4,6] (RG c b f j g i k _ l) ?_;refine uy ?_;cases hm;exact gf
theorem Qb(b:ab)(f:List aa)(c:List (eA×ab))(j:List (eA×Int))(g:List (eA×aa))(i:List (eA×ah))(z:(List (eA×ab))×(List (eA×Int)))(hm:CY b f c j g i=some z):Does prog 155 [.ptr 0 0,.agg [pS b.a,pS b.q,pB b.r]] [.cells 181 [lm za f,.mp 1,.mp 2,.mp 3,.mp 4],.mp true (zm Dt.s zc c),.mp false (zm Dt.s zE j),.mp true (zm Dt.s za g),.mp true (zm Dt.s zb i)] (fun r X=>r=.tup []/\X=[.cells 181 [lm za f,.mp 1,.mp 2,.mp 3,.mp 4],.mp true (zm Dt.s zc z.1),.mp false (zm Dt.s zE z.2),.mp true (zm Dt.s za g),.mp true (zm Dt.s zb i)]):=by
 unfold CY at hm
 refine dW 5 29 [] func155 fun B=>nA fun hA=>?_
 refine qS ?_
 refine df fun _ o _=>?_
 obtain⟨D,p,hm⟩:=zI hm;have k:=zw (e:=zc) zZ c b.a (ab.mk [] [] false);have l:=zu (e:=zc) zZ c b.a;simp only[p,zc,map_nil]at k l;have hA:=And.intro k l
 refine dS (pl [(0,none),(1,none),(2,none),(3,none),(4,none),(5,none),(6,none),(7,none),(8,none),(9,none),(10,some [0,1,2,3,4,5,6,7,8,9]),(11,some [9]),(12,none)]) fun _ u=>u _ _ ?_
 refine qS ?_
 refine cN hm (fun hm=>?_) fun hm=>?_
 .obtain⟨G,t,hm⟩:=zd hm
  refine eO [0,1,2,3,4] (Qg b.a 1 f c j g i _ t) ?_;refine o _ _ ?_;obtain⟨E,hm⟩:=zh hm;have n:=mD (e:=zc) zZ c b.a b;simp only[zc,map_nil]at n;have hA:=n
  refine dE (pl [(0,none),(1,none),(2,none),(3,none),(4,none),(5,none),(6,none),(7,some [])]) fun _ v=>v _ _ ?_
  refine uy ?_;cases hm;exact gf
 .refine Wp.skip (o _ _ ?_)
  obtain⟨F,hm⟩:=zh hm;have m:=mD (e:=zc) zZ c b.a b;simp only[zc,map_nil]at m;have hA:=m
  refine dE (pl [(0,none),(1,none),(2,none),(3,none),(4,none),(5,none),(6,none),(7,some [])]) fun _ C=>C _ _ ?_
  refine uy ?_;cases hm;exact gf
theorem Re(c:ai)(z:(List (eA×ab))×(List (eA×Int))×(List (eA×aa))×(List (eA×ah))×List aa)(hm:Hs c=some z):Does prog 113 [.agg [lm za c.m,lm zc c.b,lm za c.i,lm zb c.h]] [] (fun r X=>r=.ptr 5 0/\X=[.cells 26 [.top,.top,.top,.top],.mp true (zm Dt.s zc z.1),.mp false (zm Dt.s zE z.2.1),.mp true (zm Dt.s za z.2.2.1),.mp true (zm Dt.s zb z.2.2.2.1),.cells 181 [lm za z.2.2.2.2,.mp 1,.mp 2,.mp 3,.mp 4]]):=by
 unfold Hs at hm
 refine dW 6 61 [.tmp 2] func113 fun B=>nA fun hA=>?_
 refine qS ?_;obtain⟨f,a9,hm⟩:=zd hm;refine sF (NE c.m _ a9) ?_
 refine df fun K4 a6 ar=>?_
 obtain⟨au,I,hm⟩:=zj hm
 have Q:∀s,au s=some z->K4 [(1,.ptr 0 0),(3,.ptr 5 0)] [.cells 26 [lm za c.m,lm zc c.b,lm za c.i,lm zb c.h],.mp true (zm Dt.s zc s.1),.mp false (zm Dt.s zE s.2),.mp true (zm Dt.s za []),.mp true (zm Dt.s zb []),.cells 181 [lm za f,.mp 1,.mp 2,.mp 3,.mp 4]]:=by
  intro s hs;have hm:=I _ hs;clear hs;obtain⟨g,k⟩:=s
  try dsimp only at hm|-
  refine a6 _ _ (df fun K5 a7 av=>?_);obtain⟨aw,J,hm⟩:=zj hm
  have R:∀s,aw s=some z->K5 [(1,.ptr 0 0),(3,.ptr 5 0)] [.cells 26 [lm za c.m,lm zc c.b,lm za c.i,lm zb c.h],.mp true (zm Dt.s zc g),.mp false (zm Dt.s zE k),.mp true (zm Dt.s za s),.mp true (zm Dt.s zb []),.cells 181 [lm za f,.mp 1,.mp 2,.mp 3,.mp 4]]:=by
   intro u hs;have hm:=J _ hs;clear hs
   try dsimp only at hm|-
   refine a7 _ _ (df fun K6 a8 ax=>?_);obtain⟨ay,L,hm⟩:=zj hm
   have S:∀s,ay s=some z->K6 [(3,.ptr 5 0)] [.cells 26 [.top,.top,.top,.top],.mp true (zm Dt.s zc g),.mp false (zm Dt.s zE k),.mp true (zm Dt.s za u),.mp true (zm Dt.s zb s),.cells 181 [lm za f,.mp 1,.mp 2,.mp 3,.mp 4]]:=by
    intro aE hs;have hm:=L _ hs;clear hs
    try dsimp only at hm|-
    exact a8 _ _ (wQ)
   clear a8 L;refine qS ?_;refine Wp.block ?_;obtain⟨aK,T,hm⟩:=zl hm
   refine fL 46 c.h.length fun U=>?_
   refine Wp.forL (fun o s=>[(3,.ptr 5 0),(46,lm zb c.h),(47,pI (c.h.length:Int)),(48,pI (o:Int))]) (fun o s=>[.cells 26 [lm za c.m,lm zc c.b,lm za c.i,lm zb c.h],.mp true (zm Dt.s zc g),.mp false (zm Dt.s zE k),.mp true (zm Dt.s za u),.mp true (zm Dt.s zb s),.cells 181 [lm za f,.mp 1,.mp 2,.mp 3,.mp 4]]) wF hm ?_;clear hm;intro o l az hm
   try dsimp only at hm|-
   refine qS ?_
   refine lB zb hm U (fun h=>ax _ _ _ _ wF (S l (T _ h))) fun V ac v aF W aG M hm hA _ ad=>?_
   refine q6 ?_;obtain⟨aL,hm⟩:=zh hm;have C:=mD (e:=zb) zZ l v.j v;simp only[zb,map_nil]at C;have hA:=And.intro ac (And.intro W C)
   refine dE (pl [(0,none),(1,none),(2,none),(3,none),(4,none),(5,none),(6,none),(7,some [])]) fun _ af=>af _ _ ?_
   refine ad _ _ (r6 ?_);exact wN (eG l v.j v) V (M _ hm)
  clear a7 J;refine qS ?_;refine Wp.block ?_;obtain⟨aM,Y,hm⟩:=zl hm
  refine fL 31 c.i.length fun Z=>?_
  refine Wp.forL (fun p s=>[(1,.ptr 0 0),(3,.ptr 5 0),(31,lm za c.i),(32,pI (c.i.length:Int)),(33,pI (p:Int))]) (fun p s=>[.cells 26 [lm za c.m,lm zc c.b,lm za c.i,lm zb c.h],.mp true (zm Dt.s zc g),.mp false (zm Dt.s zE k),.mp true (zm Dt.s za s),.mp true (zm Dt.s zb []),.cells 181 [lm za f,.mp 1,.mp 2,.mp 3,.mp 4]]) wF hm ?_;clear hm;intro p n aA hm
  try dsimp only at hm|-
  refine qS ?_
  refine lB za hm Z (fun h=>av _ _ _ _ wF (R n (Y _ h))) fun a0 ag D aH a1 aI N hm hA _ an=>?_
  refine q6 ?_;obtain⟨aN,hm⟩:=zh hm;have E:=mD (e:=za) zZ n D.e D;simp only[za,map_nil]at E;have hA:=And.intro ag (And.intro a1 E)
  refine dE (pl [(0,none),(1,none),(2,none),(3,none),(4,none),(5,none),(6,none),(7,some [])]) fun _ ao=>ao _ _ ?_
  refine an _ _ (r6 ?_);exact wN (eG n D.e D) a0 (N _ hm)
 clear a6 I;refine qS ?_;refine Wp.block ?_;obtain⟨aO,a2,hm⟩:=zl hm
 refine fL 20 c.b.length fun a3=>?_
 refine Wp.forL (fun t s=>[(1,.ptr 0 0),(3,.ptr 5 0),(20,lm zc c.b),(21,pI (c.b.length:Int)),(22,pI (t:Int))]) (fun t s=>[.cells 26 [lm za c.m,lm zc c.b,lm za c.i,lm zb c.h],.mp true (zm Dt.s zc s.1),.mp false (zm Dt.s zE s.2),.mp true (zm Dt.s za []),.mp true (zm Dt.s zb []),.cells 181 [lm za f,.mp 1,.mp 2,.mp 3,.mp 4]]) wF hm ?_;clear hm;intro t s aB hm;obtain⟨F,G⟩:=s
 try dsimp only at hm|-
 refine qS ?_
 refine lB zc hm a3 (fun h=>ar _ _ _ _ wF (Q (F,G) (a2 _ h))) fun a4 aP ap aJ aC aD O hm hA _ aq=>?_
 refine q6 ?_;obtain⟨P,a5,hm⟩:=zd hm;refine eO [5,1,2,3,4] (Qb ap f F G [] [] _ a5) ?_;refine aq _ _ (r6 ?_);exact wN (P.1,P.2) a4 (O _ hm)
theorem Qd(b:ae)(z:Int)(hm:FL b=some z):Does prog 156 [.agg [pI b.k,pS b.g.a,pS b.g.q,pB b.g.r,pS b.o.e,pS b.o.Value,pS b.f.j,pS b.f.a,pB b.f.u,pB b.f.t]] [] (fun r X=>r=pI z/\X=[]):=by
 unfold FL at hm
 refine dW 0 78 [.tmp 2] func156 fun B=>nA fun hA=>?_
 refine qS ?_;refine qS ?_;refine qS ?_
 refine df fun K4 m i=>?_
 obtain⟨V,l,hm⟩:=zj hm
 have c:∀s,V s=some z->K4 [(1,.ptr 0 0),(3,.ptr 1 0),(4,pI s.1)] [.cells 50 [pI b.k,pS b.g.a,pS b.g.q,pB b.g.r,pS b.o.e,pS b.o.Value,pS b.f.j,pS b.f.a,pB b.f.u,pB b.f.t],.cells 50 [pI 0,pS s.2.1,pS s.2.2.1,pB s.2.2.2.1,pS s.2.2.2.2.1,pS s.2.2.2.2.2.1,pS s.2.2.2.2.2.2.1,pS s.2.2.2.2.2.2.2.1,pB s.2.2.2.2.2.2.2.2.1,pB s.2.2.2.2.2.2.2.2.2]]:=by
  intro s hs;have hm:=l _ hs;clear hs;obtain⟨a3,M,N,O,P,Q,R,S,T,U⟩:=s
  try dsimp only at hm|-
  refine m _ _ (qS ?_)
  refine df fun _ W _=>qS ?_
  refine cR hm fun hm=>?_
  exact Wp.skip (W _ _ (wQ))
 clear m l;refine qS ?_;refine Wp.block (qS ?_)
 refine cN hm (fun hm=>?_) fun hm=>?_
 .obtain⟨Y,n,hm⟩:=zd hm
  refine dE (pl [(0,none),(1,none),(2,none),(3,none),(4,none),(5,none),(6,some []),(7,none)]) fun _ p=>?_
  refine cD (fun hg=>Nr b.g _ n) (p _ _ ?_);refine i _ _ _ _ ?_ (c (Y,b.g.a,b.g.q,b.g.r,[],[],[],[],false,false) hm);exact gf
 .refine qS ?_
  refine cN hm (fun hm=>?_) fun hm=>?_
  .obtain⟨Z,v,hm⟩:=zd hm
   refine dE (pl [(0,none),(1,none),(2,none),(3,none),(4,none),(5,none),(6,none),(7,none),(8,none),(9,none),(10,some []),(11,none)]) fun _ C=>?_
   refine cD (fun hg=>Nr (ab.mk b.g.a [] false) _ v) (C _ _ ?_);refine i _ _ _ _ ?_ (c (Z,b.g.a,[],false,[],[],[],[],false,false) hm);exact gf
  .refine qS ?_
   refine cN hm (fun hm=>?_) fun hm=>?_
   .obtain⟨a0,D,hm⟩:=zd hm
    refine dE (pl [(0,none),(1,none),(2,none),(3,none),(4,none),(5,none),(6,some []),(7,none)]) fun _ E=>?_
    refine cD (fun hg=>NC b.o _ D) (E _ _ ?_);refine i _ _ _ _ ?_ (c (a0,[],[],false,b.o.e,b.o.Value,[],[],false,false) hm);exact gf
   .refine qS ?_
    refine cN hm (fun hm=>?_) fun hm=>?_
    .obtain⟨a1,F,hm⟩:=zd hm
     refine dE (pl [(0,none),(1,none),(2,none),(3,none),(4,none),(5,none),(6,none),(7,none),(8,none),(9,none),(10,some []),(11,none)]) fun _ G=>?_
     refine cD (fun hg=>NC (aa.mk b.o.e []) _ F) (G _ _ ?_);refine i _ _ _ _ ?_ (c (a1,[],[],false,b.o.e,[],[],[],false,false) hm);exact gf
    .refine qS ?_
     refine cN hm (fun hm=>?_) fun hm=>?_
     .obtain⟨a2,I,hm⟩:=zd hm
      refine dE (pl [(0,none),(1,none),(2,none),(3,none),(4,none),(5,none),(6,some []),(7,none)]) fun _ J=>?_
      refine cD (fun hg=>P7 b.f _ I) (J _ _ ?_);refine i _ _ _ _ ?_ (c (a2,[],[],false,[],[],b.f.j,b.f.a,b.f.u,b.f.t) hm);exact gf
     .refine qS ?_
      refine cT hm fun hm=>?_
      refine qS ?_;obtain⟨a4,L,hm⟩:=zd hm;refine sX (fun hg=>CU b.f.j _ L) ?_
      refine cN hm (fun hm=>?_) fun hm=>?_
      .refine qR ?_
       refine i _ _ _ _ ?_ (c (5,[],[],false,[],[],b.f.j,[],false,false) hm);exact gf
      .refine Wp.skip (i _ _ _ _ ?_ (c (0,[],[],false,[],[],b.f.j,[],false,false) hm))
       exact gf
theorem Sz(b:eA)(c:List aa)(f:List (eA×ab))(g:List (eA×Int))(i:List (eA×aa))(j:List (eA×ah))(z:Bool)(hm:Ib b c f g i j=some z):Does prog 231 [pS b,.ptr 0 0] [.cells 135 [.ptr 1 0],.cells 181 [lm za c,.mp 2,.mp 3,.mp 4,.mp 5],.mp true (zm Dt.s zc f),.mp false (zm Dt.s zE g),.mp true (zm Dt.s za i),.mp true (zm Dt.s zb j)] (fun r X=>r=pB z/\X=[.cells 135 [.ptr 1 0],.cells 181 [lm za c,.mp 2,.mp 3,.mp 4,.mp 5],.mp true (zm Dt.s zc f),.mp false (zm Dt.s zE g),.mp true (zm Dt.s za i),.mp true (zm Dt.s zb j)]):=by
 unfold Ib at hm
 refine dW 6 17 [.tmp 3] func231 fun B=>nA fun hA=>?_
 refine qS ?_;obtain⟨n,m,hm⟩:=zI hm;have k:=zw (e:=zc) zZ f b (ab.mk [] [] false);have l:=zu (e:=zc) zZ f b;simp only[m,zc,map_nil]at k l;have hA:=And.intro k l;refine q6 ?_;exact wQ
theorem RH(c:eA)(b:List aa)(f:List (eA×ab))(i:List (eA×Int))(j:List (eA×aa))(k:List (eA×ah))(z:Bool)(hm:Hz c b f i j k=some z):Does prog 76 [pS c,.fn 231 [.ptr 0 0]] [.cells 135 [.ptr 1 0],.cells 181 [lm za b,.mp 2,.mp 3,.mp 4,.mp 5],.mp true (zm Dt.s zc f),.mp false (zm Dt.s zE i),.mp true (zm Dt.s za j),.mp true (zm Dt.s zb k)] (fun r X=>r=pB z/\X=[.cells 135 [.ptr 1 0],.cells 181 [lm za b,.mp 2,.mp 3,.mp 4,.mp 5],.mp true (zm Dt.s zc f),.mp false (zm Dt.s zE i),.mp true (zm Dt.s za j),.mp true (zm Dt.s zb k)]):=by
 unfold Hz at hm
 refine dW 6 24 [.tmp 4] func76 fun B=>nA fun hA=>?_
 refine qS ?_
 refine df fun K2 F G=>?_
 obtain⟨I,n,hm⟩:=zj hm
 have t:∀s,I s=some z->K2 [] [.cells 135 [.ptr 1 0],.cells 181 [lm za b,.mp 2,.mp 3,.mp 4,.mp 5],.mp true (zm Dt.s zc f),.mp false (zm Dt.s zE i),.mp true (zm Dt.s za j),.mp true (zm Dt.s zb k)]:=by
  intro s hs;have hm:=n _ hs;clear hs
  try dsimp only at hm|-
  exact F _ _ (wQ)
 clear F n;refine qS ?_;refine Wp.block ?_;obtain⟨Q,u,hm⟩:=zl hm
 refine fL 0 c.length fun v=>?_
 refine Wp.forL (fun m s=>[(0,pS c),(1,.fn 231 [.ptr 0 0]),(5,pI (m:Int))]) (fun m s=>[.cells 135 [.ptr 1 0],.cells 181 [lm za b,.mp 2,.mp 3,.mp 4,.mp 5],.mp true (zm Dt.s zc f),.mp false (zm Dt.s zE i),.mp true (zm Dt.s za j),.mp true (zm Dt.s zb k)]) wF hm ?_;clear hm;intro m s O hm
 try dsimp only at hm|-
 refine df fun _ J _=>qS ?_
 refine Wp.cond rfl ⟨⟩ (fun o=>?_) fun o=>Wp.exit (G _ _ _ _ wF (t () (u _ (pw hm (uA o)))))
 have l:=rm o;have L:=pz l v;obtain⟨M,P,C,D,p,hm⟩:=py hm l;clear C;refine Wp.skip ?_;simp only[zy];refine J _ _ (df fun _ N _=>Wp.block ?_);obtain⟨R,hm⟩:=zh hm;obtain⟨S,E,hm⟩:=zx hm;have hA:=And.intro L D;refine sQ (g:=decide ((M.toNat:Int)=47)) [0,1,2,3,4,5] (fun hg=>Sz (List.take m c) b f i j k _ (E hg)) ?_
 refine cR hm fun hm=>?_
 refine Wp.skip (N _ _ (r6 ?_));exact wN () l (p _ hm)
theorem Sj(b:eA)(c:List aa)(g:List (eA×ab))(f:List (eA×Int))(i:List (eA×aa))(j:List (eA×ah))(z:Bool)(hm:H3 b c g f i j=some z):Does prog 188 [.ptr 0 0,pS b] [.cells 181 [lm za c,.mp 1,.mp 2,.mp 3,.mp 4],.mp true (zm Dt.s zc g),.mp false (zm Dt.s zE f),.mp true (zm Dt.s za i),.mp true (zm Dt.s zb j)] (fun r X=>r=pB z/\X=[.cells 181 [lm za c,.mp 1,.mp 2,.mp 3,.mp 4],.mp true (zm Dt.s zc g),.mp false (zm Dt.s zE f),.mp true (zm Dt.s za i),.mp true (zm Dt.s zb j)]):=by
 unfold H3 at hm
 refine dW 5 20 [.tmp 4] func188 fun B=>nA fun hA=>?_
 refine qS ?_;obtain⟨o,m,hm⟩:=zd hm;refine sQ [5,0,1,2,3,4] (fun hg=>RH b c g f i j _ m) ?_;obtain⟨p,n,hm⟩:=zI hm;have k:=zw (e:=zE) zZ f b 0;have l:=zu (e:=zE) zZ f b;simp only[n,zE,map_nil]at k l;have hA:=And.intro k l;exact wQ
end Go.Proofs.YtkojogldchfkkaaGreatDoor
