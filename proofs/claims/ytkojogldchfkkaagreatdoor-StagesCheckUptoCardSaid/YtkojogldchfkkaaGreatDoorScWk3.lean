/- That the code does what the models say (part 3). -/
import Derived.Test.YtkojogldchfkkaaGreatDoorScWk0
import Derived.Test.YtkojogldchfkkaaGreatDoorScWk1
import Derived.Test.YtkojogldchfkkaaGreatDoorScWk2
set_option linter.unusedSimpArgs false
set_option linter.unusedVariables false
open Go.Proofs Go.Shelf
open List
namespace Go.Proofs.YtkojogldchfkkaaGreatDoor
open Tryz
open Go.Vc Go.Md
set_option maxRecDepth 100000
set_option maxHeartbeats 4000000
theorem OE(c:ai)(z:Int)(hm:ER c=some z):Does prog 28 [.agg [lm za c.m,lm zc c.b,lm za c.i,lm zb c.h]] [] (fun r X=>r=pI z/\X=[]):=by
 unfold ER at hm
 refine dW 0 160 [.tmp 2] func28 fun B=>nA fun hA=>?_
 refine qS ?_
 refine df fun _ bt _=>qS ?_
 refine cR hm fun hm=>?_
 refine Wp.skip (bt _ _ (qS ?_));refine qS ?_
 refine df fun K8 aV bu=>?_
 obtain⟨aW,I,hm⟩:=zj hm
 have au:∀s,aW s=some z->K8 [(1,.ptr 0 0),(4,.fn 64 [.ptr 1 0])] [.cells 26 [lm za c.m,lm zc c.b,lm za c.i,lm zb c.h],.cells 9 [pS s]]:=by
  intro bq hs;have hm:=I _ hs;clear hs
  try dsimp only at hm|-
  refine aV _ _ (qS ?_)
  refine df fun bv Y aX=>?_
  obtain⟨aY,J,hm⟩:=zj hm
  have Z:∀s,aY s=some z->bv [(1,.ptr 0 0),(4,.fn 64 [.ptr 1 0])] [.cells 26 [lm za c.m,lm zc c.b,lm za c.i,lm zb c.h],.cells 9 [pS s]]:=by
   intro br hs;have hm:=J _ hs;clear hs
   try dsimp only at hm|-
   refine Y _ _ (df fun bw a0 aZ=>?_);obtain⟨b0,L,hm⟩:=zj hm
   have a1:∀s,b0 s=some z->bw [(1,.ptr 0 0),(4,.fn 64 [.ptr 1 0])] [.cells 26 [lm za c.m,lm zc c.b,lm za c.i,lm zb c.h],.cells 9 [pS s]]:=by
    intro bs hs;have hm:=L _ hs;clear hs
    try dsimp only at hm|-
    refine a0 _ _ (df fun bx a2 b1=>?_);obtain⟨b2,M,hm⟩:=zj hm
    have a3:∀s,b2 s=some z->bx [] []:=by
     intro s hs;have hm:=M _ hs;clear hs
     try dsimp only at hm|-
     exact a2 _ _ (wQ)
    clear a2 M;refine qS ?_;refine Wp.block ?_;obtain⟨bU,av,hm⟩:=zl hm
    refine fL 140 c.h.length fun aw=>?_
    refine Wp.forL (fun N s=>[(4,.fn 64 [.ptr 1 0]),(140,lm zb c.h),(141,pI (c.h.length:Int)),(142,pI (N:Int))]) (fun N s=>[.cells 26 [lm za c.m,lm zc c.b,lm za c.i,lm zb c.h],.cells 9 [pS s]]) wF hm ?_;clear hm;intro N V bJ hm
    try dsimp only at hm|-
    refine qS ?_
    refine lB zb hm aw (fun h=>b1 _ _ _ _ wF (a3 () (av _ h))) fun ax bV a4 bK bz bA a5 hm hA _ b3=>?_
    refine q6 ?_;obtain⟨b4,ay,hm⟩:=zd hm;obtain⟨a6,az,hm⟩:=zd hm;obtain⟨bW,aA,hm⟩:=zd hm
    refine dS (pl [(0,none),(1,none),(2,none),(3,none),(4,none),(5,none),(6,some []),(7,some []),(8,none),(9,none)]) fun _ b5=>?_
    refine cD (fun hg=>P5 a4 _ ay) ?_;refine cE [1] (KS (N:Int) a4.j V _ az) ?_;refine cD (fun hg=>Bu [b4,a6.1] _ aA) (b5 _ _ ?_);refine q6 ?_
    refine cR hm fun hm=>?_
    refine Wp.skip (b3 _ _ (r6 ?_));exact wN a6.2 ax (a5 _ hm)
   clear a0 L;refine qS ?_;refine Wp.block ?_;obtain⟨bX,aB,hm⟩:=zl hm
   refine fL 119 c.i.length fun aC=>?_
   refine Wp.forL (fun O s=>[(1,.ptr 0 0),(4,.fn 64 [.ptr 1 0]),(119,lm za c.i),(120,pI (c.i.length:Int)),(121,pI (O:Int))]) (fun O s=>[.cells 26 [lm za c.m,lm zc c.b,lm za c.i,lm zb c.h],.cells 9 [pS s]]) wF hm ?_;clear hm;intro O o bL hm
   try dsimp only at hm|-
   refine qS ?_
   refine lB za hm aC (fun h=>aZ _ _ _ _ wF (a1 o (aB _ h))) fun aD bY a7 bM bB bC a8 hm hA _ b6=>?_
   refine q6 ?_;obtain⟨b7,aE,hm⟩:=zd hm;obtain⟨a9,aF,hm⟩:=zd hm;obtain⟨bZ,aG,hm⟩:=zd hm
   refine dS (pl [(0,none),(1,none),(2,none),(3,none),(4,none),(5,none),(6,some []),(7,some []),(8,none),(9,none)]) fun _ b8=>?_
   refine cD (fun hg=>P6 a7 _ aE) ?_;refine cE [1] (KS (O:Int) a7.e o _ aF) ?_;refine cD (fun hg=>Bu [b7,a9.1] _ aG) (b8 _ _ ?_);refine q6 ?_
   refine cR hm fun hm=>?_
   refine Wp.skip (b6 _ _ (r6 ?_));exact wN a9.2 aD (a8 _ hm)
  clear Y J;refine qS ?_;refine Wp.block ?_;obtain⟨c0,aH,hm⟩:=zl hm
  refine fL 73 c.b.length fun aI=>?_
  refine Wp.forL (fun n s=>[(1,.ptr 0 0),(4,.fn 64 [.ptr 1 0]),(8,.mp 2),(73,lm zc c.b),(74,pI (c.b.length:Int)),(75,pI (n:Int))]) (fun n s=>[.cells 26 [lm za c.m,lm zc c.b,lm za c.i,lm zb c.h],.cells 9 [pS s.1],.mp false (zm Dt.s fl s.2)]) wF hm ?_;clear hm;intro n s bN hm;obtain⟨p,l⟩:=s
  try dsimp only at hm|-
  refine qS ?_
  refine df fun _ b9 _=>Wp.cond rfl ⟨⟩ (fun F=>?_) fun F=>Wp.exit (aX _ _ _ _ wF (Z p (aH _ (pw hm (uA F)))))
  have u:=rm F;have v:=pz u aI;obtain⟨f,bO,k,bP,ac,hm⟩:=py hm u;replace k:=k zc;refine Wp.skip ?_;simp only[zy];refine b9 _ _ (df fun bD ad ba=>?_);obtain⟨bb,P,hm⟩:=zj hm
  have af:∀s,bb s=some z->bD [(1,.ptr 0 0),(4,.fn 64 [.ptr 1 0]),(8,.mp 2),(73,lm zc c.b),(74,pI (c.b.length:Int)),(75,pI (n:Int))] [.cells 26 [lm za c.m,lm zc c.b,lm za c.i,lm zb c.h],.cells 9 [pS s],.mp false (zm Dt.s fl (eG l f.a true))]:=by
   intro W hs;have hm:=P _ hs;clear hs
   try dsimp only at hm|-
   refine ad _ _ ?_;have hA:=And.intro v k;refine r6 ?_;exact wN (W,eG l f.a true) u (ac _ hm)
  clear ad P;refine Wp.block ?_;have hA:=And.intro v k;refine q6 ?_;obtain⟨bc,aJ,hm⟩:=zd hm;obtain⟨Q,bd,hm⟩:=zd hm;obtain⟨be,aK,hm⟩:=zd hm
  refine dS (pl [(0,none),(1,none),(2,none),(3,none),(4,none),(5,none),(6,some []),(7,some []),(8,none),(9,none)]) fun _ bf=>?_
  refine cD (fun hg=>PL f _ aJ) ?_;refine cE [1] (KS (n:Int) f.a p _ bd) ?_;refine cD (fun hg=>Bu [bc,Q.1] _ aK) (bf _ _ ?_)
  refine df fun bE ag an=>?_
  obtain⟨bg,R,hm⟩:=zj hm
  have E:∀s,bg s=some z->bE [(1,.ptr 0 0),(4,.fn 64 [.ptr 1 0]),(8,.mp 2),(10,.ptr 3 0),(11,pI s),(73,lm zc c.b),(74,pI (c.b.length:Int)),(75,pI (n:Int))] [.cells 26 [lm za c.m,lm zc c.b,lm za c.i,lm zb c.h],.cells 9 [pS Q.2],.mp false (zm Dt.s fl l),.cells 44 [pS f.a,pS f.q,pB f.r]]:=by
   intro c1 hs;have hm:=R _ hs;clear hs
   try dsimp only at hm|-
   refine ag _ _ (df fun _ bh _=>q6 ?_)
   refine cR hm fun hm=>?_
   refine Wp.skip (bh _ _ ?_);obtain⟨c2,hm⟩:=zh hm;have S:=mD (e:=fl) zZ l f.a true;simp only[fl,map_nil]at S;have hA:=And.intro v (And.intro k S);refine r6 ?_;refine ba _ _ _ _ ?_ (af Q.2 hm);simp only[go_sem,simprocAttr,hA]
   try exact qa
  clear ag R;refine q6 ?_
  refine cN hm (fun hm=>?_) fun hm=>?_
  .refine q6 ?_
   refine Wp.block ?_;obtain⟨c3,aL,hm⟩:=jG hm;refine Wp.loopN (fun s=>[(1,.ptr 0 0),(4,.fn 64 [.ptr 1 0]),(8,.mp 2),(10,.ptr 3 0),(11,pI s.1),(73,lm zc c.b),(74,pI (c.b.length:Int)),(75,pI (n:Int)),(93,pI (f.a.length:Int)),(94,pI s.2)]) (fun s=>[.cells 26 [lm za c.m,lm zc c.b,lm za c.i,lm zb c.h],.cells 9 [pS Q.2],.mp false (zm Dt.s fl l),.cells 44 [pS f.a,pS f.q,pB f.r]]) ?_ hm ?_
   .simp only[go_sem,simprocAttr,hA]
    try exact qa
   clear hm;intro s bQ hm;obtain⟨ao,g⟩:=s
   try dsimp only at hm|-
   refine q6 ?_
   refine df fun _ bi _=>cN hm (fun hm=>?_) fun hm=>?_
   .refine Wp.skip (bi _ _ (df fun _ ap _=>Wp.block (q6 ?_)))
    obtain⟨bF,bS,C,hm⟩:=mL hm;replace C:((f.a.getD g.toNat 0).toNat:Int)=bF:=C;obtain⟨c4,hm⟩:=zh hm;obtain⟨c5,bj,hm⟩:=zI hm;have T:=zw (e:=fl) zZ l (List.take g.toNat f.a) false;have U:=zu (e:=fl) zZ l (List.take g.toNat f.a);simp only[bj,fl,map_nil]at T U;have hA:=And.intro v (And.intro k (And.intro C (And.intro T U)));refine q6 ?_
    refine cN hm (fun hm=>?_) fun hm=>?_
    .refine r6 ?_
     refine ap _ _ (r6 ?_);simp only[zy,zq,↓reduceIte];refine⟨(11,IntKind.i64.wrap (g+1)),hm,?_⟩;simp only[go_sem,simprocAttr,hA]
     try exact qa
    .refine Wp.skip (ap _ _ (r6 ?_))
     simp only[zy,zq,↓reduceIte];refine⟨(ao,IntKind.i64.wrap (g+1)),hm,?_⟩;simp only[go_sem,simprocAttr,hA]
     try exact qa
   .refine Wp.exit ?_
    simp only[zy,zq,↓reduceIte];have hm:=aL _ hm
    try dsimp only at hm
    refine an _ _ _ _ ?_ (E ao hm);simp only[go_sem,simprocAttr,hA]
    try exact qa
  .refine Wp.skip (an _ _ _ _ ?_ (E be hm))
   simp only[go_sem,simprocAttr,hA]
   try exact qa
 clear aV I;refine qS ?_;refine Wp.block ?_;obtain⟨c6,aM,hm⟩:=zl hm
 refine fL 43 c.m.length fun aN=>?_
 refine Wp.forL (fun D s=>[(1,.ptr 0 0),(4,.fn 64 [.ptr 1 0]),(43,lm za c.m),(44,pI (c.m.length:Int)),(45,pI (D:Int))]) (fun D s=>[.cells 26 [lm za c.m,lm zc c.b,lm za c.i,lm zb c.h],.cells 9 [pS s]]) wF hm ?_;clear hm;intro D t bG hm
 try dsimp only at hm|-
 refine qS ?_
 refine lB za hm aN (fun h=>bu _ _ _ _ wF (au t (aM _ h))) fun aO c7 G bT bH bI aq hm hA _ bk=>?_
 refine q6 ?_;obtain⟨bl,aP,hm⟩:=zd hm;obtain⟨bm,aQ,hm⟩:=zd hm;obtain⟨bn,aR,hm⟩:=zd hm;obtain⟨bo,aS,hm⟩:=zd hm;obtain⟨ar,aT,hm⟩:=zd hm;obtain⟨c9,aU,hm⟩:=zd hm
 refine dS (pl [(0,none),(1,none),(2,none),(3,none),(4,none),(5,none),(6,none),(7,none),(8,none),(9,none),(10,none),(11,none),(12,none),(13,none),(14,some []),(15,some []),(16,none),(17,none)]) fun _ bp=>?_
 refine cD (fun hg=>Fu G.e _ aP) ?_;refine cD (fun hg=>uv (!bl) 5 _ aQ) ?_;refine cD (fun hg=>M3 G.Value _ aR) ?_;refine cD (fun hg=>uv (!bn) 2 _ aS) ?_;refine cE [1] (KS (D:Int) G.e t _ aT) ?_;refine cD (fun hg=>Bu [bm,bo,ar.1] _ aU) (bp _ _ ?_);refine q6 ?_
 refine cR hm fun hm=>?_
 refine Wp.skip (bk _ _ (r6 ?_));exact wN ar.2 aO (aq _ hm)
theorem CT(c:ai)(z:(List (eA×ab))×(List (eA×eA))×(List (eA×ah))×List aa)(hm:uR c=some z):Does prog 29 [.agg [lm za c.m,lm zc c.b,lm za c.i,lm zb c.h]] [] (fun r X=>r=.ptr 4 0/\X=[.cells 26 [.top,.top,.top,.top],.mp true (zm Dt.s zc z.1),.mp false (zm Dt.s eD z.2.1),.mp true (zm Dt.s zb z.2.2.1),.cells 67 [lm za z.2.2.2,.mp 1,.mp 2,.mp 3]]):=by
 unfold uR at hm
 refine dW 5 64 [.tmp 2] func29 fun B=>nA fun hA=>?_
 refine qS ?_;refine qS ?_
 refine df fun K3 a3 ao=>?_
 obtain⟨ap,F,hm⟩:=zj hm
 have O:∀s,ap s=some z->K3 [(1,.ptr 0 0),(3,.ptr 4 0)] [.cells 26 [lm za c.m,lm zc c.b,lm za c.i,lm zb c.h],.mp true (zm Dt.s zc s),.mp false (zm Dt.s eD []),.mp true (zm Dt.s zb []),.cells 67 [lm za c.m,.mp 1,.mp 2,.mp 3]]:=by
  intro f hs;have hm:=F _ hs;clear hs
  try dsimp only at hm|-
  refine a3 _ _ (df fun K4 a4 aq=>?_);obtain⟨ar,G,hm⟩:=zj hm
  have P:∀s,ar s=some z->K4 [(1,.ptr 0 0),(3,.ptr 4 0)] [.cells 26 [lm za c.m,lm zc c.b,lm za c.i,lm zb c.h],.mp true (zm Dt.s zc f),.mp false (zm Dt.s eD s),.mp true (zm Dt.s zb []),.cells 67 [lm za c.m,.mp 1,.mp 2,.mp 3]]:=by
   intro p hs;have hm:=G _ hs;clear hs
   try dsimp only at hm|-
   refine a4 _ _ (df fun K5 a5 au=>?_);obtain⟨av,I,hm⟩:=zj hm
   have Q:∀s,av s=some z->K5 [(3,.ptr 4 0)] [.cells 26 [.top,.top,.top,.top],.mp true (zm Dt.s zc f),.mp false (zm Dt.s eD p),.mp true (zm Dt.s zb s),.cells 67 [lm za c.m,.mp 1,.mp 2,.mp 3]]:=by
    intro az hs;have hm:=I _ hs;clear hs
    try dsimp only at hm|-
    exact a5 _ _ (wQ)
   clear a5 I;refine qS ?_;refine Wp.block ?_;obtain⟨aH,R,hm⟩:=zl hm
   refine fL 49 c.h.length fun S=>?_
   refine Wp.forL (fun J s=>[(3,.ptr 4 0),(49,lm zb c.h),(50,pI (c.h.length:Int)),(51,pI (J:Int))]) (fun J s=>[.cells 26 [lm za c.m,lm zc c.b,lm za c.i,lm zb c.h],.mp true (zm Dt.s zc f),.mp false (zm Dt.s eD p),.mp true (zm Dt.s zb s),.cells 67 [lm za c.m,.mp 1,.mp 2,.mp 3]]) wF hm ?_;clear hm;intro J g aA hm
   try dsimp only at hm|-
   refine qS ?_
   refine lB zb hm S (fun h=>au _ _ _ _ wF (Q g (R _ h))) fun a6 aw t aB T aC L hm hA _ a7=>?_
   refine q6 ?_;obtain⟨aI,hm⟩:=zh hm;have u:=mD (e:=zb) zZ g t.j t;simp only[zb,map_nil]at u;have hA:=And.intro aw (And.intro T u)
   refine dE (pl [(0,none),(1,none),(2,none),(3,none),(4,none),(5,none),(6,none),(7,some [])]) fun _ a8=>a8 _ _ ?_
   refine a7 _ _ (r6 ?_);exact wN (eG g t.j t) a6 (L _ hm)
  clear a4 G;refine qS ?_;refine Wp.block ?_;obtain⟨aJ,U,hm⟩:=zl hm
  refine fL 33 c.i.length fun V=>?_
  refine Wp.forL (fun n s=>[(1,.ptr 0 0),(3,.ptr 4 0),(33,lm za c.i),(34,pI (c.i.length:Int)),(35,pI (n:Int))]) (fun n s=>[.cells 26 [lm za c.m,lm zc c.b,lm za c.i,lm zb c.h],.mp true (zm Dt.s zc f),.mp false (zm Dt.s eD s),.mp true (zm Dt.s zb []),.cells 67 [lm za c.m,.mp 1,.mp 2,.mp 3]]) wF hm ?_;clear hm;intro n k ax hm
  try dsimp only at hm|-
  refine qS ?_
  refine lB za hm V (fun h=>aq _ _ _ _ wF (P k (U _ h))) fun W a9 v aD Y aE M hm hA _ ac=>?_
  refine q6 ?_;obtain⟨aK,hm⟩:=zh hm;have C:=mD (e:=eD) zZ k v.e v.Value;simp only[eD,map_nil]at C;have hA:=And.intro a9 (And.intro Y C)
  refine dE (pl [(0,none),(1,none),(2,none),(3,none),(4,none),(5,none),(6,none),(7,none),(8,some [])]) fun _ ad=>ad _ _ ?_
  refine ac _ _ (r6 ?_);exact wN (eG k v.e v.Value) W (M _ hm)
 clear a3 F;refine qS ?_;refine Wp.block ?_;obtain⟨aL,Z,hm⟩:=zl hm
 refine fL 18 c.b.length fun a0=>?_
 refine Wp.forL (fun o s=>[(1,.ptr 0 0),(3,.ptr 4 0),(18,lm zc c.b),(19,pI (c.b.length:Int)),(20,pI (o:Int))]) (fun o s=>[.cells 26 [lm za c.m,lm zc c.b,lm za c.i,lm zb c.h],.mp true (zm Dt.s zc s),.mp false (zm Dt.s eD []),.mp true (zm Dt.s zb []),.cells 67 [lm za c.m,.mp 1,.mp 2,.mp 3]]) wF hm ?_;clear hm;intro o l ay hm
 try dsimp only at hm|-
 refine qS ?_
 refine lB zc hm a0 (fun h=>ao _ _ _ _ wF (O l (Z _ h))) fun a1 af D aF a2 aG N hm hA _ ag=>?_
 refine q6 ?_;obtain⟨aM,hm⟩:=zh hm;have E:=mD (e:=zc) zZ l D.a D;simp only[zc,map_nil]at E;have hA:=And.intro af (And.intro a2 E)
 refine dE (pl [(0,none),(1,none),(2,none),(3,none),(4,none),(5,none),(6,none),(7,some [])]) fun _ an=>an _ _ ?_
 refine ag _ _ (r6 ?_);exact wN (eG l D.a D) a1 (N _ hm)
theorem P0(b:ae)(z:Int)(hm:FG b=some z):Does prog 107 [.agg [pI b.k,pS b.g.a,pS b.g.q,pB b.g.r,pS b.o.e,pS b.o.Value,pS b.f.j,pS b.f.a,pB b.f.u,pB b.f.t]] [] (fun r X=>r=pI z/\X=[]):=by
 unfold FG at hm
 refine dW 0 67 [.tmp 2] func107 fun B=>nA fun hA=>?_
 refine qS ?_;refine qS ?_;refine qS ?_
 refine df fun K4 N i=>?_
 obtain⟨a3,G,hm⟩:=zj hm
 have c:∀s,a3 s=some z->K4 [(3,.ptr 1 0),(4,pI s.1)] [.cells 50 [.top,.top,.top,.top,.top,.top,.top,.top,.top,.top],.cells 50 [pI 0,pS s.2.1,pS s.2.2.1,pB s.2.2.2.1,pS s.2.2.2.2.1,pS s.2.2.2.2.2.1,pS s.2.2.2.2.2.2.1,pS s.2.2.2.2.2.2.2.1,pB s.2.2.2.2.2.2.2.2.1,pB s.2.2.2.2.2.2.2.2.2]]:=by
  intro s hs;have hm:=G _ hs;clear hs;obtain⟨O,l,m,n,p,v,C,D,E,F⟩:=s
  try dsimp only at hm|-
  refine N _ _ ?_;obtain⟨a4,P,hm⟩:=zd hm;obtain⟨af,I,hm⟩:=zd hm
  refine rS fun _ a5=>?_
  refine cX (fun hg=>uv (!(true&&((decide (l=[]))&&((decide (m=[]))&&((decide (n=false))&&((decide (p=[]))&&((decide (v=[]))&&((decide (C=[]))&&((decide (D=[]))&&((decide (E=false))&&(decide (F=false)))))))))))) 2 _ P) ?_;refine cX (fun hg=>Bu [O,a4] _ I) (a5 _ _ ?_);exact wR
 clear N G;refine qS ?_;refine qS ?_;refine Wp.block (qS ?_)
 refine cN hm (fun hm=>?_) fun hm=>?_
 .obtain⟨a6,Q,hm⟩:=zd hm
  refine eX (fun hg=>PL b.g _ Q) ?_;refine i _ _ _ _ ?_ (c (a6,[],[],false,b.o.e,b.o.Value,b.f.j,b.f.a,b.f.u,b.f.t) hm);exact eS
 .refine qS ?_
  refine cN hm (fun hm=>?_) fun hm=>?_
  .obtain⟨a7,R,hm⟩:=zd hm
   obtain⟨a8,S,hm⟩:=zd hm
   refine rE fun _ T=>?_
   refine cX (fun hg=>Hw b.g.a _ R) ?_;refine cX (fun hg=>uv (!a7) 5 _ S) (T _ _ ?_);refine i _ _ _ _ ?_ (c (a8,[],b.g.q,b.g.r,b.o.e,b.o.Value,b.f.j,b.f.a,b.f.u,b.f.t) hm);exact eS
  .refine qS ?_
   refine cN hm (fun hm=>?_) fun hm=>?_
   .obtain⟨a9,U,hm⟩:=zd hm
    refine eX (fun hg=>P6 b.o _ U) ?_;refine i _ _ _ _ ?_ (c (a9,b.g.a,b.g.q,b.g.r,[],[],b.f.j,b.f.a,b.f.u,b.f.t) hm);exact eS
   .refine qS ?_
    refine cN hm (fun hm=>?_) fun hm=>?_
    .obtain⟨ac,V,hm⟩:=zd hm
     obtain⟨ad,W,hm⟩:=zd hm
     refine rE fun _ Y=>?_
     refine cX (fun hg=>Hw b.o.e _ V) ?_;refine cX (fun hg=>uv (!ac) 5 _ W) (Y _ _ ?_);refine i _ _ _ _ ?_ (c (ad,b.g.a,b.g.q,b.g.r,[],b.o.Value,b.f.j,b.f.a,b.f.u,b.f.t) hm);exact eS
    .refine qS ?_
     refine cN hm (fun hm=>?_) fun hm=>?_
     .obtain⟨Z,J,hm⟩:=zd hm
      refine eX (fun hg=>P5 b.f _ J) ?_;refine i _ _ _ _ ?_ (c (Z,b.g.a,b.g.q,b.g.r,b.o.e,b.o.Value,[],[],false,false) hm);exact eS
     .refine qS ?_
      refine cT hm fun hm=>?_
      obtain⟨a0,L,hm⟩:=zd hm;obtain⟨a1,M,hm⟩:=zd hm
      refine rE fun _ a2=>?_
      refine cX (fun hg=>Fu b.f.j _ L) ?_;refine cX (fun hg=>uv (!a0) 5 _ M) (a2 _ _ ?_);refine i _ _ _ _ ?_ (c (a1,b.g.a,b.g.q,b.g.r,b.o.e,b.o.Value,[],b.f.a,b.f.u,b.f.t) hm);exact eS
theorem Qp(c:eA)(b:eA)(z:Bool)(hm:F1 c b=some z):Does prog 151 [pS c,pS b] [] (fun r X=>r=pB z/\X=[]):=by
 unfold F1 at hm
 refine dW 0 18 [.tmp 4] func151 fun B=>nA fun hA=>?_
 refine qS ?_;obtain⟨f,hm⟩:=zh hm;exact wQ
theorem C3(c:eA)(b:eA)(z:Bool)(hm:z8 c b=some z):Does prog 109 [pS c,pS b] [] (fun r X=>r=pB z/\X=[]):=by
 unfold z8 at hm
 refine dW 0 8 [.tmp 4] func109 fun B=>nA fun hA=>?_
 refine qS ?_;obtain⟨g,f,hm⟩:=zd hm;refine sX (fun hg=>Qp c b _ f) ?_;exact wR
theorem MA(b:eA)(c:eA)(z:Bool)(hm:yD b c=some z):Does prog 70 [pS b,pS c] [] (fun r X=>r=pB z/\X=[]):=by
 unfold yD at hm
 refine dW 0 9 [.tmp 4] func70 fun B=>nA fun hA=>?_
 refine qS ?_;obtain⟨g,hm⟩:=zh hm;obtain⟨i,f,hm⟩:=zd hm;refine sX (fun hg=>C3 b (c++([47]:eA)) _ f) ?_;exact wR
end Go.Proofs.YtkojogldchfkkaaGreatDoor
