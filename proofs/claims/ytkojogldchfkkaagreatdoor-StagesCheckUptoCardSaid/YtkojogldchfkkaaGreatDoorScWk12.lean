/- That the code does what the models say (part 12). -/
import Derived.Test.YtkojogldchfkkaaGreatDoorScWk0
import Derived.Test.YtkojogldchfkkaaGreatDoorScWk1
import Derived.Test.YtkojogldchfkkaaGreatDoorScWk6
import Derived.Test.YtkojogldchfkkaaGreatDoorScWk8
import Derived.Test.YtkojogldchfkkaaGreatDoorScWk10
import Derived.Test.YtkojogldchfkkaaGreatDoorScWk11
set_option linter.unusedSimpArgs false
set_option linter.unusedVariables false
open Go.Proofs Go.Shelf
open List
namespace Go.Proofs.YtkojogldchfkkaaGreatDoor
open Tryz
open Go.Vc Go.Md
set_option maxRecDepth 100000
set_option maxHeartbeats 4000000
theorem RZ(b:eA)(c:List ae)(z:Int×List ae)(hm:FV b c=some z):Does prog 208 [pS b,.fn 209 [.ptr 0 0]] [.cells 27 [.buf 1],.buf 50 10 (List.map zf c)] (fun r X=>r=pI z.1/\X=[.cells 27 [.buf 1],.buf 50 10 (List.map zf z.2)]):=by
 unfold FV at hm
 refine dW 2 40 [.tmp 4] func208 fun B=>nA fun hA=>?_
 refine qS ?_
 refine df fun K2 n F=>?_
 obtain⟨G,f,hm⟩:=zj hm
 have l:∀s,G s=some z->K2 [] [.cells 27 [.buf 1],.buf 50 10 (List.map zf s)]:=by
  intro M hs;have hm:=f _ hs;clear hs
  try dsimp only at hm|-
  exact n _ _ (wQ)
 clear n f;refine qS ?_;refine Wp.block ?_;obtain⟨O,p,hm⟩:=jG hm;refine Wp.loopN (fun s=>[(0,pS s.1),(1,.fn 209 [.ptr 0 0]),(5,pI s.2.1)]) (fun s=>[.cells 27 [.buf 1],.buf 50 10 (List.map zf s.2.2)]) ?_ hm ?_
 .exact fI
 clear hm;intro s N hm;obtain⟨i,t,j⟩:=s
 try dsimp only at hm|-
 refine df fun _ I _=>qS ?_
 refine cN hm (fun hm=>?_) fun hm=>?_
 .refine Wp.skip (I _ _ (df fun _ J _=>Wp.block ?_))
  obtain⟨k,u,hm⟩:=zd hm;refine sX (fun hg=>HK i ([10]:eA) _ u) ?_;obtain⟨o,v,hm⟩:=zd hm;refine sX (fun hg=>RJ k.1 _ v) ?_
  refine df fun _ C _=>?_
  obtain⟨L,D,m,hm⟩:=OZ hm
  refine dh fun P E=>?_
  simp only[go_sem,simprocAttr]
  try refine⟨sd,?_⟩
  refine dO (av:=?av15) (g:=!((!k.2.2)||(!o.2))) [0,1] (fun hg=>Si o.1 j _ (D hg)) (fun hg=>by obtain rfl:=m hg;rfl) si si si si sg sg ?cont15;simp only[go_sem,simprocAttr];refine kA E ?_
  refine cR hm fun hm=>?_
  refine Wp.skip (C _ _ (qR ?_));refine J _ _ (qR ?_);simp only[zy,zq,↓reduceIte];refine⟨(k.2.1,IntKind.i64.wrap (t+1),L.2),hm,?_⟩;exact fI
 .refine Wp.exit ?_
  simp only[zy,zq,↓reduceIte];have hm:=p _ hm
  try dsimp only at hm
  refine F _ _ _ _ ?_ (l j hm);exact fI
theorem Qc(b:List ae)(z:Int)(hm:CZ b=some z):Does prog 128 [lm zf b] [] (fun r X=>r=pI z/\X=[]):=by
 unfold CZ at hm
 refine dW 0 18 [.tmp 2] func128 fun B=>nA fun hA=>?_
 refine qS ?_
 refine df fun K2 j o=>?_
 obtain⟨p,c,hm⟩:=zj hm
 have g:∀s,p s=some z->K2 [] []:=by
  intro s hs;have hm:=c _ hs;clear hs
  try dsimp only at hm|-
  exact j _ _ (wQ)
 clear j c;refine qS ?_;refine Wp.block ?_;obtain⟨F,k,hm⟩:=zl hm
 refine fL 6 b.length fun l=>?_
 refine Wp.forL (fun f s=>[(6,lm zf b),(7,pI (b.length:Int)),(8,pI (f:Int))]) (fun f s=>[]) wF hm ?_;clear hm;intro f s v hm
 try dsimp only at hm|-
 refine qS ?_
 refine lB zf hm l (fun h=>o _ _ _ _ wF (g () (k _ h))) fun m G t E C D i hm hA _ u=>?_
 refine q6 ?_;obtain⟨I,n,hm⟩:=zd hm;refine sX (fun hg=>Qd t _ n) ?_;refine q6 ?_
 refine cR hm fun hm=>?_
 refine Wp.skip (u _ _ (r6 ?_));exact wN () m (i _ hm)
theorem RU(b:eA)(z:List ae×Int×Int)(hm:HU b=some z):Does prog 166 [pS b] [] (fun r X=>r=.tup [lm zf z.1,pI z.2.1,pI z.2.2]/\X=[]):=by
 unfold HU at hm
 refine dW 0 23 [.tmp 2,.tmp 3,.tmp 4] func166 fun B=>nA fun hA=>?_
 refine qS ?_
 refine df fun _ i _=>qS ?_
 refine cN hm (fun hm=>?_) fun hm=>?_
 .refine qS ?_
  refine Wp.ret ?_;simp only[zy,zq];refine zL ?_;cases hm;exact tr
 .refine Wp.skip (i _ _ (qS ?_))
  refine dw 0 0 50 10 rfl rfl ?_;simp only[go_sem,simprocAttr];obtain⟨j,c,hm⟩:=zd hm;refine sO [0,1] (RZ b [] _ c) ?_
  refine df fun _ k _=>qS ?_
  refine cN hm (fun hm=>?_) fun hm=>?_
  .refine qS ?_
   refine Wp.ret ?_;simp only[zy,zq];refine zL ?_;cases hm;exact fI
  .refine Wp.skip (k _ _ (df fun _ f _=>?_))
   obtain⟨l,g,hm⟩:=zd hm;refine sX (fun hg=>Qc j.2 _ g) ?_;refine qS ?_
   refine cN hm (fun hm=>?_) fun hm=>?_
   .refine qS ?_
    refine Wp.ret ?_;simp only[zy,zq];refine zL ?_;cases hm;exact fI
   .exact Wp.skip (f _ _ (wQ))
theorem Qo(b:eA)(c:List eA)(f:Bool)(z:List ae×Int×List eA×Bool)(hm:zo b c f=some z):Does prog 122 [.ptr 0 0,pS b] [.cells 142 [lm eD c,pB f]] (fun r X=>r=.tup [lm zf z.1,pI z.2.1]/\X=[.cells 142 [lm eD z.2.2.1,pB z.2.2.2]]):=by
 unfold zo at hm
 refine dW 1 66 [.tmp 4,.tmp 5] func122 fun B=>nA fun hA=>?_
 refine qS ?_;obtain⟨g,i,hm⟩:=zd hm;obtain⟨n,j,hm⟩:=zd hm
 refine rS fun _ o=>?_
 refine cO [0] (NA b c f _ i) ?_;refine cX (fun hg=>Ri g.1 _ j) (o _ _ ?_)
 refine df fun _ p _=>qS ?_
 refine cN hm (fun hm=>?_) fun hm=>?_
 .refine qS ?_
  refine qS ?_;refine Wp.ret ?_;simp only[zy,zq];refine zL ?_;cases hm;exact fI
 .refine Wp.skip (p _ _ ?_)
  obtain⟨u,hm⟩:=zh hm;obtain⟨t,k,hm⟩:=zd hm;obtain⟨v,l,hm⟩:=zd hm
  refine rS fun _ m=>?_
  refine cX (fun hg=>PV (List.take n.1.toNat g.2.2) [] _ k) ?_;refine cF (RU t _ l) (m _ _ ?_);obtain⟨C,hm⟩:=zh hm;refine q6 ?_;refine qS ?_;exact wQ
theorem Q2(b:eA)(z:Bool)(hm:Fl b=some z):Does prog 123 [pS b] [] (fun r X=>r=pB z/\X=[]):=by
 unfold Fl at hm
 refine dW 0 36 [.tmp 2] func123 fun B=>nA fun hA=>?_
 refine qS ?_
 refine df fun K2 n t=>?_
 obtain⟨u,f,hm⟩:=zj hm
 have j:∀s,u s=some z->K2 [(0,pS b)] []:=by
  intro s hs;have hm:=f _ hs;clear hs
  try dsimp only at hm|-
  exact n _ _ (wQ)
 clear n f;refine qS ?_;refine Wp.block ?_;obtain⟨G,o,hm⟩:=zl hm
 refine fL 0 b.length fun p=>?_
 refine Wp.forL (fun g s=>[(0,pS b),(3,pI (g:Int))]) (fun g s=>[]) wF hm ?_;clear hm;intro g s E hm
 try dsimp only at hm|-
 refine df fun _ v _=>qS ?_
 refine Wp.cond rfl ⟨⟩ (fun i=>?_) fun i=>Wp.exit (t _ _ _ _ wF (j () (o _ (pw hm (uA i)))))
 have c:=rm i;have C:=pz c p;obtain⟨I,F,k,l,m,hm⟩:=py hm c;clear k;refine Wp.skip ?_;simp only[zy];refine v _ _ (df fun _ D _=>Wp.block ?_);have hA:=And.intro C l;refine q6 ?_
 refine cR hm fun hm=>?_
 refine Wp.skip (D _ _ (r6 ?_));exact wN () c (m _ hm)
theorem Pu(b:eA)(z:eA)(hm:Bq b=some z):Does prog 98 [pS b] [] (fun r X=>r=pS z/\X=[]):=by
 unfold Bq at hm
 refine dW 0 39 [.tmp 2] func98 fun B=>nA fun hA=>?_
 refine qS ?_;refine qS ?_
 refine df fun K3 G R=>?_
 obtain⟨S,l,hm⟩:=zj hm
 have u:∀s,S s=some z->K3 [(3,.p (.i .u64 s))] []:=by
  intro I hs;have hm:=l _ hs;clear hs
  try dsimp only at hm|-
  refine G _ _ (qS ?_)
  refine df fun K5 J T=>?_
  obtain⟨U,m,hm⟩:=zj hm
  have v:∀s,U s=some z->K5 [(5,.buf 0)] [.buf 5 1 (List.map fv s)]:=by
   intro Y hs;have hm:=m _ hs;clear hs
   try dsimp only at hm|-
   exact J _ _ (wQ)
  clear J m;refine qS ?_;refine Wp.block ?_;obtain⟨a6,M,hm⟩:=jG hm;refine Wp.loopN (fun s=>[(3,.p (.i .u64 I)),(5,.buf 0),(22,pI ((List.replicate 16 0).length:Int)),(23,pI s.1)]) (fun s=>[.buf 5 1 (List.map fv s.2)]) ?_ hm ?_
  .exact fI
  clear hm;intro s Z hm;obtain⟨c,k⟩:=s
  try dsimp only at hm|-
  refine qS ?_
  refine df fun _ V _=>cN hm (fun hm=>?_) fun hm=>?_
  .refine Wp.skip (V _ _ (df fun _ N _=>Wp.block (qS ?_)))
   obtain⟨a3,hm⟩:=zh hm;obtain⟨L,a0,f,hm⟩:=mL hm;replace f:((([48,49,50,51,52,53,54,55,56,57,97,98,99,100,101,102]:eA).getD ((fj .and .u64 (Int.fdiv I (2^(fz .u64 (IntKind.i64.wrap (60-(IntKind.i64.wrap (4*c))))))) 15).toNat) 0).toNat:Int)=L:=f;obtain⟨a4,hm⟩:=zh hm;have hA:=f;refine r6 ?_;refine N _ _ (r6 ?_);simp only[zy,zq,↓reduceIte];refine⟨(IntKind.i64.wrap (c+1),List.set k c.toNat L),hm,?_⟩;simp only[go_sem,simprocAttr,hA]
   try exact lF
  .refine Wp.exit ?_
   simp only[zy,zq,↓reduceIte];have hm:=M _ hm
   try dsimp only at hm
   refine T _ _ _ _ ?_ (v k hm);exact fI
 clear G l;refine qS ?_;refine Wp.block ?_;obtain⟨a5,C,hm⟩:=zl hm
 refine fL 0 b.length fun D=>?_
 refine Wp.forL (fun n s=>[(0,pS b),(3,.p (.i .u64 s)),(4,pI (n:Int))]) (fun n s=>[]) wF hm ?_;clear hm;intro n o a1 hm
 try dsimp only at hm|-
 refine df fun _ O _=>qS ?_
 refine Wp.cond rfl ⟨⟩ (fun j=>?_) fun j=>Wp.exit (R _ _ _ _ wF (u o (C _ (pw hm (uA j)))))
 have g:=rm j;have P:=pz g D;obtain⟨W,a2,E,F,t,hm⟩:=py hm g;clear E;refine Wp.skip ?_;simp only[zy];refine O _ _ (df fun _ Q _=>Wp.block ?_);have hA:=And.intro P F;refine r6 ?_;refine Q _ _ (r6 ?_);exact wN (IntKind.u64.wrap ((fj .xor .u64 o (IntKind.u64.wrap (W.toNat:Int)))*1099511628211)) g (t _ hm)
theorem R7(b:eA)(z:aj×Int)(hm:C4 b=some z):Does prog 94 [pS b] [] (fun r X=>r=.tup [.agg [pS z.1.v,lm zf z.1.y,lm zf z.1.z],pI z.2]/\X=[]):=by
 unfold C4 at hm
 refine dW 0 111 [.cell 2 83,.tmp 3] func94 fun B=>nA fun hA=>?_
 refine qS ?_;obtain⟨c,I,hm⟩:=zd hm;refine sF (Sb b ([10]:eA) _ I) ?_;obtain⟨V,hm⟩:=zh hm;refine q6 ?_;obtain⟨n,J,hm⟩:=zd hm;refine sO [1] (NA ([106,111,117,114,110,97,108]:eA) (List.take ((IntKind.i64.wrap ((c.length:Int)-1)).toNat) c) false _ J) ?_;refine qS ?_;obtain⟨o,L,hm⟩:=zd hm;refine sO [1] (Qo ([99,104,97,110,103,101,115]:eA) n.2.2 n.2.1 _ L) ?_;obtain⟨f,M,hm⟩:=zd hm;refine sO [1] (Qo ([111,108,100]:eA) o.2.2.1 o.2.2.2 _ M) ?_;refine qS ?_
 refine df fun R t u=>?_
 obtain⟨S,C,hm⟩:=zj hm
 have k:∀s,S s=some z->R [(0,pS b),(2,.ptr 0 0),(4,lm eD c),(5,.ptr 1 0),(6,.ptr 2 0),(7,pI o.2.1),(8,pI f.2.1),(9,pI s)] [.cells 83 [pS ([]),.nils,.nils],.cells 142 [lm eD f.2.2.1,pB f.2.2.2],.cells 83 [pS n.1,lm zf o.1,lm zf f.1]]:=by
  intro m hs;have hm:=C _ hs;clear hs
  try dsimp only at hm|-
  refine t _ _ ?_;obtain⟨D,N,hm⟩:=zd hm;refine sO [1] (NA ([115,117,109]:eA) f.2.2.1 f.2.2.2 _ N) ?_
  refine df fun _ O _=>?_
  obtain⟨W,hm⟩:=zh hm;obtain⟨a1,P,hm⟩:=zx hm;have p:=uP (l:=c) (e:=eD) (d:=[]) (i:=(IntKind.i64.wrap ((c.length:Int)-1)).toNat);simp only[eD,map_nil]at p;have hA:=p;refine sX (g:=!((D.2.1||(decide (0<(D.2.2.length:Int))))||(!decide ((c.getD ((IntKind.i64.wrap ((c.length:Int)-1)).toNat) [])=[])))) (fun hg=>Q2 D.1 _ (P hg)) ?_
  refine cN hm (fun hm=>?_) fun hm=>?_
  .refine qS ?_
   refine Wp.ret ?_;simp only[zy,zq];refine zL ?_;cases hm;exact fI
  .refine Wp.skip (O _ _ (df fun _ Q _=>Wp.block ?_))
   obtain⟨Y,hm⟩:=zh hm;obtain⟨Z,E,hm⟩:=zd hm;refine sX (fun hg=>Pu (List.take m.toNat b) _ E) ?_
   refine cN hm (fun hm=>?_) fun hm=>?_
   .refine qS ?_
    refine Wp.ret ?_;simp only[zy,zq];refine zL ?_;cases hm;exact fI
   .obtain⟨a0,F,hm⟩:=zd hm
    refine sX (fun hg=>CU n.1 _ F) ?_
    refine cN hm (fun hm=>?_) fun hm=>?_
    .refine qS ?_
     refine Wp.ret ?_;simp only[zy,zq];refine zL ?_;cases hm;exact fI
    .refine qS ?_
     refine cN hm (fun hm=>?_) fun hm=>?_
     .refine qS ?_
      refine Wp.ret ?_;simp only[zy,zq];refine zL ?_;cases hm;exact fI
     .refine qS ?_
      refine cN hm (fun hm=>?_) fun hm=>?_
      .refine qS ?_
       refine Wp.ret ?_;simp only[zy,zq];refine zL ?_;cases hm;exact fI
      .refine qS ?_
       refine cN hm (fun hm=>?_) fun hm=>?_
       .refine qS ?_
        refine Wp.ret ?_;simp only[zy,zq];refine zL ?_;cases hm;exact fI
       .exact Wp.skip (Q _ _ (wQ))
 clear t C;refine qS ?_
 refine cN hm (fun hm=>?_) fun hm=>?_
 .obtain⟨G,T,j,U,hm⟩:=fV hm
  replace j:∀d,(List.map eD f.2.2.1).getD 0 d=eD G:=j eD;have hA:=j;refine r6 ?_;refine u _ _ _ _ ?_ (k (IntKind.i64.wrap ((b.length:Int)-(G.length:Int))) hm);simp only[go_sem,simprocAttr,hA]
  try exact lF
 .refine Wp.skip (u _ _ _ _ ?_ (k (b.length:Int) hm))
  exact fI
theorem QS(c:ai)(z:aj×Int)(hm:Hl c=some z):Does prog 44 [.agg [lm za c.m,lm zc c.b,lm za c.i,lm zb c.h]] [] (fun r X=>r=.tup [.agg [pS z.1.v,lm zf z.1.y,lm zf z.1.z],pI z.2]/\X=[]):=by
 unfold Hl at hm
 refine dW 0 26 [.cell 2 83,.tmp 3] func44 fun B=>nA fun hA=>?_
 refine qS ?_;obtain⟨k,f,hm⟩:=zd hm;refine sX (fun hg=>PT c ([115,116,97,103,101,47,106,111,117,114,110,97,108]:eA) _ f) ?_
 refine df fun _ l _=>qS ?_
 refine cN hm (fun hm=>?_) fun hm=>?_
 .refine qS ?_
  refine Wp.ret ?_;simp only[zy,zq];refine zL ?_;cases hm;exact tr
 .refine Wp.skip (l _ _ ?_)
  obtain⟨n,g,hm⟩:=zd hm;refine sF (R7 k.1.q _ g) ?_
  refine df fun _ j _=>qS ?_
  refine cN hm (fun hm=>?_) fun hm=>?_
  .refine qS ?_
   refine Wp.ret ?_;simp only[zy,zq];refine zL ?_;cases hm;exact fI
  .exact Wp.skip (j _ _ (wQ))
theorem M5(f:ai)(c:eA)(z:Bool)(hm:yI f c=some z):Does prog 45 [.agg [lm za f.m,lm zc f.b,lm za f.i,lm zb f.h],pS c] [] (fun r X=>r=pB z/\X=[]):=by
 unfold yI at hm
 refine dW 0 14 [.tmp 4] func45 fun B=>nA fun hA=>?_
 refine qS ?_;obtain⟨j,g,hm⟩:=zd hm;refine sX (fun hg=>PT f c _ g) ?_;exact wQ
theorem PM(b:ab)(z:eA)(hm:CP b=some z):Does prog 125 [.agg [pS b.a,pS b.q,pB b.r]] [] (fun r X=>r=pS z/\X=[]):=by
 unfold CP at hm
 refine dW 0 5 [.tmp 2] func125 fun B=>nA fun hA=>?_
 refine qS ?_;exact wQ
theorem Sk(i:List ab)(j:List ab)(z:List ab×List ab)(hm:H4 i j=some z):Does prog 124 [lm zc i,lm zc j,.fn 125 []] [] (fun r X=>r=.tup [lm zc z.1,lm zc z.2]/\X=[]):=by
 unfold H4 at hm
 refine dW 0 90 [.tmp 6,.tmp 7] func124 fun B=>nA fun hA=>?_
 refine qS ?_;refine qS ?_
 refine df fun K3 L a1=>?_
 obtain⟨S,u,hm⟩:=zj hm
 have E:∀s,S s=some z->K3 [(6,.buf 0),(7,.buf 1)] [.buf 44 3 (List.map zc s.1),.buf 44 3 (List.map zc s.2)]:=by
  intro s hs;have hm:=u _ hs;clear hs;obtain⟨a6,a7⟩:=s
  try dsimp only at hm|-
  exact L _ _ (wQ)
 clear L u;refine Wp.block (di 6 44 3 rfl ?_);simp only[go_sem,simprocAttr];refine di 7 44 3 rfl ?_;simp only[go_sem,simprocAttr];obtain⟨au,F,hm⟩:=jG hm;refine Wp.loopN (fun s=>[(0,lm zc i),(1,lm zc j),(2,.fn 125 []),(6,.buf 0),(7,.buf 1),(8,pI s.1),(9,pI s.2.1)]) (fun s=>[.buf 44 3 (List.map zc s.2.2.1),.buf 44 3 (List.map zc s.2.2.2)]) ?_ hm ?_
 .exact fI
 clear hm;intro s a8 hm;obtain⟨f,g,b,c⟩:=s
 try dsimp only at hm|-
 refine df fun _ a2 _=>qS ?_
 refine cN hm (fun hm=>?_) fun hm=>?_
 .refine Wp.skip (a2 _ _ (Wp.block (qS ?_)))
  refine df fun K9 M C=>?_
  obtain⟨T,v,hm⟩:=zj hm
  have l:∀s,T s=some z->K9 [(0,lm zc i),(1,lm zc j),(2,.fn 125 []),(6,.buf 0),(7,.buf 1),(8,pI f),(9,pI g),(10,pI s)] [.buf 44 3 (List.map zc b),.buf 44 3 (List.map zc c)]:=by
   intro a3 hs;have hm:=v _ hs;clear hs
   try dsimp only at hm|-
   refine M _ _ (Wp.block (qS ?_))
   refine cN hm (fun hm=>?_) fun hm=>?_
   .obtain⟨N,a9,m,ac,hm⟩:=fV hm
    replace m:∀d,(List.map zc i).getD f.toNat d=zc N:=m zc;obtain⟨av,hm⟩:=zh hm;have hA:=m;refine q6 ?_;refine r6 ?_;simp only[zy,zq,↓reduceIte];refine⟨(IntKind.i64.wrap (f+1),g,b++[N],c),hm,?_⟩;simp only[go_sem,simprocAttr,hA]
    try exact lF
   .refine qS ?_
    refine cN hm (fun hm=>?_) fun hm=>?_
    .obtain⟨O,ad,n,af,hm⟩:=fV hm
     replace n:∀d,(List.map zc j).getD g.toNat d=zc O:=n zc;obtain⟨aw,hm⟩:=zh hm;have hA:=n;refine q6 ?_;refine r6 ?_;simp only[zy,zq,↓reduceIte];refine⟨(f,IntKind.i64.wrap (g+1),b,c++[O]),hm,?_⟩;simp only[go_sem,simprocAttr,hA]
     try exact lF
    .refine df fun _ D _=>?_
     obtain⟨U,a4,k,a5,hm⟩:=fV hm;replace k:∀d,(List.map zc i).getD f.toNat d=zc U:=k zc;obtain⟨P,ag,o,an,hm⟩:=fV hm;replace o:∀d,(List.map zc j).getD g.toNat d=zc P:=o zc;have hA:=And.intro k o
     refine dS (pl [(0,none),(1,none),(2,none),(3,none),(4,none),(5,none),(6,none),(7,none),(8,none)]) fun _ V=>V _ _ ?_
     refine cN hm (fun hm=>?_) fun hm=>?_
     .obtain⟨ax,hm⟩:=zh hm
      refine r6 ?_;refine D _ _ (r6 ?_);simp only[zy,zq,↓reduceIte];refine⟨(IntKind.i64.wrap (f+1),IntKind.i64.wrap (g+1),b,c++[P]),hm,?_⟩;simp only[go_sem,simprocAttr,hA]
      try exact lF
     .refine Wp.skip (D _ _ (r6 ?_))
      simp only[zy,zq,↓reduceIte];refine⟨(IntKind.i64.wrap (f+1),IntKind.i64.wrap (g+1),b,c),hm,?_⟩;simp only[go_sem,simprocAttr,hA]
      try exact lF
  clear M v;refine Wp.block (qS ?_)
  refine cN hm (fun hm=>?_) fun hm=>?_
  .refine qR ?_
   refine C _ _ _ _ ?_ (l (-1) hm);exact fI
  .refine qS ?_
   refine cN hm (fun hm=>?_) fun hm=>?_
   .refine qR ?_
    refine C _ _ _ _ ?_ (l 1 hm);exact fI
   .obtain⟨Q,ao,p,ap,hm⟩:=fV hm
    replace p:∀d,(List.map zc i).getD f.toNat d=zc Q:=p zc;obtain⟨W,G,hm⟩:=zd hm;obtain⟨R,aq,t,ar,hm⟩:=fV hm;replace t:∀d,(List.map zc j).getD g.toNat d=zc R:=t zc;obtain⟨Y,I,hm⟩:=zd hm;obtain⟨Z,J,hm⟩:=zd hm;have hA:=And.intro p t
    refine dE (pl [(0,none),(1,none),(2,none),(3,none),(4,none),(5,none),(6,none),(7,none),(8,none),(9,none),(10,none),(11,none),(12,none),(13,none)]) fun _ a0=>?_
    refine cD (fun hg=>PM Q _ G) ?_;refine cD (fun hg=>PM R _ I) ?_;refine cD (fun hg=>KU W Y _ J) (a0 _ _ ?_);refine C _ _ _ _ ?_ (l Z hm);simp only[go_sem,simprocAttr,hA]
    try exact lF
 .refine Wp.exit ?_
  simp only[zy,zq,↓reduceIte];have hm:=F _ hm
  try dsimp only at hm
  refine a1 _ _ _ _ ?_ (E (b,c) hm);exact fI
theorem Sx(i:List aa)(j:List aa)(z:List aa×List aa)(hm:Ig i j=some z):Does prog 126 [lm za i,lm za j,.fn 74 []] [] (fun r X=>r=.tup [lm za z.1,lm za z.2]/\X=[]):=by
 unfold Ig at hm
 refine dW 0 90 [.tmp 6,.tmp 7] func126 fun B=>nA fun hA=>?_
 refine qS ?_;refine qS ?_
 refine df fun K3 L a1=>?_
 obtain⟨S,u,hm⟩:=zj hm
 have E:∀s,S s=some z->K3 [(6,.buf 0),(7,.buf 1)] [.buf 46 2 (List.map za s.1),.buf 46 2 (List.map za s.2)]:=by
  intro s hs;have hm:=u _ hs;clear hs;obtain⟨a6,a7⟩:=s
  try dsimp only at hm|-
  exact L _ _ (wQ)
 clear L u;refine Wp.block (di 6 46 2 rfl ?_);simp only[go_sem,simprocAttr];refine di 7 46 2 rfl ?_;simp only[go_sem,simprocAttr];obtain⟨au,F,hm⟩:=jG hm;refine Wp.loopN (fun s=>[(0,lm za i),(1,lm za j),(2,.fn 74 []),(6,.buf 0),(7,.buf 1),(8,pI s.1),(9,pI s.2.1)]) (fun s=>[.buf 46 2 (List.map za s.2.2.1),.buf 46 2 (List.map za s.2.2.2)]) ?_ hm ?_
 .exact fI
 clear hm;intro s a8 hm;obtain⟨f,g,b,c⟩:=s
 try dsimp only at hm|-
 refine df fun _ a2 _=>qS ?_
 refine cN hm (fun hm=>?_) fun hm=>?_
 .refine Wp.skip (a2 _ _ (Wp.block (qS ?_)))
  refine df fun K9 M C=>?_
  obtain⟨T,v,hm⟩:=zj hm
  have l:∀s,T s=some z->K9 [(0,lm za i),(1,lm za j),(2,.fn 74 []),(6,.buf 0),(7,.buf 1),(8,pI f),(9,pI g),(10,pI s)] [.buf 46 2 (List.map za b),.buf 46 2 (List.map za c)]:=by
   intro a3 hs;have hm:=v _ hs;clear hs
   try dsimp only at hm|-
   refine M _ _ (Wp.block (qS ?_))
   refine cN hm (fun hm=>?_) fun hm=>?_
   .obtain⟨N,a9,m,ac,hm⟩:=fV hm
    replace m:∀d,(List.map za i).getD f.toNat d=za N:=m za;obtain⟨av,hm⟩:=zh hm;have hA:=m;refine q6 ?_;refine r6 ?_;simp only[zy,zq,↓reduceIte];refine⟨(IntKind.i64.wrap (f+1),g,b++[N],c),hm,?_⟩;simp only[go_sem,simprocAttr,hA]
    try exact lF
   .refine qS ?_
    refine cN hm (fun hm=>?_) fun hm=>?_
    .obtain⟨O,ad,n,af,hm⟩:=fV hm
     replace n:∀d,(List.map za j).getD g.toNat d=za O:=n za;obtain⟨aw,hm⟩:=zh hm;have hA:=n;refine q6 ?_;refine r6 ?_;simp only[zy,zq,↓reduceIte];refine⟨(f,IntKind.i64.wrap (g+1),b,c++[O]),hm,?_⟩;simp only[go_sem,simprocAttr,hA]
     try exact lF
    .refine df fun _ D _=>?_
     obtain⟨U,a4,k,a5,hm⟩:=fV hm;replace k:∀d,(List.map za i).getD f.toNat d=za U:=k za;obtain⟨P,ag,o,an,hm⟩:=fV hm;replace o:∀d,(List.map za j).getD g.toNat d=za P:=o za;have hA:=And.intro k o
     refine dS (pl [(0,none),(1,none),(2,none),(3,none),(4,none),(5,none),(6,none),(7,none),(8,none)]) fun _ V=>V _ _ ?_
     refine cN hm (fun hm=>?_) fun hm=>?_
     .obtain⟨ax,hm⟩:=zh hm
      refine r6 ?_;refine D _ _ (r6 ?_);simp only[zy,zq,↓reduceIte];refine⟨(IntKind.i64.wrap (f+1),IntKind.i64.wrap (g+1),b,c++[P]),hm,?_⟩;simp only[go_sem,simprocAttr,hA]
      try exact lF
     .refine Wp.skip (D _ _ (r6 ?_))
      simp only[zy,zq,↓reduceIte];refine⟨(IntKind.i64.wrap (f+1),IntKind.i64.wrap (g+1),b,c),hm,?_⟩;simp only[go_sem,simprocAttr,hA]
      try exact lF
  clear M v;refine Wp.block (qS ?_)
  refine cN hm (fun hm=>?_) fun hm=>?_
  .refine qR ?_
   refine C _ _ _ _ ?_ (l (-1) hm);exact fI
  .refine qS ?_
   refine cN hm (fun hm=>?_) fun hm=>?_
   .refine qR ?_
    refine C _ _ _ _ ?_ (l 1 hm);exact fI
   .obtain⟨Q,ao,p,ap,hm⟩:=fV hm
    replace p:∀d,(List.map za i).getD f.toNat d=za Q:=p za;obtain⟨W,G,hm⟩:=zd hm;obtain⟨R,aq,t,ar,hm⟩:=fV hm;replace t:∀d,(List.map za j).getD g.toNat d=za R:=t za;obtain⟨Y,I,hm⟩:=zd hm;obtain⟨Z,J,hm⟩:=zd hm;have hA:=And.intro p t
    refine dE (pl [(0,none),(1,none),(2,none),(3,none),(4,none),(5,none),(6,none),(7,none),(8,none),(9,none),(10,none),(11,none),(12,none),(13,none)]) fun _ a0=>?_
    refine cD (fun hg=>FK Q _ G) ?_;refine cD (fun hg=>FK R _ I) ?_;refine cD (fun hg=>KU W Y _ J) (a0 _ _ ?_);refine C _ _ _ _ ?_ (l Z hm);simp only[go_sem,simprocAttr,hA]
    try exact lF
 .refine Wp.exit ?_
  simp only[zy,zq,↓reduceIte];have hm:=F _ hm
  try dsimp only at hm
  refine a1 _ _ _ _ ?_ (E (b,c) hm);exact fI
end Go.Proofs.YtkojogldchfkkaaGreatDoor
